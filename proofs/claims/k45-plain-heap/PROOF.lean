import PyProof.Rows.All
import Wide.All
import OpenK.AllK
import Wide.FinOn
import HandS.ForMost
import HandS.Wide
import HandS.Evl
import HandS.IsInst
import HandS.Steps
import HandS.Flow
import HandS.Conv
import HandS.Codes
import HandS.More
import HandS.Replace

import HandS.Style
import HandS.WordsDict
import HandS.SortOrd
import HandS.SortInts
import HandS.SetBool
import PyProof.Rows.TupDisplay
import KE.DataCmp
import PySem.Challenge.RW_surebridge_k45_plain_heap
set_option Elab.async false
set_option linter.all false
set_option maxRecDepth 100000
set_option maxHeartbeats 4000000
/-! a list of ints whose content is not told: the law's deck -/
namespace Dk
open PySem PySem.Spec PyProof.Rows L2

def Ints (l : Addr) (h : Heap) : Prop := ∃ ns : List Int, ns.length ≤ 100000 ∧ ∃ (its : List Value) (n : Nat), Vals (ns.map V.int) its ∧ h.get? l = some { cls := .type "list", data := .seq its.toArray n }
def DkO (l : Addr) : HO := .ext (Ints l)
theorem sz5 {n : Nat} (h : n ≤ 100000) : n ≤ sizeLine := Nat.le_trans h (by decide)
section
variable {P : Program} {w : World} {H H' : Hp} {h h' : Heap} {l : Addr} {o o' : HO} {fs ex : List Addr}
/-- another word for what stands at x -/
theorem retag (ok : HOk P w H h) (hx : H l = some o) (n1 : ∀ y, o ≠ .own y) (n2 : ∀ xs, o ≠ .tup xs) (new : ObjOk P w (upd H l o') h l o') : HOk P w (upd H l o') h := fun b u e => by
  by_cases hb : b = l
  · subst hb; rw [upd_same] at e; cases e; exact new
  · rw [upd_ne hb] at e
    refine (ok b u e).stay (fun c v _ q => q) (fun c q => ?_) fun c xs q => ?_
    · rw [upd_ne (fun z => by subst z; rw [hx] at q; exact n1 _ (Option.some.inj q))]; exact q
    · rw [upd_ne (fun z => by subst z; rw [hx] at q; exact n2 _ (Option.some.inj q))]; exact q
theorem upd_id (hx : H l = some o) : upd H l o = H := by
  funext b
  by_cases hb : b = l
  · rw [hb, upd_same, hx]
  · rw [upd_ne hb]
theorem dk_open (ok : HOk P w H h) (hx : H l = some (DkO l)) : ∃ ns : List Int, ns.length ≤ 100000 ∧ HOk P w (upd H l (.lst (ns.map V.int))) h := by
  have x : ObjOk P w H h l (.ext (Ints l)) := ok l _ hx
  obtain ⟨⟨ns, hn, its, n, r, e⟩, _, _⟩ := x
  refine ⟨ns, hn, retag ok hx (fun y z => by cases z) (fun y z => by cases z) ?_⟩
  exact ⟨by rw [List.length_map]; exact sz5 hn, its, n, r, e⟩
theorem dk_close {ns : List Int} (ok : HOk P w H h) (hx : H l = some (.lst (ns.map V.int))) (hn : ns.length ≤ 100000) : HOk P w (upd H l (DkO l)) h := by
  have x : ObjOk P w H h l (.lst (ns.map V.int)) := ok l _ hx
  obtain ⟨_, its, n, r, e⟩ := x
  refine retag ok hx (fun y z => by cases z) (fun y z => by cases z) ?_
  exact ⟨⟨ns, hn, its, n, r, e⟩, ⟨_, e⟩, fun h1 h2 z k => by
    obtain ⟨ms, hm, its', n', r', e'⟩ := z
    exact ⟨ms, hm, its', n', r', k _ e'⟩⟩
/-- untouched: another word at l on either side -/
theorem un_left {o1 : HO} (u : Un fs ex (upd H l o1) H' h h') (hx : H l = some o) (n2 : ∀ xs, o ≠ .tup xs) (n3 : ∀ o' v, o ≠ .frz o' v) (n4 : ∀ ps, o ≠ .tbl ps) : Un fs ex H H' h h' where
  keep := fun b q e n hb he => u.keep b q e (by rw [upd_ne (fun z => by subst z; rw [hx] at n; cases n)]; exact n) hb he
  slot := fun b q e n hb he => u.slot b q e (by rw [upd_ne (fun z => by subst z; rw [hx] at n; cases n)]; exact n) hb he
  free := fun b q e n he => u.free b q e (by rw [upd_ne (fun z => by subst z; rw [hx] at n; cases n)]; exact n) he
  there := u.there
  tups := fun b xs q => u.tups b xs (by rw [upd_ne (fun z => by subst z; rw [hx] at q; exact n2 _ (Option.some.inj q))]; exact q)
  frzs := fun b o v q => u.frzs b o v (by rw [upd_ne (fun z => by subst z; rw [hx] at q; exact n3 _ _ (Option.some.inj q))]; exact q)
  tbls := fun b ps q => u.tbls b ps (by rw [upd_ne (fun z => by subst z; rw [hx] at q; exact n4 _ (Option.some.inj q))]; exact q)
theorem un_right {o1 : HO} (u : Un fs ex H H' h h') (hx : H' l = some o) (n2 : ∀ xs, o ≠ .tup xs) (n3 : ∀ o' v, o ≠ .frz o' v) (n4 : ∀ ps, o ≠ .tbl ps) : Un fs ex H (upd H' l o1) h h' where
  keep := u.keep
  slot := u.slot
  free := fun b q e n he => by
    have z := u.free b q e n he
    rw [upd_ne (fun y => by subst y; rw [hx] at z; cases z)]; exact z
  there := u.there
  tups := fun b xs q => by
    have z := u.tups b xs q
    rw [upd_ne (fun y => by subst y; rw [hx] at z; exact n2 _ (Option.some.inj z))]; exact z
  frzs := fun b o v q => by
    have z := u.frzs b o v q
    rw [upd_ne (fun y => by subst y; rw [hx] at z; exact n3 _ _ (Option.some.inj z))]; exact z
  tbls := fun b ps q => by
    obtain ⟨m, z⟩ := u.tbls b ps q
    exact ⟨m, by rw [upd_ne (fun y => by subst y; rw [hx] at z; exact n4 _ (Option.some.inj z))]; exact z⟩
end
/-- take(deck, many), told of the list | of a deck -/
def spTakeC : Sp := fun vs H Q _ => ∃ (l : Addr) (ns : List Int) (m : Int), vs = [.ref l, .int m] ∧ H l = some (.lst (ns.map V.int)) ∧ ns.length ≤ 100000 ∧ 0 < m ∧
  ∀ (k : Int) (ns' : List Int), 0 ≤ k → k < m → ns'.length ≤ 100000 → Q (.int k) (upd H l (.lst (ns'.map V.int)))
def spTake : Sp := fun vs H Q _ => ∃ (l : Addr) (m : Int), vs = [.ref l, .int m] ∧ H l = some (DkO l) ∧ 0 < m ∧ ∀ k : Int, 0 ≤ k → k < m → Q (.int k) H
/-- deck(script, cells, each), told of the list | of a deck -/
def spDeckC (K : PySem.W.Frag) : Sp := fun vs H Q _ => ∃ (a : Addr) (ns : List Int) (c e : Int), vs = [.ref a, .int c, .int e] ∧ SqL K H a (ns.map V.int) ∧ ns.length ≤ 63 ∧ 0 ≤ c ∧ 0 ≤ e ∧ c ≤ 64 ∧ e ≤ 64 ∧
  ∀ (l : Addr) (ms : List Int) (H' : Hp), H l = none → H' = upd H l (.lst (ms.map V.int)) → ms.length ≤ 100000 → Q (.ref l) H'
def spDeck (K : PySem.W.Frag) : Sp := fun vs H Q _ => ∃ (a : Addr) (ns : List Int) (c e : Int), vs = [.ref a, .int c, .int e] ∧ SqL K H a (ns.map V.int) ∧ ns.length ≤ 63 ∧ 0 ≤ c ∧ 0 ≤ e ∧ c ≤ 64 ∧ e ≤ 64 ∧
  ∀ (l : Addr), H l = none → Q (.ref l) (upd H l (DkO l))
section
variable {P : Program} {w : World} {K : PySem.W.Frag} {mg : Str → Option Value} {base : Heap} {k : Nat} {f : Addr} {fd : FuncData} {ps : List Str}
theorem dk_tup {l : Addr} (xs : List V) : DkO l ≠ .tup xs := fun z => by
  have z' : HO.ext _ = HO.tup xs := z
  cases z'
theorem dk_frz {l : Addr} (o : Obj) (v : HO) : DkO l ≠ .frz o v := fun z => by
  have z' : HO.ext _ = HO.frz o v := z
  cases z'
theorem dk_tbl {l : Addr} (xs : Array Value) : DkO l ≠ .tbl xs := fun z => by
  have z' : HO.ext _ = HO.tbl xs := z
  cases z'
theorem ok_take (F : FnOk P w K mg base CX0 k f fd ps spTakeC) : FnOk P w K mg base CX0 k f fd ps spTake where
  len := fun vs H Q E h => by
    obtain ⟨l, m, e, h1, h2, h3⟩ := h
    exact F.len vs (upd H l (.lst (([] : List Int).map V.int))) (fun _ _ => True) E ⟨l, [], m, e, upd_same, by decide, h2, fun _ _ _ _ _ => trivial⟩
  run := fun A outer s H args us vs Q E hr he hb hv h => by
    obtain ⟨l, m, e, h1, h2, h3⟩ := h
    obtain ⟨ns, hn, ok⟩ := dk_open he.hok h1
    have nb : ∀ b, H b = none → b ≠ l := fun b n z => by rw [z, h1] at n; cases n
    have he1 : Env0 P w K mg base A outer s (upd H l (.lst (ns.map V.int))) := ⟨he.frames, he.mod, fun b o q => ⟨(he.bs b o q).1, by rw [upd_ne (nb b (he.bs b o q).2)]; exact (he.bs b o q).2⟩, he.bsz, he.funs, fun b q => by rw [upd_ne (nb b (he.frf b q))]; exact he.frf b q, ok, he.bare⟩
    refine codeAny_mono (F.run A outer s _ args us vs (fun v H1 => ∃ ns' : List Int, ns'.length ≤ 100000 ∧ H1 = upd H l (.lst (ns'.map V.int)) ∧ Q v H) E hr he1 hb hv ⟨l, ns, m, e, upd_same, hn, h2, fun k ns' k0 k1 hl => ⟨ns', hl, by rw [upd_upd], h3 k k0 k1⟩⟩) fun r s' q => ?_
    cases r with
    | error e => exact q
    | ok fl =>
      cases fl with
      | ret u =>
        obtain ⟨v, H1, os, bare, un, hok, rv, ns', hl, e1, q⟩ := q
        subst e1
        have g : upd (upd H l (.lst (ns'.map V.int))) l (DkO l) = H := by rw [upd_upd]; exact upd_id h1
        have hok' := dk_close hok upd_same hl
        have un1 := un_left un h1 dk_tup dk_frz dk_tbl
        have un2 := un_right (o1 := DkO l) un1 upd_same (fun _ z => by cases z) (fun _ _ z => by cases z) (fun _ z => by cases z)
        rw [g] at hok' un2
        exact ⟨v, H, os, bare, un2, hok', rv, q⟩
      | next => exact q
      | brk => exact q
      | cont => exact q
theorem ok_deck (F : FnOk P w K mg base CX0 k f fd ps (spDeckC K)) : FnOk P w K mg base CX0 k f fd ps (spDeck K) where
  len := fun vs H Q E h => by
    obtain ⟨a, ns, c, e, h1, h2, h3, h4, h5, h6, h7, h8⟩ := h
    exact F.len vs H (fun _ _ => True) E ⟨a, ns, c, e, h1, h2, h3, h4, h5, h6, h7, fun _ _ _ _ _ _ => trivial⟩
  run := fun A outer s H args us vs Q E hr he hb hv h => by
    obtain ⟨a, ns, c, e, h1, h2, h3, h4, h5, h6, h7, h8⟩ := h
    refine codeAny_mono (F.run A outer s _ args us vs (fun v H1 => ∃ (l : Addr) (ms : List Int), ms.length ≤ 100000 ∧ H l = none ∧ H1 = upd H l (.lst (ms.map V.int)) ∧ v = .ref l) E hr he hb hv ⟨a, ns, c, e, h1, h2, h3, h4, h5, h6, h7, fun l ms H' n e q => ⟨l, ms, q, n, e, rfl⟩⟩) fun r s' q => ?_
    cases r with
    | error e => exact q
    | ok fl =>
      cases fl with
      | ret u =>
        obtain ⟨v, H1, os, bare, un, hok, rv, l, ms, hl, n, e1, ev⟩ := q
        subst e1
        subst ev
        have hok' := dk_close hok upd_same hl
        have un2 := un_right (o1 := DkO l) un upd_same (fun _ z => by cases z) (fun _ _ z => by cases z) (fun _ z => by cases z)
        rw [upd_upd] at hok' un2
        exact ⟨.ref l, _, os, bare, un2, hok', rv, h8 l n⟩
      | next => exact q
      | brk => exact q
      | cont => exact q
end
end Dk

/-! readings, one rule a construct, for a walk by `first` -/
namespace Rd
open PySem PySem.Spec PyProof.Rows L2 Evl Dk
section
variable {σ σ' : L2.St} {H H' H1 : Hp} {Q : VK} {v x y z : V} {ta tb te tc : TE} {K : PySem.W.Frag} {i j : Int} {D : Ends} {t u : TS} {ct cu : TT} {QB : Bool → Hp → Prop} {QA : List V → Hp → Prop} {al bl : TA} {xs ys : List V} {a l C dx : Addr} {fs : List (Str × V)} {A B : Prop} {r : R2}
theorem var {n : Nat} (h : σ[n]? = some (some v)) (q : Q v H) : tVar n σ H Q := ⟨v, h, q⟩
theorem c (q : Q v H) : tC v σ H Q := q
theorem op (h : ta σ H fun x H1 => tb σ H1 fun y H2 => r x y H2 Q) : tOp r ta tb σ H Q := h
theorem un {r : V → Hp → VK → Prop} (h : ta σ H fun x H1 => r x H1 Q) : tUn r ta σ H Q := h
theorem i0 {g : Int → Int → V} (q : Q (g i j) H) : rI0 g (.int i) (.int j) H Q := ⟨i, j, rfl, rfl, q⟩
theorem i1 {C : Int → Int → Prop} {g : Int → Int → V} (c : C i j) (q : Q (g i j) H) : rI C g (.int i) (.int j) H Q := ⟨i, j, rfl, rfl, c, q⟩
theorem u0 {g : Int → V} (q : Q (g i) H) : rU g (.int i) H Q := ⟨i, rfl, q⟩
theorem dI : decide (V.int i = V.int j) = decide (i = j) := decide_eq_decide.mpr ⟨V.int.inj, congrArg V.int⟩
theorem dS {s t : Str} : decide (V.str s = V.str t) = decide (s = t) := decide_eq_decide.mpr ⟨V.str.inj, congrArg V.str⟩
theorem dB {s t : Bool} : decide (V.bl s = V.bl t) = decide (s = t) := decide_eq_decide.mpr ⟨V.bl.inj, congrArg V.bl⟩
theorem eqI (q : Q (.bl (decide (i = j))) H) : rEq (.int i) (.int j) H Q := ⟨rfl, by rw [dI]; exact q⟩
theorem neI (q : Q (.bl (!decide (i = j))) H) : rNe (.int i) (.int j) H Q := ⟨rfl, by rw [dI]; exact q⟩
theorem eqS {s t : Str} (q : Q (.bl (decide (s = t))) H) : rEq (.str s) (.str t) H Q := ⟨rfl, by rw [dS]; exact q⟩
theorem neS {s t : Str} (q : Q (.bl (!decide (s = t))) H) : rNe (.str s) (.str t) H Q := ⟨rfl, by rw [dS]; exact q⟩
theorem eqX (h : scal x y = true) (q : Q (.bl (decide (x = y))) H) : rEq x y H Q := ⟨h, q⟩
theorem neX (h : scal x y = true) (q : Q (.bl (!decide (x = y))) H) : rNe x y H Q := ⟨h, q⟩
theorem isN (q : Q (.bl (decide (x = .non))) H) : rIsN x .non H Q := ⟨rfl, q⟩
theorem notN (q : Q (.bl (!decide (x = .non))) H) : rNotN x .non H Q := ⟨rfl, q⟩
theorem isN_non (q : Q (.bl true) H) : rIsN .non .non H Q := ⟨rfl, q⟩
theorem notN_non (q : Q (.bl false) H) : rNotN .non .non H Q := ⟨rfl, q⟩
theorem isN_int (q : Q (.bl false) H) : rIsN (.int i) .non H Q := ⟨rfl, q⟩
theorem notN_int (q : Q (.bl true) H) : rNotN (.int i) .non H Q := ⟨rfl, q⟩
theorem isN_ref (q : Q (.bl false) H) : rIsN (.ref a) .non H Q := ⟨rfl, q⟩
theorem notN_ref (q : Q (.bl true) H) : rNotN (.ref a) .non H Q := ⟨rfl, q⟩
theorem isN_str {s : Str} (q : Q (.bl false) H) : rIsN (.str s) .non H Q := ⟨rfl, q⟩
theorem notN_str {s : Str} (q : Q (.bl true) H) : rNotN (.str s) .non H Q := ⟨rfl, q⟩
/-- a value that must be a truth value -/
def xT (x : V) (H : Hp) (Q : Bool → Hp → Prop) : Prop := ∃ k, x = .bl k ∧ Q k H
theorem xt {b : Bool} (q : QB b H) : xT (.bl b) H QB := ⟨b, rfl, q⟩
theorem test (h : te σ H fun x H' => xT x H' QB) : tTest te σ H QB := h
theorem tbv (h : te σ H fun x H' => xT x H' QB) : tB te σ H QB := h
theorem andT (h : ct σ H fun c H1 => if c = true then cu σ H1 QB else QB false H1) : tAnd ct cu σ H QB := h
theorem orT (h : ct σ H fun c H1 => if c = true then QB true H1 else cu σ H1 QB) : tOr ct cu σ H QB := h
theorem notT (h : ct σ H fun c H1 => QB (!c) H1) : tNot ct σ H QB := h
theorem andV (h : ta σ H fun x H1 => xT x H1 fun c H1 => if c = true then te σ H1 Q else Q (.bl false) H1) : tAndV ta te σ H Q := h
theorem orV (h : ta σ H fun x H1 => xT x H1 fun c H1 => if c = true then Q (.bl true) H1 else te σ H1 Q) : tOrV ta te σ H Q := h
theorem notV (h : ta σ H fun x H1 => xT x H1 fun c H1 => Q (.bl (!c)) H1) : tNotV ta σ H Q := h
theorem ifE (h : ct σ H fun c H1 => if c = true then ta σ H1 Q else tb σ H1 Q) : tIf ct ta tb σ H Q := h
theorem chain {r r' : R2} (h : ta σ H fun x H1 => tb σ H1 fun y H2 => r x y H2 fun z H3 => xT z H3 fun k H3 => if k = true then tc σ H3 fun w H4 => r' y w H4 Q else Q (.bl false) H3) : tChain r r' ta tb tc σ H Q := h
theorem ifT {p : Prop} [Decidable p] (hp : p) (h : A) : if decide p = true then A else B := by rw [if_pos (decide_eq_true hp)]; exact h
theorem ifF {p : Prop} [Decidable p] (hp : ¬ p) (h : B) : if decide p = true then A else B := by rw [decide_eq_false hp, if_neg Bool.false_ne_true]; exact h
theorem ifd {p : Prop} [Decidable p] (h1 : p → A) (h2 : ¬ p → B) : if decide p = true then A else B := by
  by_cases hp : p
  · exact ifT hp (h1 hp)
  · exact ifF hp (h2 hp)
theorem ifNT {p : Prop} [Decidable p] (hp : ¬ p) (h : A) : if (!decide p) = true then A else B := by rw [decide_eq_false hp]; exact iteT h
theorem ifNF {p : Prop} [Decidable p] (hp : p) (h : B) : if (!decide p) = true then A else B := by rw [decide_eq_true hp]; exact iteF h
theorem ifNd {p : Prop} [Decidable p] (h1 : ¬ p → A) (h2 : p → B) : if (!decide p) = true then A else B := by
  by_cases hp : p
  · exact ifNF hp (h2 hp)
  · exact ifNT hp (h1 hp)
theorem ifTT (h : A) : if true = true then A else B := iteT h
theorem ifFF (h : B) : if false = true then A else B := iteF h
theorem ifNTT (h : A) : if (!false) = true then A else B := iteT h
theorem ifNFF (h : B) : if (!true) = true then A else B := iteF h
theorem ifNN {b : Bool} (h : if b = true then A else B) : if (!!b) = true then A else B := by rw [Bool.not_not]; exact h
theorem ifb {b : Bool} (h1 : b = true → A) (h2 : b = false → B) : if b = true then A else B := by
  cases b with
  | true => exact iteT (h1 rfl)
  | false => exact iteF (h2 rfl)
theorem ifbT {b : Bool} (hb : b = true) (h : A) : if b = true then A else B := by rw [hb]; exact iteT h
theorem ifbF {b : Bool} (hb : b = false) (h : B) : if b = true then A else B := by rw [hb]; exact iteF h
theorem ifNbT {b : Bool} (hb : b = false) (h : A) : if (!b) = true then A else B := by rw [hb]; exact iteT h
theorem ifNbF {b : Bool} (hb : b = true) (h : B) : if (!b) = true then A else B := by rw [hb]; exact iteF h
-- statements
theorem seq (h : t { D with nx := u D } σ H) : tSeq t u D σ H := h
theorem ifS (h : ct σ H fun b H1 => if b = true then t D σ H1 else u D σ H1) : tIfS ct t u D σ H := h
theorem asg {g : TG} (h : te σ H fun x H1 => g x σ H1 D.nx) : tAsg te g D σ H := h
theorem gnm {n : Nat} {Q : L2.St → Hp → Prop} (h : Q (σ.set n (some v)) H) : gName n v σ H Q := h
theorem ret (h : te σ H D.rt) : tRet te D σ H := h
theorem retN (h : D.rt .non H) : tRetN D σ H := h
theorem drop (h : te σ H fun _ H1 => D.nx σ H1) : tDrop te D σ H := h
theorem nxt (h : D.nx σ H) : tNext D σ H := h
theorem brk (h : D.bk σ H) : tBreak D σ H := h
theorem cnt (h : D.ct σ H) : tCont D σ H := h
theorem aug {n : Nat} {ti : TIp} (hx : σ[n]? = some (some x)) (h : te σ H fun y H1 => ti x y H1 fun z H2 => D.nx (σ.set n (some z)) H2) : tAug n te ti D σ H := ⟨x, hx, h⟩
theorem ipi {f : Int → Int → Int} (q : Q (.int (f i j)) H) : ipI f (.int i) (.int j) H Q := ⟨i, j, rfl, rfl, q⟩
theorem par {n m : Nat} (h : al σ H fun vs H1 => ∃ v w, vs = [v, w] ∧ D.nx ((σ.set n (some v)).set m (some w)) H1) : tPar n m al D σ H := h
theorem par2 {N : V → V → Prop} {w : V} (h : N v w) : ∃ v' w', [v, w] = [v', w'] ∧ N v' w' := ⟨v, w, rfl, h⟩
/-- targets: a tuple to names -/
theorem gtup {n : Nat} {g : TGs} {Q : L2.St → Hp → Prop} (h : SqT K H a xs) (hn : xs.length = n) (q : g xs σ H Q) : gTup K n g (.ref a) σ H Q := ⟨a, xs, rfl, h, hn, q⟩
theorem gcons {g : TG} {gs : TGs} {Q : L2.St → Hp → Prop} (q : g v σ H fun σ' H' => gs xs σ' H' Q) : gCons g gs (v :: xs) σ H Q := ⟨v, xs, rfl, q⟩
theorem gnil {Q : L2.St → Hp → Prop} (q : Q σ H) : gNil [] σ H Q := ⟨rfl, q⟩
theorem gsub {te2 : TE} {ts : TSet} {Q : L2.St → Hp → Prop} (h : te σ H fun o H1 => te2 σ H1 fun i H2 => ts o i v H2 fun H3 => Q σ H3) : gSub te te2 ts v σ H Q := h
theorem setL {R : Hp → Prop} {n : Nat} (h : H l = some (.lst xs)) (hi : ixN xs.length i = some n) (q : R (upd H l (.lst (xs.set n v)))) : rSetL (.ref l) (.int i) v H R := ⟨l, xs, i, n, rfl, rfl, h, hi, q⟩
-- arguments
theorem nil (q : QA [] H) : tNil σ H QA := q
theorem cons (h : ta σ H fun x H1 => al σ H1 fun xs H2 => QA (x :: xs) H2) : tCons ta al σ H QA := h
theorem cb {r : List V → Hp → VK → Prop} (h : al σ H fun vs H1 => r vs H1 Q) : tCB r al σ H Q := h
theorem call {sp : Sp} {dvs : List V} {E : XK} (h : al σ H fun vs H1 => sp (vs ++ dvs) H1 Q E) : tCall sp dvs E al σ H Q := h
-- displays
def xTup (xs : List V) (H : Hp) (Q : VK) : Prop := xs.length ≤ sizeLine ∧ ∀ p, H p = none → Q (.ref p) (upd H p (.tup xs))
def xLst (xs : List V) (H : Hp) (Q : VK) : Prop := xs.length ≤ sizeLine ∧ ∀ p, H p = none → Q (.ref p) (upd H p (.lst xs))
theorem tup (h : al σ H fun xs H1 => xTup xs H1 Q) : tTup al σ H Q := h
theorem lst (h : al σ H fun xs H1 => xLst xs H1 Q) : tLst al σ H Q := h
theorem sz_le {n : Nat} (h : Nat.ble n 100000 = true) : n ≤ sizeLine := Dk.sz5 (Nat.le_of_ble_eq_true h)
theorem xtup (n : Nat.ble xs.length 100000 = true) (q : ∀ p H', H p = none → Ex H H' → H' p = some (.tup xs) → Q (.ref p) H') : xTup xs H Q := ⟨sz_le n, fun p hp => q p _ hp (Ex.new hp) upd_same⟩
theorem xlst (n : Nat.ble xs.length 100000 = true) (q : ∀ p H', H p = none → Ex H H' → H' p = some (.lst xs) → Q (.ref p) H') : xLst xs H Q := ⟨sz_le n, fun p hp => q p _ hp (Ex.new hp) upd_same⟩
theorem xlstU (n : Nat.ble xs.length 100000 = true) (q : ∀ p, H p = none → Q (.ref p) (upd H p (.lst xs))) : xLst xs H Q := ⟨sz_le n, q⟩
-- subscripts
theorem ixL (h : SqL K H l xs) (ha : atI xs i = some v) (q : Q v H) : rIxL K (.ref l) (.int i) H Q := ⟨l, xs, i, v, rfl, rfl, h, ha, q⟩
theorem ixT (h : SqT K H l xs) (ha : atI xs i = some v) (q : Q v H) : rIxT K (.ref l) (.int i) H Q := ⟨l, xs, i, v, rfl, rfl, h, ha, q⟩
-- fields
def rFld (K : PySem.W.Frag) (f : Str) (x : V) (H : Hp) (Q : VK) : Prop := ∃ a C dx fs v, x = .ref a ∧ H a = some (.ins C dx fs) ∧ Cls K C ∧ NoAttr K C f ∧ fs.lookup f = some v ∧ Q v H
theorem fld {f : Str} (h : ta σ H fun x H1 => rFld K f x H1 Q) : tFld K ta f σ H Q := h
theorem rfld {f : Str} (h : H a = some (.ins C dx fs)) (c : Cls K C) (n : NoAttr K C f) (lk : fs.lookup f = some v) (q : Q v H) : rFld K f (.ref a) H Q := ⟨a, C, dx, fs, v, rfl, h, c, n, lk, q⟩
def rSt (K : PySem.W.Frag) (f : Str) (v x : V) (H : Hp) (N : Hp → Prop) : Prop := ∃ a C dx fs, x = .ref a ∧ H a = some (.ins C dx fs) ∧ Cls K C ∧ NoAttr K C f ∧ fs.length < 1000 ∧ N (upd H a (.ins C dx (putF f v fs)))
-- methods
def xMeth (C : Addr) (m : Str) (x : V) (H : Hp) (P : Prop) : Prop := ∃ a dx fs, x = .ref a ∧ H a = some (.ins C dx fs) ∧ fs.lookup m = none ∧ P
theorem meth {m : Str} {sp : Sp} {dvs : List V} {E : XK} (h : ta σ H fun x H1 => xMeth C m x H1 (al σ H1 fun vs H2 => sp (x :: (vs ++ dvs)) H2 Q E)) : tMeth C m sp dvs E ta al σ H Q :=
  h
def xTy (K : PySem.W.Frag) (T : String) (x : V) (H : Hp) (P : Prop) : Prop := tyV K T x H ∧ P
theorem bm {T : String} {r : V → List V → Hp → VK → Prop} (h : te σ H fun x H1 => xTy K T x H1 (al σ H1 fun xs H2 => r x xs H2 Q)) : tBM K T r te al σ H Q := h
theorem bm0 {T : String} {r : V → List V → Hp → VK → Prop} (h : te σ H fun x H1 => xTy K T x H1 (r x [] H1 Q)) : tBM0 K T r te σ H Q := h
theorem xtyL {P : Prop} (h : SqL K H l xs) (p : P) : xTy K "list" (.ref l) H P := ⟨.inl ⟨rfl, _, h⟩, p⟩
theorem append (h : H l = some (.lst xs)) (n : xs.length < 100000) (q : Q .non (upd H l (.lst (xs ++ [v])))) : rAppend (.ref l) [v] H Q := ⟨l, xs, v, rfl, rfl, h, sz_lt n, q⟩
theorem reverse (h : H l = some (.lst xs)) (q : Q .non (upd H l (.lst xs.reverse))) : rReverse (.ref l) [] H Q := ⟨l, xs, rfl, rfl, h, q⟩
theorem pop (h : H l = some (.lst xs)) (hl : xs[xs.length - 1]? = some y) (q : Q y (upd H l (.lst xs.dropLast))) : rPop (.ref l) [] H Q := ⟨l, xs, y, rfl, rfl, h, hl, q⟩
end
end Rd
namespace Rd
open PySem PySem.Spec PyProof.Rows L2
section
variable {X : Cx}
def rLen (K : PySem.W.Frag) : List V → Hp → VK → Prop := fun xs H Q => ∃ p ys, xs = [.ref p] ∧ (SqL K H p ys ∨ SqT K H p ys) ∧ Q (.int ys.length) H
theorem c_len : CallR X (.builtin "len") (rLen X.K) := call_len_seq
def rLenStr : List V → Hp → VK → Prop := fun xs H Q => ∃ z, xs = [.str z] ∧ z.length ≤ sizeLine ∧ Q (.int z.length) H
theorem c_lenS : CallR X (.builtin "len") rLenStr := call_len_str
def rAbs : List V → Hp → VK → Prop := fun xs H Q => ∃ i, xs = [.int i] ∧ Q (.int (if i < 0 then -i else i)) H
theorem c_abs : CallR X (.builtin "abs") rAbs := call_abs
def rInt1 : List V → Hp → VK → Prop := fun xs H Q => (∃ i, xs = [.int i] ∧ Q (.int i) H) ∨ ∃ k, xs = [.bl k] ∧ Q (.int (if k then 1 else 0)) H
theorem c_int : CallR X (.type "int") rInt1 := call_int1
def rListOf (K : PySem.W.Frag) : List V → Hp → VK → Prop := fun xs H Q => ∃ p ys, xs = [.ref p] ∧ (SqL K H p ys ∨ SqT K H p ys) ∧ ∀ l, H l = none → Q (.ref l) (upd H l (.lst ys))
theorem c_list : CallR X (.type "list") (rListOf X.K) := call_list_of
def rMax2 : List V → Hp → VK → Prop := fun xs H Q => ∃ i j, xs = [.int i, .int j] ∧ Q (.int (if j > i then j else i)) H
theorem c_max2 (hc : X.calm = true) : CallR X (.builtin "max") rMax2 := call_max2 hc
def rMin2 : List V → Hp → VK → Prop := fun xs H Q => ∃ i j, xs = [.int i, .int j] ∧ Q (.int (if j < i then j else i)) H
theorem c_min2 (hc : X.calm = true) : CallR X (.builtin "min") rMin2 := call_min2 hc
end
end Rd
namespace Rd
open PySem PySem.Spec PyProof.Rows L2 Evl Dk
section
variable {σ : L2.St} {H : Hp} {Q : VK} {x : V} {K : PySem.W.Frag} {i j : Int} {xs : List V} {l : Addr}
theorem len (h : SqL K H l xs) (q : Q (.int xs.length) H) : Rd.rLen K [.ref l] H Q := ⟨l, xs, rfl, .inl h, q⟩
theorem lenT (h : SqT K H l xs) (q : Q (.int xs.length) H) : Rd.rLen K [.ref l] H Q := ⟨l, xs, rfl, .inr h, q⟩
theorem lenS {s : Str} (h : s.length ≤ 100000) (q : Q (.int s.length) H) : Rd.rLenStr [.str s] H Q := ⟨s, rfl, sz_of h, q⟩
theorem abs (q : Q (.int (if i < 0 then -i else i)) H)   : Rd.rAbs [.int i] H Q := ⟨i, rfl, q⟩
theorem int (q : Q (.int i) H) : Rd.rInt1 [.int i] H Q := .inl ⟨i, rfl, q⟩
theorem intB {k : Bool} (q : Q (.int (if k then 1 else 0)) H) : Rd.rInt1 [.bl k] H Q := .inr ⟨k, rfl, q⟩
theorem listOf (h : SqL K H l xs) (q : ∀ p H', H p = none → Ex H H' → H' p = some (.lst xs) → Q (.ref p) H') : Rd.rListOf K [.ref l] H Q := ⟨l, xs, rfl, .inl h, fun p hp => q p _ hp (Ex.new hp) upd_same⟩
theorem listOfU (h : SqL K H l xs) (q : ∀ p, H p = none → Q (.ref p) (upd H p (.lst xs))) : Rd.rListOf K [.ref l] H Q := ⟨l, xs, rfl, .inl h, q⟩
theorem max2 (q : Q (.int (if j > i then j else i)) H) : Rd.rMax2 [.int i, .int j] H Q := ⟨i, j, rfl, q⟩
theorem min2 (q : Q (.int (if j < i then j else i)) H) : Rd.rMin2 [.int i, .int j] H Q := ⟨i, j, rfl, q⟩
theorem take {m : Int} {E : XK} (h : H l = some (DkO l)) (hm : 0 < m) (q : ∀ k : Int, 0 ≤ k → k < m → Q (.int k) H) : spTake ([.ref l, .int m] ++ []) H Q E := ⟨l, m, rfl, h, hm, q⟩
end
end Rd
/-! ### data of any depth: what it is made of, and that it stays -/
namespace Dt
open PySem PySem.Spec PyProof.Rows L2 Evl
section
variable {K : PySem.W.Frag} {H H' : Hp} {v : V} {xs vs : List V} {d : PyData} {ds : List PyData} {a : Addr}
mutual
theorem mono (e : Ex H H') : ∀ (d : PyData) (v : V), Dp K H v d → Dp K H' v d
  | .none, _, h => by cases h; exact .non
  | .bool b, _, h => by cases h; exact .bl b
  | .int i, _, h => by cases h; exact .int i
  | .str x, _, h => by cases h; exact .str x
  | .list ds, _, h => by
    cases h with
    | lst hs ha => exact .lst (ex_l e hs) (monoAll e ds _ ha)
  | .tuple ds, _, h => by
    cases h with
    | tup hs ha => exact .tup (ex_t e hs) (monoAll e ds _ ha)
  | .dict _, _, h => by cases h
theorem monoAll (e : Ex H H') : ∀ (ds : List PyData) (vs : List V), DpAll K H vs ds → DpAll K H' vs ds
  | [], _, h => by cases h; exact .nil
  | d :: ds, _, h => by
    cases h with
    | cons h1 h2 => exact .cons (mono e d _ h1) (monoAll e ds _ h2)
end
theorem mn (h : Dp K H v d) (e : Ex H H') : Dp K H' v d := mono e d v h
theorem mnA (h : DpAll K H vs ds) (e : Ex H H') : DpAll K H' vs ds := monoAll e ds vs h
theorem inv_l (h : Dp K H v (.list ds)) : ∃ a xs, v = .ref a ∧ SqL K H a xs ∧ DpAll K H xs ds := by
  cases h with
  | lst hs ha => exact ⟨_, _, rfl, hs, ha⟩
theorem inv_t (h : Dp K H v (.tuple ds)) : ∃ a xs, v = .ref a ∧ SqT K H a xs ∧ DpAll K H xs ds := by
  cases h with
  | tup hs ha => exact ⟨_, _, rfl, hs, ha⟩
theorem inv_i {i : Int} (h : Dp K H v (.int i)) : v = .int i := by cases h; rfl
theorem inv_s {s : Str} (h : Dp K H v (.str s)) : v = .str s := by cases h; rfl
theorem inv_b {b : Bool} (h : Dp K H v (.bool b)) : v = .bl b := by cases h; rfl
theorem inv_n (h : Dp K H v .none) : v = .non := by cases h; rfl
theorem lenA : ∀ {vs : List V} {ds : List PyData}, DpAll K H vs ds → vs.length = ds.length
  | _, [], h => by cases h; rfl
  | _, d :: ds, h => by
    cases h with
    | cons _ h2 => simp [lenA h2]
theorem getA : ∀ {vs : List V} {ds : List PyData} {i : Nat} {v : V} {d : PyData}, DpAll K H vs ds → vs[i]? = some v → ds[i]? = some d → Dp K H v d
  | _, [], _, _, _, h, _, e => by simp at e
  | _, d :: ds, 0, _, _, h, e1, e2 => by
    cases h with
    | cons h1 _ =>
      simp at e1 e2
      rw [← e1, ← e2]
      exact h1
  | _, d :: ds, i + 1, _, _, h, e1, e2 => by
    cases h with
    | cons _ h2 => exact getA (i := i) h2 (by simpa using e1) (by simpa using e2)
theorem getA1 {i : Nat} (h : DpAll K H vs ds) (e : vs[i]? = some v) : ∃ d, ds[i]? = some d ∧ Dp K H v d := by
  have hl := lenA h
  have hi : i < vs.length := (List.getElem?_eq_some_iff.mp e).1
  exact ⟨ds[i]'(by omega), List.getElem?_eq_getElem (by omega), getA h e (List.getElem?_eq_getElem (by omega))⟩
theorem getA2 {i : Nat} (h : DpAll K H vs ds) (e : ds[i]? = some d) : ∃ v, vs[i]? = some v ∧ Dp K H v d := by
  have hl := lenA h
  have hi : i < ds.length := (List.getElem?_eq_some_iff.mp e).1
  exact ⟨vs[i]'(by omega), List.getElem?_eq_getElem (by omega), getA h (List.getElem?_eq_getElem (by omega)) e⟩
theorem consA (h : Dp K H v d) (hs : DpAll K H vs ds) : DpAll K H (v :: vs) (d :: ds) := .cons h hs
theorem appA : ∀ {vs ws : List V} {ds es : List PyData}, DpAll K H vs ds → DpAll K H ws es → DpAll K H (vs ++ ws) (ds ++ es)
  | _, _, [], _, h, g => by cases h; exact g
  | _, _, d :: ds, _, h, g => by
    cases h with
    | cons h1 h2 => exact .cons h1 (appA h2 g)
theorem oneA (h : Dp K H v d) : DpAll K H [v] [d] := .cons h .nil
theorem snocA (hs : DpAll K H vs ds) (h : Dp K H v d) : DpAll K H (vs ++ [v]) (ds ++ [d]) := appA hs (oneA h)
theorem takeA : ∀ {vs : List V} {ds : List PyData} (n : Nat), DpAll K H vs ds → DpAll K H (vs.take n) (ds.take n)
  | _, _, 0, _ => .nil
  | _, [], n + 1, h => by cases h; exact .nil
  | _, d :: ds, n + 1, h => by
    cases h with
    | cons h1 h2 => exact .cons h1 (takeA n h2)
theorem intsA : ∀ (ns : List Int), DpAll K H (ns.map V.int) (ns.map PyData.int)
  | [] => .nil
  | n :: ns => .cons (.int n) (intsA ns)
theorem strsA : ∀ (ns : List Str), DpAll K H (ns.map V.str) (ns.map PyData.str)
  | [] => .nil
  | n :: ns => .cons (.str n) (strsA ns)
/-- list and tuple made -/
theorem ofL (h : H a = some (.lst vs)) (hs : DpAll K H vs ds) : Dp K H (.ref a) (.list ds) := .lst (SqL.of h) hs
theorem ofT (h : H a = some (.tup vs)) (hs : DpAll K H vs ds) : Dp K H (.ref a) (.tuple ds) := .tup (SqT.of h) hs
end
end Dt
namespace Rd
open PySem PySem.Spec PyProof.Rows L2 Evl Dk
section
variable {σ σ' : L2.St} {H H' : Hp} {Q : VK} {v x y z : V} {te : TE} {K : PySem.W.Frag} {i j lo n : Int} {D : Ends} {tb : TS} {al : TA} {xs ys : List V} {a l C dx : Addr} {d e : PyData} {g : TG}
theorem eqD (h1 : Dp K H x d) (h2 : Dp K H y e) (s1 : SeqAt.shaped d = true) (s2 : SeqAt.shaped e = true) (q : Q (.bl (PyData.eqv d e)) H) : rEqD K x y H Q := ⟨d, e, h1, h2, s1, s2, q⟩
theorem neD (h1 : Dp K H x d) (h2 : Dp K H y e) (s1 : SeqAt.shaped d = true) (s2 : SeqAt.shaped e = true) (q : Q (.bl (!PyData.eqv d e)) H) : rNeD K x y H Q := ⟨d, e, h1, h2, s1, s2, q⟩
theorem eqvRefl (s : SeqAt.shaped d = true) : PyData.eqv d d = true := SeqAt.eqv_refl d (SeqAt.canLay_of_shaped s)
theorem eqDr (h1 : Dp K H x d) (h2 : Dp K H y d) (s1 : SeqAt.shaped d = true) (q : Q (.bl true) H) : rEqD K x y H Q := ⟨d, d, h1, h2, s1, s1, by rw [eqvRefl s1]; exact q⟩
theorem neDr (h1 : Dp K H x d) (h2 : Dp K H y d) (s1 : SeqAt.shaped d = true) (q : Q (.bl false) H) : rNeD K x y H Q := ⟨d, d, h1, h2, s1, s1, by rw [eqvRefl s1]; exact q⟩
/-! isinstance -/
theorem isiTy {t T : String} {b : Bool} (h : TyOf K H x (.type t)) (k : kitB t T = some b) (q : Q (.bl b) H) : rIsi K [x, .ty T] H Q := ⟨x, .ty T, .type t, .type T, b, rfl, .ty T, .base h, kit_ty k, q⟩
theorem isiInt {T : String} {b : Bool} (k : kitB "int" T = some b) (q : Q (.bl b) H) : rIsi K [.int i, .ty T] H Q := isiTy (.int i) k q
theorem isiBl {T : String} {b c : Bool} (k : kitB "bool" T = some b) (q : Q (.bl b) H) : rIsi K [.bl c, .ty T] H Q := isiTy (.bl c) k q
theorem isiStr {T : String} {b : Bool} {s : Str} (k : kitB "str" T = some b) (q : Q (.bl b) H) : rIsi K [.str s, .ty T] H Q := isiTy (.str s) k q
theorem isiNon {T : String} {b : Bool} (k : kitB "NoneType" T = some b) (q : Q (.bl b) H) : rIsi K [.non, .ty T] H Q := isiTy .non k q
theorem isiLst {T : String} {b : Bool} (h : H a = some (.lst xs)) (k : kitB "list" T = some b) (q : Q (.bl b) H) : rIsi K [.ref a, .ty T] H Q := isiTy (.lst h) k q
theorem isiTup {T : String} {b : Bool} (h : H a = some (.tup xs)) (k : kitB "tuple" T = some b) (q : Q (.bl b) H) : rIsi K [.ref a, .ty T] H Q := isiTy (.tup h) k q
/-! loops -/
def xFR1 (g : TG) (tb : TS) (D : Ends) (σ : L2.St) (vs : List V) (H1 : Hp) : Prop := ∃ j : Int, vs = [.int j] ∧ -(2 ^ 62) ≤ j ∧ j < 2 ^ 62 ∧ ∃ W : Nat → Nat → L2.St → Hp → Prop, (∃ m, W 0 m σ H1) ∧ ∀ i m σ H, W i m σ H →
      ((Itr 0 j.toNat).stop i H ∧ D.nx σ H) ∨ ((Itr 0 j.toNat).go i H ∧ ∃ N : L2.St → Hp → Prop, (∀ σ' H', N σ' H' → ∃ m', m' < m ∧ W (i + 1) m' σ' H') ∧ ∀ x H', (Itr 0 j.toNat).yld i H x H' → g x σ H' fun σ2 H2 => tb { D with nx := N, ct := N, bk := D.nx } σ2 H2)
theorem forR1 (h : al σ H fun vs H1 => xFR1 g tb D σ vs H1) : tFor (iRng1 al) g tb D σ H := h
theorem xfr1 {k : Nat} (hb : -(2 ^ 62) ≤ n ∧ n < 2 ^ 62) (Pv : Nat → L2.St → Hp → Prop) (h0 : Pv 0 σ H)
    (hs : ∀ (i : Nat) σ' H', (i : Int) < n → Pv i σ' H' → tb { D with nx := Pv (i + 1), ct := Pv (i + 1), bk := D.nx } (σ'.set k (some (.int (i : Int)))) H') (hd : ∀ σ' H', Pv n.toNat σ' H' → D.nx σ' H') : xFR1 (gName k) tb D σ [.int n] H :=
  ⟨n, rfl, hb.1, hb.2, for_range (lo := 0) (n := n.toNat) Pv h0 (fun i σ' H' hi p => by
    have e0 : (0 : Int) + (i : Int) = (i : Int) := Int.zero_add _
    show tb { D with nx := Pv (i + 1), ct := Pv (i + 1), bk := D.nx } (σ'.set k (some (.int ((0 : Int) + (i : Int))))) H'
    rw [e0]
    exact hs i σ' H' (by omega) p) hd⟩
def xFR2 (g : TG) (tb : TS) (D : Ends) (σ : L2.St) (vs : List V) (H1 : Hp) : Prop := ∃ i0 j : Int, vs = [.int i0, .int j] ∧ (-(2 ^ 62) ≤ i0 ∧ i0 < 2 ^ 62 ∧ -(2 ^ 62) ≤ j ∧ j < 2 ^ 62) ∧ ∃ W : Nat → Nat → L2.St → Hp → Prop, (∃ m, W 0 m σ H1) ∧ ∀ i m σ H, W i m σ H →
      ((Itr i0 (j - i0).toNat).stop i H ∧ D.nx σ H) ∨ ((Itr i0 (j - i0).toNat).go i H ∧ ∃ N : L2.St → Hp → Prop, (∀ σ' H', N σ' H' → ∃ m', m' < m ∧ W (i + 1) m' σ' H') ∧ ∀ x H', (Itr i0 (j - i0).toNat).yld i H x H' → g x σ H' fun σ2 H2 => tb { D with nx := N, ct := N, bk := D.nx } σ2 H2)
theorem forR2 (h : al σ H fun vs H1 => xFR2 g tb D σ vs H1) : tFor (iRng2 al) g tb D σ H := h
theorem xfr2 {k : Nat} (hb : -(2 ^ 62) ≤ lo ∧ lo < 2 ^ 62 ∧ -(2 ^ 62) ≤ n ∧ n < 2 ^ 62) (Pv : Nat → L2.St → Hp → Prop) (h0 : Pv 0 σ H)
    (hs : ∀ (i : Nat) σ' H', lo + (i : Int) < n → Pv i σ' H' → tb { D with nx := Pv (i + 1), ct := Pv (i + 1), bk := D.nx } (σ'.set k (some (.int (lo + (i : Int))))) H') (hd : ∀ σ' H', Pv (n - lo).toNat σ' H' → D.nx σ' H') : xFR2 (gName k) tb D σ [.int lo, .int n] H :=
  ⟨lo, n, rfl, hb, for_range (lo := lo) (n := (n - lo).toNat) Pv h0 (fun i σ' H' hi p => hs i σ' H' (by omega) p) hd⟩
def xFL (K : PySem.W.Frag) (g : TG) (tb : TS) (D : Ends) (σ : L2.St) (x : V) (H1 : Hp) : Prop := ∃ a, x = .ref a ∧ (∃ xs, SqL K H1 a xs) ∧ ∃ W : Nat → Nat → L2.St → Hp → Prop, (∃ m, W 0 m σ H1) ∧ ∀ i m σ H, W i m σ H →
      ((Itl K a).stop i H ∧ D.nx σ H) ∨ ((Itl K a).go i H ∧ ∃ N : L2.St → Hp → Prop, (∀ σ' H', N σ' H' → ∃ m', m' < m ∧ W (i + 1) m' σ' H') ∧ ∀ x H', (Itl K a).yld i H x H' → g x σ H' fun σ2 H2 => tb { D with nx := N, ct := N, bk := D.nx } σ2 H2)
theorem forL (h : te σ H fun x H1 => xFL K g tb D σ x H1) : tFor (iList K te) g tb D σ H := h
theorem xfl (hx : SqL K H a xs) (Pv : Nat → L2.St → Hp → Prop) (h0 : Pv 0 σ H) (hl : ∀ i σ' H', i ≤ xs.length → Pv i σ' H' → SqL K H' a xs)
    (hs : ∀ i x σ' H', xs[i]? = some x → Pv i σ' H' → g x σ' H' fun σ2 H2 => tb { D with nx := Pv (i + 1), ct := Pv (i + 1), bk := D.nx } σ2 H2) (hd : ∀ σ' H', Pv xs.length σ' H' → D.nx σ' H') : xFL K g tb D σ (.ref a) H :=
  ⟨a, rfl, ⟨xs, hx⟩, for_list Pv h0 hl hs hd⟩
def xFT (K : PySem.W.Frag) (g : TG) (tb : TS) (D : Ends) (σ : L2.St) (x : V) (H1 : Hp) : Prop := ∃ a, x = .ref a ∧ (∃ xs, SqT K H1 a xs) ∧ ∃ W : Nat → Nat → L2.St → Hp → Prop, (∃ m, W 0 m σ H1) ∧ ∀ i m σ H, W i m σ H →
      ((Itt K a).stop i H ∧ D.nx σ H) ∨ ((Itt K a).go i H ∧ ∃ N : L2.St → Hp → Prop, (∀ σ' H', N σ' H' → ∃ m', m' < m ∧ W (i + 1) m' σ' H') ∧ ∀ x H', (Itt K a).yld i H x H' → g x σ H' fun σ2 H2 => tb { D with nx := N, ct := N, bk := D.nx } σ2 H2)
theorem forT (h : te σ H fun x H1 => xFT K g tb D σ x H1) : tFor (iTup K te) g tb D σ H := h
theorem xft (hx : SqT K H a xs) (Pv : Nat → L2.St → Hp → Prop) (h0 : Pv 0 σ H) (hl : ∀ i σ' H', i ≤ xs.length → Pv i σ' H' → SqT K H' a xs)
    (hs : ∀ i x σ' H', xs[i]? = some x → Pv i σ' H' → g x σ' H' fun σ2 H2 => tb { D with nx := Pv (i + 1), ct := Pv (i + 1), bk := D.nx } σ2 H2) (hd : ∀ σ' H', Pv xs.length σ' H' → D.nx σ' H') : xFT K g tb D σ (.ref a) H :=
  ⟨a, rfl, ⟨xs, hx⟩, for_tup Pv h0 hl hs hd⟩
/-- powers of written numbers -/
theorem pw {m : Int} (c : CPow i j) (h : i ^ j.toNat = m) (q : Q (.int m) H) : rI CPow (fun i j => .int (i ^ j.toNat)) (.int i) (.int j) H Q := i1 c (by rw [h]; exact q)
theorem atI_i {α : Type} {xs : List α} {i : Int} {v : α} (h0 : 0 ≤ i) (h : xs[i.toNat]? = some v) : atI xs i = some v := by
  have e : ((i.toNat : Nat) : Int) = i := Int.toNat_of_nonneg h0
  rw [← e]
  exact atI_nat h
end
end Rd
namespace Rd
open PySem PySem.Spec PyProof.Rows L2 Evl Dk
section
variable {σ : L2.St} {H : Hp} {v x : V} {K : PySem.W.Frag} {D : Ends} {ta te : TE} {a C dx : Addr} {fs : List (Str × V)} {f : Str}
def xSt (K : PySem.W.Frag) (f : Str) (y x : V) (H2 : Hp) (N : Hp → Prop) : Prop := ∃ a C dx fs, x = .ref a ∧ H2 a = some (.ins C dx fs) ∧ Cls K C ∧ NoAttr K C f ∧ fs.length < 1000 ∧ N (upd H2 a (.ins C dx (putF f y fs)))
theorem sfld (h : te σ H fun y H1 => ta σ H1 fun x H2 => xSt K f y x H2 fun H3 => D.nx σ H3) : sFld K ta te f D σ H := h
theorem xst {N : Hp → Prop} (h : H a = some (.ins C dx fs)) (c : Cls K C) (n : NoAttr K C f) (l : Nat.blt fs.length 1000 = true) (q : N (upd H a (.ins C dx (putF f v fs)))) : xSt K f v (.ref a) H N := ⟨a, C, dx, fs, rfl, h, c, n, Nat.le_of_ble_eq_true l, q⟩
def xMk (C : Addr) (sp : V → Hp → VK → Prop) (H : Hp) (Q : VK) : Prop := ∀ x dx, H x = none → H dx = none → dx ≠ x → sp (.ref x) (upd (upd H dx (.own x)) x (.ins C dx [])) (fun v H2 => v = .non ∧ Q (.ref x) H2)
theorem make {C : Addr} {sp : Sp} {dvs : List V} {E : XK} {al : TA} {Q : VK} (h : al σ H fun vs H1 => xMk C (fun x H2 Q2 => sp (x :: (vs ++ dvs)) H2 Q2 E) H1 Q) : tMake C sp dvs E al σ H Q := h
/-- a new instance, told by one fact -/
theorem xmk {C : Addr} {sp : V → Hp → VK → Prop} {H : Hp} {Q : VK} (h : ∀ x dx H', Ex H H' → H x = none → H' x = some (.ins C dx []) → sp (.ref x) H' (fun v H2 => v = .non ∧ Q (.ref x) H2)) : xMk C sp H Q := fun x dx nx nd ne =>
  h x dx _ (fun b o e => by rw [upd_ne (ne_of_none e nx), upd_ne (ne_of_none e nd)]; exact e) nx upd_same
theorem xmeth {m : Str} {P : Prop} (h : H a = some (.ins C dx fs)) (l : fs.lookup m = none) (p : P) : xMeth C m (.ref a) H P := ⟨a, dx, fs, rfl, h, l, p⟩
end
end Rd
namespace Dt
open PySem PySem.Spec PyProof.Rows L2 Evl
/-- no list within -/
def noL : PyData → Bool
  | .list _ => false
  | .tuple ds => ds.attach.all fun ⟨d, _⟩ => noL d
  | _ => true
section
variable {K : PySem.W.Frag} {H : Hp} {l : Addr} {ws : List V} {o : HO}
theorem sqt_upd {a : Addr} {xs : List V} (h : H l = some (.lst ws)) (s : SqT K H a xs) : SqT K (upd H l o) a xs := by
  rcases s with (s | ⟨ob, s⟩) | s
  · refine .inl (.inl ?_)
    rw [upd_ne (fun z => by subst z; rw [h] at s; cases s)]; exact s
  · refine .inl (.inr ⟨ob, ?_⟩)
    rw [upd_ne (fun z => by subst z; rw [h] at s; cases s)]; exact s
  · exact .inr s
mutual
theorem updL (h : H l = some (.lst ws)) : ∀ (d : PyData) (v : V), noL d = true → Dp K H v d → Dp K (upd H l o) v d
  | .none, _, _, h1 => by cases h1; exact .non
  | .bool b, _, _, h1 => by cases h1; exact .bl b
  | .int i, _, _, h1 => by cases h1; exact .int i
  | .str x, _, _, h1 => by cases h1; exact .str x
  | .list _, _, n, _ => by simp [noL] at n
  | .tuple ds, _, n, h1 => by
    cases h1 with
    | tup hs ha => exact .tup (sqt_upd h hs) (updLA h ds _ (by simpa [noL] using n) ha)
  | .dict _, _, _, h1 => by cases h1
theorem updLA (h : H l = some (.lst ws)) : ∀ (ds : List PyData) (vs : List V), (∀ d ∈ ds, noL d = true) → DpAll K H vs ds → DpAll K (upd H l o) vs ds
  | [], _, _, h1 => by cases h1; exact .nil
  | d :: ds, _, n, h1 => by
    cases h1 with
    | cons h2 h3 => exact .cons (updL h d _ (n d List.mem_cons_self) h2) (updLA h ds _ (fun d hd => n d (List.mem_cons_of_mem _ hd)) h3)
end
end
end Dt
namespace Rd
open PySem PySem.Spec PyProof.Rows L2 Evl Dk
/-- only x has changed, which was not there -/
theorem exBut {H H2 H' : Hp} {x : Addr} (e : Ex H H2) (n : H x = none) (s : ∀ b o, b ≠ x → H2 b = some o → H' b = some o) : Ex H H' := fun b o h => s b o (ne_of_none h n) (e b o h)
end Rd
namespace Rd
open PySem PySem.Spec PyProof.Rows L2 Evl Dk
section
variable {σ : L2.St} {H : Hp} {Q : VK} {te : TE} {xs : List V} {v : V} {b : Bool} {t : TT} {QB : Bool → Hp → Prop} {K : PySem.W.Frag} {l : Addr} {a C dx : Addr} {fs : List (Str × V)}
theorem evL (h : EvL te σ H xs) (q : ∀ p H', H p = none → Ex H H' → H' p = some (.lst xs) → Q (.ref p) H') : te σ H Q := h H (Ex.refl H) Q q
theorem evV (h : Ev te σ H v) (q : ∀ H', Ex H H' → Q v H') : te σ H Q := h H (Ex.refl H) Q q
theorem evYes : EvT tYes σ H true := fun H1 _ _ q => q H1 (Ex.refl H1)
theorem given_all (n : Nat) (v : Nat → V) : given n (fun _ => true) v = (List.range n).map v := by
  unfold given
  rw [List.filter_eq_self.mpr (fun _ _ => rfl)]
theorem isiOwn {b : Bool} {D : Addr} (h : H a = some (.ins C dx fs)) (cl : Cls K C) (ha : PySem.W.findIn K (.ref C) "__class__" = some (some (.builtin "object.__class__"))) (hn : PySem.W.specialIn K (.builtin "object.__class__") "__get__" = some (some (.builtin "getset_descriptor.__get__")))
    (htk : PySem.W.takesIn K (.builtin "object.__class__") = some true) (hm : PySem.W.mroIn K C (.type "object") = some true) (k : PySem.W.kitOne K (.ref C) (.ref D) = some b) (q : Q (.bl b) H) : rIsi K [.ref a, .ref D] H Q :=
  ⟨.ref a, .ref D, .ref C, .ref D, b, rfl, .own D, .base (.ins h cl ha hn htk hm), k, q⟩
theorem cat {zs : List V} {c : Addr} (h1 : H l = some (.lst xs)) (h2 : H c = some (.lst zs)) (n : xs.length + zs.length ≤ 100000) (q : ∀ p H', H p = none → Ex H H' → H' p = some (.lst (xs ++ zs)) → Q (.ref p) H') : rCat (.ref l) (.ref c) H Q :=
  ⟨l, c, xs, zs, rfl, rfl, h1, h2, sz_of n, fun p hp => q p _ hp (Ex.new hp) upd_same⟩
theorem lstRg {a b : Int} (h : -100000 ≤ a ∧ a ≤ 100000 ∧ -100000 ≤ b ∧ b ≤ 100000) (q : ∀ p H', H p = none → Ex H H' → H' p = some (.lst (rgV a b)) → Q (.ref p) H') : RgOk a b ∧ ∀ q, H q = none → Q (.ref q) (upd H q (.lst (rgV a b))) :=
  ⟨⟨by omega, by omega, by omega, by omega, by omega⟩, fun p hp => q p _ hp (Ex.new hp) upd_same⟩
theorem pw20 {m : Int} (e : (10 : Int) ^ (20 : Int).toNat = m) (q : Q (.int m) H) : rI CPow (fun i j => .int (i ^ j.toNat)) (.int 10) (.int 20) H Q := pw ⟨by decide, by decide, by decide⟩ e q
end
end Rd
namespace Rd
open PySem PySem.Spec PyProof.Rows L2 Evl Dk
def rCatS : R2 := fun x y H Q => ∃ i j, x = .str i ∧ y = .str j ∧ i.length + j.length ≤ sizeLine ∧ Q (.str (i ++ j)) H
theorem op_addS {X : Cx} : OpR X (binaryOp .Add) rCatS := op_add_str
theorem catS {H : Hp} {Q : VK} {i j : Str} (h : i.length + j.length ≤ 100000) (q : Q (.str (i ++ j)) H) : rCatS (.str i) (.str j) H Q := ⟨i, j, rfl, rfl, sz_of h, q⟩
end Rd
namespace Rd
open PySem PySem.Spec PyProof.Rows L2 Evl Dk
section
variable {σ : L2.St} {H : Hp} {Q : VK} {te tf : TE} {x y : V} {n m : Int}
def xR1 (x : V) (H1 : Hp) (Q : VK) : Prop := ∃ n, x = .int n ∧ (RgOk 0 n ∧ ∀ q, H1 q = none → Q (.ref q) (upd H1 q (.lst (rgV 0 n))))
theorem listRg1 (h : te σ H fun x H1 => xR1 x H1 Q) : tLstRg (tRg1 te) σ H Q := h
theorem xr1 (h : -100000 ≤ n ∧ n ≤ 100000) (q : ∀ p H', H p = none → Ex H H' → H' p = some (.lst (rgV 0 n)) → Q (.ref p) H') : xR1 (.int n) H Q := ⟨n, rfl, lstRg ⟨by omega, by omega, h.1, h.2⟩ q⟩
end
end Rd
namespace Rd
open PySem PySem.Spec PyProof.Rows L2 Evl Dk
section
variable {σ : L2.St} {H : Hp} {Q : VK} {te tf : TE} {x y : V} {n m : Int} {l : Addr} {xs : List V}
def xR2 (x y : V) (H1 : Hp) (Q : VK) : Prop := ∃ i j, x = .int i ∧ y = .int j ∧ (RgOk i j ∧ ∀ q, H1 q = none → Q (.ref q) (upd H1 q (.lst (rgV i j))))
theorem listRg2 (h : te σ H fun x H1 => tf σ H1 fun y H2 => xR2 x y H2 Q) : tLstRg (tRg2 te tf) σ H Q := h
theorem xr2 (h : -100000 ≤ n ∧ n ≤ 100000 ∧ -100000 ≤ m ∧ m ≤ 100000) (q : ∀ p H', H p = none → Ex H H' → H' p = some (.lst (rgV n m)) → Q (.ref p) H') : xR2 (.int n) (.int m) H Q := ⟨n, m, rfl, rfl, lstRg h q⟩
theorem eqB {a b : Bool} (q : Q (.bl (decide (a = b))) H) : rEq (.bl a) (.bl b) H Q := ⟨rfl, by rw [dB]; exact q⟩
theorem neB {a b : Bool} (q : Q (.bl (!decide (a = b))) H) : rNe (.bl a) (.bl b) H Q := ⟨rfl, by rw [dB]; exact q⟩
def rInsert : V → List V → Hp → VK → Prop := fun x vs H Q => ∃ (l : Addr) (xs : List V) (i : Int) (y : V), x = .ref l ∧ vs = [.int i, y] ∧ H l = some (.lst xs) ∧ xs.length < sizeLine ∧ 0 ≤ i ∧ i < 2 ^ 63 ∧ Q .non (upd H l (.lst (xs.take i.toNat ++ [y] ++ xs.drop i.toNat)))
theorem mt_ins {X : Cx} : MtR X "list.insert" rInsert := mt_insert
theorem insert {i : Int} {y : V} (h : H l = some (.lst xs)) (hz : xs.length < 100000) (h0 : 0 ≤ i ∧ i ≤ 100000) (q : Q .non (upd H l (.lst (xs.take i.toNat ++ [y] ++ xs.drop i.toNat)))) : rInsert (.ref l) [.int i, y] H Q :=
  ⟨l, xs, i, y, rfl, rfl, h, sz_lt hz, h0.1, by omega, q⟩
theorem rgV_get {a b : Int} {i : Nat} {y : V} (h : (rgV a b)[i]? = some y) : y = .int (a + i) ∧ (i : Int) < b - a := by
  unfold rgV at h
  rw [List.getElem?_map] at h
  by_cases hi : i < (b - a).toNat
  · rw [List.getElem?_range hi] at h
    exact ⟨(Option.some.inj h).symm, by omega⟩
  · rw [List.getElem?_eq_none (by rw [List.length_range]; omega)] at h; cases h
end
end Rd
namespace Rd
open PySem PySem.Spec PyProof.Rows L2 Evl Dk
section
variable {σ : L2.St} {H : Hp} {Q : VK} {te tl : TE} {al : TA} {x y : V} {n m : Int} {l : Addr} {xs : List V} {g : TG} {tt : TT} {vs : List Nat} {K : PySem.W.Frag} {j : Nat}
def xLcR (g : TG) (tt : TT) (te : TE) (vs : List Nat) (σ : L2.St) (ws : List V) (H : Hp) (Q : VK) : Prop := tLc (iRng1 (fun _ H Q => Q ws H)) g tt te vs σ H Q
theorem lcR1 (h : al σ H fun ws H1 => xLcR g tt te vs σ ws H1 Q) : tLc (iRng1 al) g tt te vs σ H Q := h
theorem xlcR (f : Nat → Bool) (v : Nat → V) (hn : 0 ≤ n ∧ n ≤ 40000) (hw : ∀ x, wipe ((wipe σ vs).set j (some x)) vs = wipe σ vs)
    (ht : ∀ (i : Nat) H1, Ex H H1 → (i : Int) < n → EvT tt ((wipe σ vs).set j (some (.int (i : Int)))) H1 (f i)) (he : ∀ (i : Nat) H1, Ex H H1 → (i : Int) < n → f i = true → Ev te ((wipe σ vs).set j (some (.int (i : Int)))) H1 (v i))
    (q : ∀ p H', H p = none → Ex H H' → H' p = some (.lst (given n.toNat f v)) → Q (.ref p) H') : xLcR (gName j) tt te vs σ [.int n] H Q :=
  evL (el_lcR1 f v (fun H1 _ Q q => q H1 (Ex.refl H1)) hn hw ht he) q
def xLcL (K : PySem.W.Frag) (g : TG) (tt : TT) (te : TE) (vs : List Nat) (σ : L2.St) (x : V) (H : Hp) (Q : VK) : Prop := tLc (iList K (fun _ H Q => Q x H)) g tt te vs σ H Q
theorem lcL (h : tl σ H fun x H1 => xLcL K g tt te vs σ x H1 Q) : tLc (iList K tl) g tt te vs σ H Q := h
theorem xlcL (f : Nat → Bool) (v : Nat → V) (hx : SqL K H l xs) (hz : xs.length ≤ 40000) (hw : ∀ x, wipe ((wipe σ vs).set j (some x)) vs = wipe σ vs)
    (ht : ∀ (i : Nat) (x : V) H1, Ex H H1 → xs[i]? = some x → EvT tt ((wipe σ vs).set j (some x)) H1 (f i)) (he : ∀ (i : Nat) (x : V) H1, Ex H H1 → xs[i]? = some x → f i = true → Ev te ((wipe σ vs).set j (some x)) H1 (v i))
    (q : ∀ p H', H p = none → Ex H H' → H' p = some (.lst (given xs.length f v)) → Q (.ref p) H') : xLcL K (gName j) tt te vs σ (.ref l) H Q :=
  evL (el_lcL (a := l) f v (fun H1 _ Q q => q H1 (Ex.refl H1)) hx hz hw ht he) q
end
end Rd
namespace Rd
open PySem PySem.Spec PyProof.Rows L2 Evl Dk
section
variable {σ : L2.St} {H G H' H2 : Hp} {Q : VK} {te tl : TE} {al : TA} {x y : V} {n m : Int} {l p : Addr} {xs : List V} {tt : TT} {vs : List Nat} {K : PySem.W.Frag} {j : Nat} {o : HO}
/-- a tuple of the written part -/
theorem sqtK {k : Addr} {dd : Option Addr} {its : Array Value} {nn : Nat} {sl : Array (Option Value)} (h : K.lookup k = some ⟨.type "tuple", dd, .seq its nn, sl⟩) (v : Vals xs its.toList) (hz : xs.length ≤ 1000) : SqT K H k xs :=
  .inr ⟨_, its, nn, h, rfl, rfl, Nat.le_trans (Nat.le_of_eq (by simpa using v.length.symm)) (Nat.le_trans hz (by decide : 1000 ≤ sizeLine)), v⟩
/-- a part of the heap grows by a new object -/
theorem grow1 (e : Ex G H') (n : H' p = none) : Ex G (upd G p o) := Ex.new (fresh_back e n)
theorem grow2 (e : Ex G H') (e2 : Ex H' H2) (h : H2 p = some o) : Ex (upd G p o) H2 := fun a u ha => by
  by_cases hap : a = p
  · subst hap; rw [upd_same] at ha; rw [h]; exact ha
  · rw [upd_ne hap] at ha; exact e2 _ _ (e _ _ ha)
theorem grow3 {D : Addr} {u : HO} (g : G D = none) (n : H' p = none) (h : H' D = some u) : (upd G p o) D = none := by
  rw [upd_ne (ne_of_none h n)]; exact g
/-- a comprehension over a list; its items are data, made of what stood ahead of it and of what each turn makes -/
def Lw (K : PySem.W.Frag) (H : Hp) (R : Nat → PyData → Prop) (D : Addr) (i : Nat) (H' : Hp) : Prop := H D = none ∧ ∃ (G : Hp) (ys : List V) (ds : List PyData), Ex H G ∧ Ex G H' ∧ G D = none ∧ H' D = some (.lst ys) ∧ DpAll K G ys ds ∧ ds.length = i ∧ ∀ k d, ds[k]? = some d → R k d
theorem lw_turn {R : Nat → PyData → Prop} {D : Addr} {i : Nat} {σ2 : L2.St} (hi : i < 50000) (pw : Lw K H R D i H')
    (he : ∀ (G : Hp) (acc : List V), Ex H G → Ex G H' → G D = none → H' D = some (.lst acc) → ∀ Q' : VK, (∀ y H2 G2 d, Ex G G2 → Ex G2 H2 → G2 D = none → Ex H' H2 → Dp K G2 y d → R i d → Q' y H2) → te σ2 H' Q') :
    te σ2 H' fun y H4 => ∃ acc, H4 D = some (.lst acc) ∧ acc.length < sizeLine ∧ Lw K H R D (i + 1) (upd H4 D (.lst (acc ++ [y]))) := by
  obtain ⟨hD, G, ys, ds, e1, e2, g, hys, hd, hl, hR⟩ := pw
  refine he G ys e1 e2 g hys _ fun y H2 G2 d a1 a2 a3 a4 a5 a6 => ⟨ys, a4 _ _ hys, sz_lt (by rw [Dt.lenA hd]; omega), hD, G2, ys ++ [y], ds ++ [d], e1.trans a1, Ex.mut a2 a3, a3, upd_same, Dt.snocA (Dt.mnA hd a1) a5, by rw [List.length_append, hl]; rfl, fun k d' hk => ?_⟩
  by_cases hki : k < ds.length
  · rw [List.getElem?_append_left hki] at hk; exact hR k d' hk
  · rw [List.getElem?_append_right (by omega)] at hk
    have hk0 : k - ds.length = 0 := by
      cases e : k - ds.length with
      | zero => rfl
      | succ m => rw [e] at hk; cases hk
    rw [hk0] at hk
    have hd' : d = d' := Option.some.inj hk
    rw [← hd', show k = i from by omega]
    exact a6
theorem xlcG (R : Nat → PyData → Prop) (hx : SqL K H l xs) (hz : xs.length ≤ 40000) (hw : ∀ x, wipe ((wipe σ vs).set j (some x)) vs = wipe σ vs)
    (he : ∀ (i : Nat) (x : V) (D : Addr) (G H' : Hp) (acc : List V), xs[i]? = some x → H D = none → Ex H G → Ex G H' → G D = none → H' D = some (.lst acc) →
      ∀ Q' : VK, (∀ y H2 G2 d, Ex G G2 → Ex G2 H2 → G2 D = none → Ex H' H2 → Dp K G2 y d → R i d → Q' y H2) → te ((wipe σ vs).set j (some x)) H' Q')
    (q : ∀ p G' H' ys ds, H p = none → Ex H G' → Ex G' H' → G' p = none → H' p = some (.lst ys) → DpAll K G' ys ds → ds.length = xs.length → (∀ i d, ds[i]? = some d → R i d) → Q (.ref p) H') : xLcL K (gName j) tYes te vs σ (.ref l) H Q :=
  ⟨l, rfl, ⟨xs, hx⟩, fun D hD => lc_list (xs := xs) (Lw K H R D) ⟨hD, H, [], [], Ex.refl H, Ex.new hD, hD, upd_same, .nil, rfl, fun _ _ h => nomatch h⟩
    (fun i H' _ ⟨_, G, _, _, e1, e2, _⟩ => ex_l (e1.trans e2) hx)
    (fun i x H' hi p => ⟨hw x, iteT (B := Lw K H R D (i + 1) H') (lw_turn (by have := (List.getElem?_eq_some_iff.mp hi).1; omega) p fun G acc a1 a2 a3 a4 => he i x D G H' acc hi hD a1 a2 a3 a4)⟩)
    (fun H' ⟨_, G, ys, ds, e1, e2, g, hys, hd, hl, hR⟩ => q D G H' ys ds hD e1 e2 g hys hd hl hR)⟩
theorem xlcGR (R : Nat → PyData → Prop) (hn : 0 ≤ n ∧ n ≤ 40000) (hw : ∀ x, wipe ((wipe σ vs).set j (some x)) vs = wipe σ vs)
    (he : ∀ (i : Nat) (D : Addr) (G H' : Hp) (acc : List V), (i : Int) < n → H D = none → Ex H G → Ex G H' → G D = none → H' D = some (.lst acc) →
      ∀ Q' : VK, (∀ y H2 G2 d, Ex G G2 → Ex G2 H2 → G2 D = none → Ex H' H2 → Dp K G2 y d → R i d → Q' y H2) → te ((wipe σ vs).set j (some (.int (i : Int)))) H' Q')
    (q : ∀ p G' H' ys ds, H p = none → Ex H G' → Ex G' H' → G' p = none → H' p = some (.lst ys) → DpAll K G' ys ds → ds.length = n.toNat → (∀ i d, ds[i]? = some d → R i d) → Q (.ref p) H') : xLcR (gName j) tYes te vs σ [.int n] H Q :=
  ⟨n, rfl, by omega, by omega, fun D hD => lc_range (lo := 0) (n := n.toNat) (Lw K H R D) ⟨hD, H, [], [], Ex.refl H, Ex.new hD, hD, upd_same, .nil, rfl, fun _ _ h => nomatch h⟩
    (fun i H' hi p => by
      have e0 : (0 : Int) + (i : Int) = (i : Int) := Int.zero_add _
      show wipe ((wipe σ vs).set j (some (.int ((0 : Int) + (i : Int))))) vs = wipe σ vs ∧ _
      rw [e0]
      exact ⟨hw _, iteT (B := Lw K H R D (i + 1) H') (lw_turn (by omega) p fun G acc a1 a2 a3 a4 => he i D G H' acc (by omega) hD a1 a2 a3 a4)⟩)
    (fun H' ⟨_, G, ys, ds, e1, e2, g, hys, hd, hl, hR⟩ => q D G H' ys ds hD e1 e2 g hys hd hl hR)⟩
end
end Rd
namespace Rd
open PySem PySem.Spec PyProof.Rows L2 Evl Dk
section
variable {σ σ' : L2.St} {H H' : Hp} {Q : VK} {te tl : TE} {al : TA} {x y v : V} {n m : Int} {l p : Addr} {xs : List V} {tt : TT} {vs : List Nat} {K : PySem.W.Frag} {j : Nat} {o : HO} {g : TG} {D : Ends} {tb : TS}
/-! loops and comprehensions over a text -/
def xFS (g : TG) (tb : TS) (D : Ends) (σ : L2.St) (x : V) (H1 : Hp) : Prop := ∃ z, x = .str z ∧ ∃ W : Nat → Nat → L2.St → Hp → Prop, (∃ m, W 0 m σ H1) ∧ ∀ i m σ H, W i m σ H →
      ((Its z).stop i H ∧ D.nx σ H) ∨ ((Its z).go i H ∧ ∃ N : L2.St → Hp → Prop, (∀ σ' H', N σ' H' → ∃ m', m' < m ∧ W (i + 1) m' σ' H') ∧ ∀ x H', (Its z).yld i H x H' → g x σ H' fun σ2 H2 => tb { D with nx := N, ct := N, bk := D.nx } σ2 H2)
theorem forS (h : te σ H fun x H1 => xFS g tb D σ x H1) : tFor (iStr te) g tb D σ H := h
theorem xfs {z : Str} (Pv : Nat → L2.St → Hp → Prop) (h0 : Pv 0 σ H)
    (hs : ∀ i c σ' H', z.cps[i]? = some c → Pv i σ' H' → g (.str ⟨#[c]⟩) σ' H' fun σ2 H2 => tb { D with nx := Pv (i + 1), ct := Pv (i + 1), bk := D.nx } σ2 H2) (hd : ∀ σ' H', Pv z.cps.size σ' H' → D.nx σ' H') : xFS g tb D σ (.str z) H := by
  refine ⟨z, rfl, fun i m σ' H' => m = z.cps.size - i ∧ i ≤ z.cps.size ∧ Pv i σ' H', ⟨_, rfl, Nat.zero_le _, h0⟩, ?_⟩
  rintro i m σ' H' ⟨rfl, hi, p⟩
  by_cases hlt : i < z.cps.size
  · exact .inr ⟨hlt, Pv (i + 1), fun σ2 H2 p' => ⟨z.cps.size - (i + 1), by omega, rfl, hlt, p'⟩, fun x H2 ⟨e, c, hc, ex⟩ => by subst e; subst ex; exact hs i c σ' _ hc p⟩
  · have e : i = z.cps.size := by omega
    subst e
    exact .inl ⟨Nat.le_refl _, hd σ' H' p⟩
def xLcS (g : TG) (tt : TT) (te : TE) (vs : List Nat) (σ : L2.St) (x : V) (H : Hp) (Q : VK) : Prop := tLc (iStr (fun _ H Q => Q x H)) g tt te vs σ H Q
theorem lcS (h : tl σ H fun x H1 => xLcS g tt te vs σ x H1 Q) : tLc (iStr tl) g tt te vs σ H Q := h
theorem xlcS {z : Str} (f : Nat → Bool) (v : Nat → V) (hz : z.cps.size ≤ 40000) (hw : ∀ x, wipe ((wipe σ vs).set j (some x)) vs = wipe σ vs)
    (ht : ∀ (i c : Nat) H1, Ex H H1 → z.cps[i]? = some c → EvT tt ((wipe σ vs).set j (some (.str ⟨#[c]⟩))) H1 (f i)) (he : ∀ (i c : Nat) H1, Ex H H1 → z.cps[i]? = some c → f i = true → Ev te ((wipe σ vs).set j (some (.str ⟨#[c]⟩))) H1 (v i))
    (q : ∀ p H', H p = none → Ex H H' → H' p = some (.lst (given z.cps.size f v)) → Q (.ref p) H') : xLcS (gName j) tt te vs σ (.str z) H Q := by
  refine ⟨z, rfl, fun D hD => ⟨fun i m H' => m = z.cps.size - i ∧ i ≤ z.cps.size ∧ Cw H f v D i H', ⟨_, rfl, Nat.zero_le _, hD, Ex.new hD, upd_same⟩, ?_⟩⟩
  rintro i m H' ⟨rfl, hi, p⟩
  by_cases hlt : i < z.cps.size
  · exact .inr ⟨hlt, fun H2 => Cw H f v D (i + 1) H2, fun H2 p' => ⟨z.cps.size - (i + 1), by omega, rfl, hlt, p'⟩, fun x H2 ⟨e, c, hc, ex⟩ => by
      subst e; subst ex
      exact ⟨hw _, cw_turn p (by omega) (ht i c H (Ex.refl H) hc) fun hf => he i c H (Ex.refl H) hc hf⟩⟩
  · have e : i = z.cps.size := by omega
    subst e
    exact .inl ⟨Nat.le_refl _, q D H' p.1 p.2.1 p.2.2⟩
/-! in a tuple or a list of flat items -/
theorem inT {b : Bool} (h : SqT K H p xs) (hx : flatV x = true) (ha : xs.all flatV = true) (hb : inV x xs = b) (q : Q (.bl b) H) : rIn K false x (.ref p) H Q := ⟨p, xs, rfl, .inr h, hx, ha, by rw [hb]; exact q⟩
theorem ninT {b : Bool} (h : SqT K H p xs) (hx : flatV x = true) (ha : xs.all flatV = true) (hb : inV x xs = b) (q : Q (.bl (!b)) H) : rIn K true x (.ref p) H Q := ⟨p, xs, rfl, .inr h, hx, ha, by rw [hb]; exact q⟩
/-! texts -/
def rJoin (K : PySem.W.Frag) : V → List V → Hp → VK → Prop := fun x xs H Q => ∃ a p, ∃ ys : List Str, x = .str a ∧ xs = [.ref p] ∧ (SqL K H p (ys.map V.str) ∨ SqT K H p (ys.map V.str)) ∧ (ys.map (·.length)).sum + ys.length * a.length ≤ 16777216 ∧ Q (.str (Txt.join a ys)) H
theorem mt_jn {X : Cx} : MtR X "str.join" (rJoin X.K) := mt_join
def rFind : V → List V → Hp → VK → Prop := fun x xs H Q => ∃ a b, x = .str a ∧ xs = [.str b] ∧ Q (.int (Txt.find a b)) H
theorem mt_fd {X : Cx} : MtR X "str.find" rFind := mt_find
def rSix : V → List V → Hp → VK → Prop := fun x xs H Q => ∃ a b i rest, x = .str a ∧ xs = [.str b] ∧ Builtin.Str.occurrences a b 0 a.length 1 = i :: rest ∧ Q (.int (i : Nat)) H
theorem mt_six {X : Cx} : MtR X "str.index" rSix := mt_sindex
theorem join {a : Str} {ys : List Str} (h : SqL K H p (ys.map V.str)) (hz : (ys.map (·.length)).sum + ys.length * a.length ≤ 16777216) (q : Q (.str (Txt.join a ys)) H) : rJoin K (.str a) [.ref p] H Q := ⟨a, p, ys, rfl, rfl, .inl h, hz, q⟩
theorem find {a b : Str} (q : Q (.int (Txt.find a b)) H) : rFind (.str a) [.str b] H Q := ⟨a, b, rfl, rfl, q⟩
theorem six {a b : Str} {i : Nat} {r : List Nat} (h : Builtin.Str.occurrences a b 0 a.length 1 = i :: r) (q : Q (.int (i : Nat)) H) : rSix (.str a) [.str b] H Q := ⟨a, b, i, r, rfl, rfl, h, q⟩
def xIsS (x : V) (P : Prop) : Prop := (∃ a, x = .str a) ∧ P
theorem m1 {r : V → List V → Hp → VK → Prop} {tf : TE} (h : te σ H fun x H1 => xIsS x (tf σ H1 fun y H2 => r x [y] H2 Q)) : tM1 r te tf σ H Q := h
theorem m0 {r : V → List V → Hp → VK → Prop} (h : te σ H fun x H1 => xIsS x (r x [] H1 Q)) : tM0 r te σ H Q := h
theorem xiss {a : Str} {P : Prop} (h : P) : xIsS (.str a) P := ⟨⟨a, rfl⟩, h⟩
def rTupOf (K : PySem.W.Frag) : List V → Hp → VK → Prop := fun xs H Q => ∃ p ys, xs = [.ref p] ∧ ((SqL K H p ys ∧ ∀ l, H l = none → Q (.ref l) (upd H l (.tup ys))) ∨ (SqT K H p ys ∧ Q (.ref p) H))
theorem c_tup {X : Cx} : CallR X (.type "tuple") (rTupOf X.K) := call_tuple_of
theorem tupOfL (h : SqL K H p xs) (q : ∀ l H', H l = none → Ex H H' → H' l = some (.tup xs) → Q (.ref l) H') : rTupOf K [.ref p] H Q := ⟨p, xs, rfl, .inl ⟨h, fun l hl => q l _ hl (Ex.new hl) upd_same⟩⟩
theorem tupOfT (h : SqT K H p xs) (q : Q (.ref p) H) : rTupOf K [.ref p] H Q := ⟨p, xs, rfl, .inr ⟨h, q⟩⟩
end
end Rd
namespace Rd
open PySem PySem.Spec PyProof.Rows L2 Evl Dk
theorem ip_addS {X : Cx} : PIp X .Add rCatS := by
  rintro pins s σ H x y v u Q I r1 r2 ⟨i, j, rfl, rfl, hz, q⟩
  obtain ⟨t, rfl⟩ := r1
  obtain ⟨t', rfl⟩ := r2
  exact SB.iadd (fun _ _ => ⟨.str _, H, I.tok _, ⟨_, rfl⟩, q⟩) hz
end Rd
namespace Rd
open PySem PySem.Spec PyProof.Rows L2 Evl Dk
theorem lenSL {s : Str} {n : Nat} {H : Hp} {Q : VK} (h : s.length = n) (hn : n ≤ 100000) (q : Q (.int n) H) : Rd.rLenStr [.str s] H Q := ⟨s, rfl, sz_of (by rw [h]; exact hn), by rw [h]; exact q⟩
end Rd
namespace Dt
open PySem PySem.Spec PyProof.Rows L2 Evl
section
variable {K : PySem.W.Frag} {H : Hp} {l C dx : Addr} {fs : List (Str × V)} {o : HO}
theorem rd_ins {a : Addr} {u : HO} (h : H l = some (.ins C dx fs)) (n : ∀ C dx fs, u ≠ .ins C dx fs) (s : L2.Rd H a u) : L2.Rd (upd H l o) a u := by
  rcases s with s | ⟨ob, s⟩
  · exact .inl (by rw [upd_ne (fun z => by subst z; rw [h] at s; exact n _ _ _ (Option.some.inj s).symm)]; exact s)
  · exact .inr ⟨ob, by rw [upd_ne (fun z => by subst z; rw [h] at s; cases s)]; exact s⟩
theorem sqt_ins {a : Addr} {xs : List V} (h : H l = some (.ins C dx fs)) (s : SqT K H a xs) : SqT K (upd H l o) a xs := by
  rcases s with s | s
  · exact .inl (rd_ins h (fun _ _ _ z => by cases z) s)
  · exact .inr s
theorem sql_ins {a : Addr} {xs : List V} (h : H l = some (.ins C dx fs)) (s : SqL K H a xs) : SqL K (upd H l o) a xs := by
  rcases s with s | s
  · exact .inl (rd_ins h (fun _ _ _ z => by cases z) s)
  · exact .inr s
mutual
/-- data stays where an instance changes -/
theorem updI (h : H l = some (.ins C dx fs)) : ∀ (d : PyData) (v : V), Dp K H v d → Dp K (upd H l o) v d
  | .none, _, h1 => by cases h1; exact .non
  | .bool b, _, h1 => by cases h1; exact .bl b
  | .int i, _, h1 => by cases h1; exact .int i
  | .str x, _, h1 => by cases h1; exact .str x
  | .list ds, _, h1 => by
    cases h1 with
    | lst hs ha => exact .lst (sql_ins h hs) (updIA h ds _ ha)
  | .tuple ds, _, h1 => by
    cases h1 with
    | tup hs ha => exact .tup (sqt_ins h hs) (updIA h ds _ ha)
  | .dict _, _, h1 => by cases h1
theorem updIA (h : H l = some (.ins C dx fs)) : ∀ (ds : List PyData) (vs : List V), DpAll K H vs ds → DpAll K (upd H l o) vs ds
  | [], _, h1 => by cases h1; exact .nil
  | d :: ds, _, h1 => by
    cases h1 with
    | cons h2 h3 => exact .cons (updI h d _ h2) (updIA h ds _ h3)
end
end
end Dt
namespace Rd
open PySem PySem.Spec PyProof.Rows L2 Evl Dk
/-- what a for walks: a list or a tuple -/
def iSeq (K : PySem.W.Frag) (te : TE) : TI := fun σ H R => iList K te σ H R ∨ iTup K te σ H R
theorem pi_seq {X : Cx} {tg l : Expr} {tl : TE} (hl : PE X l tl) : PI X tg l (iSeq X.K tl) := by
  refine ⟨fun pins s σ H R I h => ?_⟩
  rcases h with h | h
  · exact (pi_list hl).run pins s σ H R I h
  · exact (pi_tup hl).run pins s σ H R I h
section
variable {σ : L2.St} {H : Hp} {Q : VK} {te tl : TE} {l : Addr} {xs : List V} {tt : TT} {vs : List Nat} {K : PySem.W.Frag} {j : Nat} {g : TG} {tb : TS} {D : Ends}
theorem lcQL (h : tLc (iList K tl) g tt te vs σ H Q) : tLc (iSeq K tl) g tt te vs σ H Q := .inl h
theorem lcQT (h : tLc (iTup K tl) g tt te vs σ H Q) : tLc (iSeq K tl) g tt te vs σ H Q := .inr h
theorem forQL (h : tFor (iList K tl) g tb D σ H) : tFor (iSeq K tl) g tb D σ H := .inl h
theorem forQT (h : tFor (iTup K tl) g tb D σ H) : tFor (iSeq K tl) g tb D σ H := .inr h
def xLcT (K : PySem.W.Frag) (g : TG) (tt : TT) (te : TE) (vs : List Nat) (σ : L2.St) (x : V) (H : Hp) (Q : VK) : Prop := tLc (iTup K (fun _ H Q => Q x H)) g tt te vs σ H Q
theorem lcT (h : tl σ H fun x H1 => xLcT K g tt te vs σ x H1 Q) : tLc (iTup K tl) g tt te vs σ H Q := h
theorem xlcT (f : Nat → Bool) (v : Nat → V) (hx : SqT K H l xs) (hz : xs.length ≤ 40000) (hw : ∀ x, wipe ((wipe σ vs).set j (some x)) vs = wipe σ vs)
    (ht : ∀ (i : Nat) (x : V) H1, Ex H H1 → xs[i]? = some x → EvT tt ((wipe σ vs).set j (some x)) H1 (f i)) (he : ∀ (i : Nat) (x : V) H1, Ex H H1 → xs[i]? = some x → f i = true → Ev te ((wipe σ vs).set j (some x)) H1 (v i))
    (q : ∀ p H', H p = none → Ex H H' → H' p = some (.lst (given xs.length f v)) → Q (.ref p) H') : xLcT K (gName j) tt te vs σ (.ref l) H Q :=
  ⟨l, rfl, ⟨xs, hx⟩, fun Dl hD => lc_tup (xs := xs) (Cw H f v Dl) ⟨hD, Ex.new hD, upd_same⟩ (fun i H' _ p => ex_t p.2.1 hx)
    (fun i x H' hi p => ⟨hw x, cw_turn p (by have := (List.getElem?_eq_some_iff.mp hi).1; omega) (ht i x H (Ex.refl H) hi) (fun hf => he i x H (Ex.refl H) hi hf)⟩) (fun H' p => q Dl H' p.1 p.2.1 p.2.2)⟩
end
end Rd
namespace Rd
open PySem PySem.Spec PyProof.Rows L2 Evl Dk
section
variable {H : Hp} {Q : VK} {K : PySem.W.Frag} {a : Addr} {xs : List V}
theorem isiSqT {T : String} {b : Bool} (h : SqT K H a xs) (k : kitB "tuple" T = some b) (q : Q (.bl b) H) : rIsi K [.ref a, .ty T] H Q := by
  have ty : TyX K H (.ref a) (.type "tuple") := by
    rcases h with (h | ⟨o, h⟩) | ⟨o, its, n, h1, h2, _⟩
    · exact .base (.tup h)
    · exact .fTuple h
    · exact .kTuple h1 h2
  exact ⟨.ref a, .ty T, .type "tuple", .type T, b, rfl, .ty T, ty, kit_ty k, q⟩
theorem isiSqL {T : String} {b : Bool} (h : SqL K H a xs) (k : kitB "list" T = some b) (q : Q (.bl b) H) : rIsi K [.ref a, .ty T] H Q := by
  have ty : TyX K H (.ref a) (.type "list") := by
    rcases h with (h | ⟨o, h⟩) | ⟨o, its, n, h1, h2, _⟩
    · exact .base (.lst h)
    · exact .base (.frz h)
    · exact .kList h1 h2
  exact ⟨.ref a, .ty T, .type "list", .type T, b, rfl, .ty T, ty, kit_ty k, q⟩
end
end Rd
namespace Rd
open PySem PySem.Spec PyProof.Rows L2 Evl Dk
section
variable {X : Cx} {σ : L2.St} {H : Hp} {Q : VK} {te : TE} {tl th : TO} {x : V} {i j z : Str} {n : Int} {c : Nat} {QO : Option Int → Hp → Prop}
/-! texts: an index, a slice, a part of another -/
def rInS : R2 := fun x y H Q => ∃ i j, x = .str i ∧ y = .str j ∧ Q (.bl (!(Builtin.Str.occurrences j i 0 j.length 1).isEmpty)) H
theorem op_inS : OpR X (compareOp .In) rInS := op_in_str
theorem inS {b : Bool} (h : (!(Builtin.Str.occurrences j i 0 j.length 1).isEmpty) = b) (q : Q (.bl b) H) : rInS (.str i) (.str j) H Q := ⟨i, j, rfl, rfl, by rw [h]; exact q⟩
def rNotInS : R2 := fun x y H Q => ∃ i j, x = .str i ∧ y = .str j ∧ Q (.bl (!(!(Builtin.Str.occurrences j i 0 j.length 1).isEmpty))) H
theorem op_notInS : OpR X (compareOp .NotIn) rNotInS := op_notIn_str
theorem ninS {b : Bool} (h : (!(Builtin.Str.occurrences j i 0 j.length 1).isEmpty) = b) (q : Q (.bl (!b)) H) : rNotInS (.str i) (.str j) H Q := ⟨i, j, rfl, rfl, by rw [h]; exact q⟩
theorem ixS (hz : z.length ≤ 100000) (ha : atI z.cps.toList n = some c) (q : Q (.str ⟨#[c]⟩) H) : rIxS (.str z) (.int n) H Q := ⟨z, n, c, rfl, rfl, sz_of hz, ha, q⟩
theorem slX {lo hi : Option Int} (hz : z.length ≤ 100000) (q : Q (.str (Txt.slice z lo hi)) H) : C8.rSlX (.str z) lo hi H Q := ⟨z, rfl, sz_of hz, q⟩
theorem sl {r : V → Option Int → Option Int → Hp → VK → Prop} (h : te σ H fun x H1 => tl σ H1 fun l H2 => th σ H2 fun u H3 => r x l u H3 Q) : tSl r te tl th σ H Q := h
theorem poN (q : QO none H) : tNoPart σ H QO := q
def xPart (x : V) (H1 : Hp) (Q : Option Int → Hp → Prop) : Prop := ∃ i, x = .int i ∧ Q (some i) H1
theorem poS (h : te σ H fun x H1 => xPart x H1 QO) : tPart te σ H QO := h
theorem xpart (q : QO (some n) H) : xPart (.int n) H QO := ⟨n, rfl, q⟩
end
end Rd

/-! objects that change: dicts, fields, what stays -/
namespace Rd
open PySem PySem.Spec PyProof.Rows L2 Evl Dk
section
variable {X : Cx} {σ : L2.St} {H H' : Hp} {Q : VK} {td ty tv te : TE} {x y v : V} {a : Addr} {kvs : List (Key × V)} {i : Int} {z : Str} {D : Ends} {K : PySem.W.Frag} {o : Option V} {b : Bool}
def xDGet (x y : V) (H : Hp) (Q : VK) : Prop := ∃ a v, x = .ref a ∧ DGet H a y (some v) ∧ Q v H
theorem dget (h : td σ H fun x H1 => ty σ H1 fun y H2 => xDGet x y H2 Q) : tDGet td ty σ H Q := h
theorem dgetI (h : H a = some (.dK kvs)) : DGet H a (.int i) (valV kvs (.inl i)) := DGet.k (k := .inl i) h
theorem dgetS (h : H a = some (.dK kvs)) : DGet H a (.str z) (valV kvs (.inr z)) := DGet.k (k := .inr z) h
theorem xdget (h : H a = some (.dK kvs)) (e : valV kvs (.inl i) = some v) (q : Q v H) : xDGet (.ref a) (.int i) H Q := ⟨a, v, rfl, by have g := dgetI (i := i) h; rw [e] at g; exact g, q⟩
theorem xdgetS (h : H a = some (.dK kvs)) (e : valV kvs (.inr z) = some v) (q : Q v H) : xDGet (.ref a) (.str z) H Q := ⟨a, v, rfl, by have g := dgetS (z := z) h; rw [e] at g; exact g, q⟩
def xIsD (x : V) (H : Hp) (P : Addr → Prop) : Prop := ∃ a, x = .ref a ∧ IsD H a ∧ P a
def xDO (a : Addr) (y : V) (H : Hp) (Q : VK) : Prop := ∃ o, DGet H a y o ∧ Q (o.getD .non) H
theorem dget1 (h : td σ H fun x H1 => xIsD x H1 fun a => ty σ H1 fun y H2 => xDO a y H2 Q) : tDGet1 td ty σ H Q := h
theorem xisd {P : Addr → Prop} (h : H a = some (.dK kvs)) (p : P a) : xIsD (.ref a) H P := ⟨a, rfl, .inl ⟨kvs, .inl h⟩, p⟩
theorem xdo (h : H a = some (.dK kvs)) (e : valV kvs (.inl i) = o) (q : Q (o.getD .non) H) : xDO a (.int i) H Q := ⟨_, dgetI h, by rw [e]; exact q⟩
def xDIn (x y : V) (H : Hp) (Q : VK) : Prop := ∃ a o, x = .ref a ∧ DGet H a y o ∧ Q (.bl o.isSome) H
theorem din (h : ty σ H fun y H1 => td σ H1 fun x H2 => xDIn x y H2 Q) : tDIn ty td σ H Q := h
theorem xdin (h : H a = some (.dK kvs)) (e : (valV kvs (.inl i)).isSome = b) (q : Q (.bl b) H) : xDIn (.ref a) (.int i) H Q := ⟨a, _, rfl, dgetI h, by rw [e]; exact q⟩
def xDPut (x y v : V) (H : Hp) (N : Hp → Prop) : Prop := ∃ a H4, x = .ref a ∧ DPut H a y v H4 ∧ N H4
theorem dput (h : tv σ H fun v H1 => td σ H1 fun x H2 => ty σ H2 fun y H3 => xDPut x y v H3 fun H4 => D.nx σ H4) : sDPut td ty tv D σ H := h
theorem small {n : Nat} (h : n ≤ 10000) : n < sizeLine := Nat.lt_of_le_of_lt h (by decide)
theorem xdput {N : Hp → Prop} (h : H a = some (.dK kvs)) (l : kvs.length ≤ 10000) (q : N (upd H a (.dK (putK kvs (.inl i) v)))) : xDPut (.ref a) (.int i) v H N := ⟨a, _, rfl, DPut.k (k := .inl i) h (small l), q⟩
theorem dnewE (q : ∀ p H', H p = none → Ex H H' → H' p = some (.dK []) → Q (.ref p) H') : tDNewK σ H Q := fun p hp => q p _ hp (Ex.new hp) upd_same
theorem dnew (q : ∀ p, H p = none → Q (.ref p) (upd H p (.dK []))) : tDNewK σ H Q := q
def rLenD : List V → Hp → VK → Prop := fun xs H Q => ∃ a kvs, xs = [.ref a] ∧ H a = some (.dK kvs) ∧ Q (.int kvs.length) H
theorem c_lenD : CallR X (.builtin "len") rLenD := call_lenD
theorem lenD (h : H a = some (.dK kvs)) (q : Q (.int kvs.length) H) : rLenD [.ref a] H Q := ⟨a, kvs, rfl, h, q⟩
theorem isB {a b : Bool} (q : Q (.bl (decide (a = b))) H) : rIsB (.bl a) (.bl b) H Q := ⟨a, b, rfl, rfl, q⟩
theorem notB {a b : Bool} (q : Q (.bl (!decide (a = b))) H) : rNotB (.bl a) (.bl b) H Q := ⟨a, b, rfl, rfl, q⟩
def xFA (K : PySem.W.Frag) (f : Str) (x : V) (H : Hp) (N : V → Addr → Addr → Prop) : Prop := ∃ (a C : Addr) (dx : Addr) (fs : List (Str × V)) (v : V), x = .ref a ∧ H a = some (.ins C dx fs) ∧ Cls K C ∧ NoAttr K C f ∧ fs.lookup f = some v ∧ N v a C
def xFB (f : Str) (a C : Addr) (z : V) (H : Hp) (N : Hp → Prop) : Prop := ∃ dx' fs', H a = some (.ins C dx' fs') ∧ fs'.length < 1000 ∧ N (upd H a (.ins C dx' (putF f z fs')))
theorem fldaug {rd : V → V → Hp → VK → Prop} {f : Str} (h : te σ H fun x H1 => xFA K f x H1 fun v a C => tv σ H1 fun y H2 => rd v y H2 fun z H3 => xFB f a C z H3 fun H4 => D.nx σ H4) : sFldAug K te tv rd f D σ H := h
theorem xfa {N : V → Addr → Addr → Prop} {f : Str} {C dx : Addr} {fs : List (Str × V)} (h : H a = some (.ins C dx fs)) (c : Cls K C) (n : NoAttr K C f) (l : fs.lookup f = some v) (q : N v a C) : xFA K f (.ref a) H N := ⟨a, C, dx, fs, v, rfl, h, c, n, l, q⟩
theorem xfb {N : Hp → Prop} {f : Str} {C dx : Addr} {fs : List (Str × V)} (h : H a = some (.ins C dx fs)) (l : fs.length < 1000) (q : N (upd H a (.ins C dx (putF f v fs)))) : xFB f a C v H N := ⟨dx, fs, h, l, q⟩
theorem radd {j : Int} (q : Q (.int (i + j)) H) : rAdd (.int i) (.int j) H Q := ⟨i, j, rfl, rfl, q⟩
theorem whl {c : TT} {tb : TS} (h : ∃ W : Nat → L2.St → Hp → Prop, (∃ m, W m σ H) ∧ ∀ m σ H, W m σ H →
  c σ H fun b H1 => if b = true then ∃ N : L2.St → Hp → Prop, (∀ σ' H', N σ' H' → ∃ m', m' < m ∧ W m' σ' H') ∧ tb { D with nx := N, ct := N, bk := D.nx } σ H1 else D.nx σ H1) : tWhile c tb D σ H := h
theorem pe_or {e : Expr} {t1 t2 : TE} (h1 : PE X e t1) (h2 : PE X e t2) : PE X e (fun σ H Q => t1 σ H Q ∨ t2 σ H Q) := ⟨fun pins s σ H Q I h => h.elim (h1.run pins s σ H Q I) (h2.run pins s σ H Q I)⟩
end
end Rd

/-! sorted(d) of a dict with int keys, any number of them -/
namespace Rd
open PySem PySem.Spec PyProof.Rows L2
def rSortedDI : List V → Hp → VK → Prop := fun xs H Q => ∃ (a : Addr) (kvs : List (Key × V)) (ks : List Int), xs = [.ref a] ∧ H a = some (.dK kvs) ∧ kvs.map (·.1) = ks.map Sum.inl ∧ ks.length ≤ 10000 ∧
  ∀ (ys : List Int) (p : Addr) (H' : Hp), ys.Perm ks → ys.Pairwise (· ≤ ·) → H p = none → Evl.Ex H H' → H' p = some (.lst (ys.map V.int)) → Q (.ref p) H'
theorem call_sortedDL {X : Cx} (calm : X.calm = true) : CallR X (.builtin "sorted") rSortedDI := by
  rintro pins s σ H xs us Q I r ⟨a, kvs, ks, rfl, ha, hks, hz, q⟩
  obtain ⟨u, rfl, rx⟩ := vals1 r
  cases rx
  obtain ⟨_, low, vs, rel, dd⟩ := dk_of I.hok ha
  obtain ⟨ep, dat⟩ := dd.dictAt
  have keyEq : vs.map (·.1) = ks.map Sum.inl := rel.keys.symm.trans hks
  have len1 : vs.length = ks.length := by
    have e := congrArg List.length keyEq
    simpa using e
  have small1 : vs.length ≤ sizeLine := by rw [len1]; exact Dk.sz5 (by omega)
  refine Calls.call_function_entry kind_sorted plain_sorted entry_sorted (args_sorted1 _) ?_
  unfold Builtin.«sorted»
  refine wpAny_bind (m := checkCount "sorted" 1 1 _) (wpAny_pure (wpAny_bind ?_))
  refine PySem.W.kdu_collect (A := X.A.in1) (PySem.W.kdl_dict (knd := mixKind X.prog X.w) (kvs := vs) (ep := ep) low) (I.ok.hd calm) dat small1 fun h1 tk acc keep got => ?_
  have len2 : acc.toList.length = ks.length := by rw [Array.length_toList, got.1, len1]
  have hInts : IntsAre acc.toList ks := ints_each len2 fun j v e => by
    obtain ⟨k, x, e1, e2⟩ := got.2 j v (by rw [← Array.getElem?_toList]; exact e)
    have e3 : (vs.map (·.1))[j]? = some k := by rw [List.getElem?_map, e1]; rfl
    rw [keyEq, List.getElem?_map] at e3
    obtain ⟨y, hy, ey⟩ := Option.map_eq_some_iff.mp e3
    subst ey
    rcases keyIs_shape (show keyIs (Sum.inl y) v = true from e2) with ⟨i, t, ek, ev⟩ | ⟨z, t, ek, ev⟩
    · cases ek
      exact ⟨y, t, hy, ev⟩
    · cases ek
  have I1 : Inv X pins σ H { s with heap := h1, toks := tk } := I.kept keep
  have small2 : acc.toList.length ≤ sizeLine := by rw [len2]; exact Dk.sz5 (by omega)
  refine wpAny_bind (wpAny_newList ?_ small2)
  have at0 : (h1.push (seqObj "list" acc.toList.toArray 0)).get? h1.objs.size = some (seqObj "list" acc.toList.toArray 0) := Heap.get?_push_size _ rfl
  show wpAny _ _ _ _ _ { s with heap := h1.push (seqObj "list" acc.toList.toArray 0), toks := tk }
  refine wpAny_bind (wpAny_holding (wpAny_call_entry slot_list_sort ⟨_, at0, rfl⟩ entry_list_sort ?_ (args_list_sort _)))
  refine SrtO.list_sort_ord (s := { s with heap := h1.push (seqObj "list" acc.toList.toArray 0), toks := tk }) SrtO.swo_int at0 small2 (fun h2 => SrtO.ints_sortable hInts h2) fun out g1 g2 => ⟨_, rfl, ?_⟩
  obtain ⟨k1, k2, k3⟩ := SrtO.ints_out hInts g1 g2
  obtain ⟨e2, at2⟩ := sortedHeap_at (vs := acc.toList) (out := out.toArray) at0
  have len3 : ((out.map SrtO.iv).map V.int).length ≤ sizeLine := by
    rw [List.length_map, k2.length_eq]
    exact Dk.sz5 (by omega)
  have fresh := I1.hok.fresh (Nat.le_refl h1.objs.size)
  refine wpAny_pure ⟨_, rfl, .ref h1.objs.size, upd H h1.objs.size (.lst ((out.map SrtO.iv).map V.int)), I1.laid (t' := tk) (fun b u e => ?_) (Nat.le_refl _) ⟨len3, out, e2, vals_of_ints k1, at2⟩, rfl, q _ _ _ k2 k3 fresh (Evl.Ex.new fresh) upd_same⟩
  have hb : b < h1.objs.size := Heap.lt_size e
  rw [sortedHeap_old (Nat.ne_of_lt hb) (by rw [size_push']; exact Nat.lt_succ_of_lt hb)]
  exact Heap.get?_push_of_some _ e
theorem sortedDI {H : Hp} {Q : VK} {a : Addr} {kvs : List (Key × V)} {ks : List Int} (ha : H a = some (.dK kvs)) (hk : kvs.map (·.1) = ks.map Sum.inl) (hz : ks.length ≤ 10000)
    (q : ∀ (ys : List Int) (p : Addr) (H' : Hp), ys.Perm ks → ys.Pairwise (· ≤ ·) → H p = none → Evl.Ex H H' → H' p = some (.lst (ys.map V.int)) → Q (.ref p) H') : rSortedDI [.ref a] H Q := ⟨a, kvs, ks, rfl, ha, hk, hz, q⟩
/-- sorted keys that are 0, 1, .. n - 1 in order already -/
theorem perm_range {n : Nat} {ys : List Int} (h : ys.Perm ((List.range n).map fun (i : Nat) => (i : Int))) (s : ys.Pairwise (· ≤ ·)) : ys = (List.range n).map fun (i : Nat) => (i : Int) := by
  refine List.Perm.eq_of_pairwise (le := (· ≤ ·)) (fun a b _ _ h1 h2 => by omega) s ?_ h
  rw [List.pairwise_map]
  exact List.Pairwise.imp (fun h => by omega) (List.pairwise_lt_range)
end Rd

/-! dicts whose keys are tuples of ints, truth values and texts -/
namespace Nk
open PySem PySem.Spec PyProof.Rows L2
def bkIs : Key → Value → Bool
  | .inl k, .bool b => decide (k = PpSet.b2 b)
  | k, v => keyIs k v
theorem bk_shape {k : Key} {v : Value} (h : bkIs k v = true) : (∃ i t, k = Sum.inl i ∧ v = Value.int i t) ∨ (∃ x t, k = Sum.inr x ∧ v = Value.str x t) ∨ ∃ b, k = Sum.inl (PpSet.b2 b) ∧ v = Value.bool b := by
  cases k with
  | inl i =>
    by_cases hb : ∃ b, v = Value.bool b
    · obtain ⟨b, rfl⟩ := hb
      exact .inr (.inr ⟨b, by rw [show i = PpSet.b2 b from of_decide_eq_true h], rfl⟩)
    · have h2 : keyIs (.inl i) v = true := by
        cases v <;> first | exact h | exact absurd ⟨_, rfl⟩ hb
      rcases keyIs_shape h2 with h | h
      · exact .inl h
      · exact .inr (.inl h)
  | inr x =>
    have h2 : keyIs (.inr x) v = true := by cases v <;> exact h
    rcases keyIs_shape h2 with h | h
    · exact .inl h
    · exact .inr (.inl h)
theorem bk_bool (b : Bool) : bkIs (.inl (PpSet.b2 b)) (.bool b) = true := decide_eq_true rfl
theorem bk_int (i : Int) (t : Tok) : bkIs (.inl i) (.int i t) = true := keyIs_int i t
theorem bk_str (x : Str) (t : Tok) : bkIs (.inr x) (.str x t) = true := keyIs_str x t
theorem b2_inj {a b : Bool} (h : PpSet.b2 a = PpSet.b2 b) : a = b := by
  cases a <;> cases b <;> first | rfl | exact absurd h (by decide)
def bkKind (prog : Program) (w : World) : PySem.KeyKind prog w Key where
  is := bkIs
  hash := keyH w
  inj := fun v a b ha hb => by
    rcases bk_shape ha with ⟨i, t, rfl, rfl⟩ | ⟨x, t, rfl, rfl⟩ | ⟨c, rfl, rfl⟩
    · rcases bk_shape hb with ⟨j, u, rfl, e⟩ | ⟨y, u, rfl, e⟩ | ⟨d, rfl, e⟩
      · injection e with e1 _; rw [e1]
      · exact nomatch e
      · exact nomatch e
    · rcases bk_shape hb with ⟨j, u, rfl, e⟩ | ⟨y, u, rfl, e⟩ | ⟨d, rfl, e⟩
      · exact nomatch e
      · injection e with e1 _; rw [e1]
      · exact nomatch e
    · rcases bk_shape hb with ⟨j, u, rfl, e⟩ | ⟨y, u, rfl, e⟩ | ⟨d, rfl, e⟩
      · exact nomatch e
      · exact nomatch e
      · injection e with e1; rw [e1]
  byValue := fun k v h => by
    rcases bk_shape h with ⟨i, t, rfl, rfl⟩ | ⟨x, t, rfl, rfl⟩ | ⟨c, rfl, rfl⟩ <;> rfl
  pyHash := fun hv h => by
    rcases bk_shape hv with ⟨i, t, rfl, rfl⟩ | ⟨x, t, rfl, rfl⟩ | ⟨c, rfl, rfl⟩
    · exact wpAny_pyHash_int h
    · exact wpAny_pyHash_str h
    · exact PpSet.pyHash_bool h
  eqBool := fun hu hv h => by
    rcases bk_shape hu with ⟨i, t, rfl, rfl⟩ | ⟨x, t, rfl, rfl⟩ | ⟨c, rfl, rfl⟩
    · rcases bk_shape hv with ⟨j, u, rfl, rfl⟩ | ⟨y, u, rfl, rfl⟩ | ⟨d, rfl, rfl⟩
      · rw [key_ll] at h; exact wpAny_eqBool_int h
      · rw [key_lr] at h; exact SeqAt.EqAt.int_str i t y u _ _ _ _ h
      · rw [key_ll] at h; exact SeqAt.EqAt.int_bool i t d _ _ _ _ h
    · rcases bk_shape hv with ⟨j, u, rfl, rfl⟩ | ⟨y, u, rfl, rfl⟩ | ⟨d, rfl, rfl⟩
      · rw [key_rl] at h; exact SeqAt.EqAt.str_int x t j u _ _ _ _ h
      · rw [key_rr] at h; exact wpAny_eqBool_str h
      · rw [key_rl] at h; exact SeqAt.EqAt.str_bool x t d _ _ _ _ h
    · rcases bk_shape hv with ⟨j, u, rfl, rfl⟩ | ⟨y, u, rfl, rfl⟩ | ⟨d, rfl, rfl⟩
      · rw [key_ll] at h; exact SeqAt.EqAt.bool_int c j u _ _ _ _ h
      · rw [key_lr] at h; exact SeqAt.EqAt.bool_str c y u _ _ _ _ h
      · refine SeqAt.EqAt.bool_bool c d _ _ _ _ ?_
        have e : decide ((Sum.inl (PpSet.b2 c) : Key) = Sum.inl (PpSet.b2 d)) = (c == d) := by
          rw [PpSet.beq_dec]
          exact decide_eq_decide.mpr ⟨fun z => b2_inj (Sum.inl.inj z), fun z => by rw [z]⟩
        rw [e] at h; exact h
  «strs» := fun k x t v h => by
    rcases bk_shape h with ⟨i, u, rfl, e⟩ | ⟨y, u, rfl, e⟩ | ⟨d, rfl, e⟩
    · exact nomatch e
    · injection e with e1 _
      subst e1
      cases v <;> rfl
    · exact nomatch e
def kOf : V → Option Key
  | .int i => some (.inl i)
  | .bl b => some (.inl (PpSet.b2 b))
  | .str x => some (.inr x)
  | _ => none
theorem bk_of {P : Program} {w : World} {v : V} {u : Value} {k : Key} (r : RelV v u) (e : kOf v = some k) : (bkKind P w).is k u = true := by
  cases v with
  | int i => obtain ⟨t, q⟩ := (show ∃ t, u = Value.int i t from r); subst q; cases e; exact bk_int i t
  | bl b => cases (show u = Value.bool b from r); cases e; exact bk_bool b
  | str x => obtain ⟨t, q⟩ := (show ∃ t, u = Value.str x t from r); subst q; cases e; exact bk_str x t
  | _ => cases e
theorem items_bk {P : Program} {w : World} : ∀ {xs : List V} {us : List Value} {ks : List Key}, Vals xs us → xs.map kOf = ks.map some → ItemsAre (bkKind P w) ks us
  | [], us, ks, r, e => by
    cases r
    cases ks with
    | nil => exact .nil
    | cons k ks => cases e
  | x :: xs, us, ks, r, e => by
    cases r with
    | cons h t =>
      cases ks with
      | nil => cases e
      | cons k ks =>
        rw [List.map_cons, List.map_cons] at e
        injection e with e1 e2
        exact .cons (bk_of h e1) (items_bk t e2)
abbrev Row3 := List Key × Addr × V
def valN (ps : List Row3) (k : List Key) : Option V := (ps.find? fun p => decide (p.1 = k)).map (·.2.2)
abbrev RelN : List Row3 → List (List Key × Addr × Value) → Prop := Paired fun p q => p.1 = q.1 ∧ p.2.1 = q.2.1 ∧ RelV p.2.2 q.2.2
/-- the dict's table, told of its own object -/
def TabN (P : Program) (w : World) (a : Addr) (ps : List Row3) (h : Heap) : Prop := ps.length ≤ 100000 ∧ (a == sysModules) = false ∧ ∃ xs : List (List Key × Addr × Value), RelN ps xs ∧
  ∃ o es ep, h.get? a = some o ∧ o.ExactDict ∧ o.data = .dict es ep ∧ es.toList = xs.map (entryOfKey (tupleKind (bkKind P w))) ∧ (xs.map (·.1)).Nodup
def DN (P : Program) (w : World) (a : Addr) (ps : List Row3) : HO := .ext (TabN P w a ps)
theorem dn_ok {P : Program} {w : World} {H : Hp} {h : Heap} {a : Addr} {ps : List Row3} (t : TabN P w a ps h) : ObjOk P w H h a (DN P w a ps) := by
  obtain ⟨z, hd, xs, r, o, es, ep, h1, h2⟩ := id t
  refine ⟨t, ⟨o, h1⟩, fun g1 g2 ⟨z', hd', xs', r', o', es', ep', q1, q2⟩ k => ⟨z', hd', xs', r', o', es', ep', k _ q1, q2⟩⟩
theorem RelN.val {ps : List Row3} {xs : List (List Key × Addr × Value)} (r : RelN ps xs) (k : List Key) : RelO (valN ps k) ((atKey xs k).map (·.2)) := by
  unfold RelN at r
  induction r with
  | nil => exact True.intro
  | @cons p q ps qs h t ih =>
    obtain ⟨h1, _, h2⟩ := h
    by_cases e : p.1 = k
    · have e' : q.1 = k := h1.symm.trans e
      have a : valN (p :: ps) k = some p.2.2 := by simp [valN, List.find?_cons, e]
      have b : atKey (q :: qs) k = some q.2 := by simp [atKey, List.find?_cons, e']
      rw [a, b]; exact h2
    · have e' : ¬ q.1 = k := fun z => e (h1.trans z)
      have a : valN (p :: ps) k = valN ps k := by simp [valN, List.find?_cons, e]
      have b : atKey (q :: qs) k = atKey qs k := by simp [atKey, List.find?_cons, e']
      rw [a, b]; exact ih
/-- the keys stand as tuples -/
def KeysIn (K : PySem.W.Frag) (H : Hp) (ps : List Row3) : Prop := ∀ p ∈ ps, ∃ xs, SqT K H p.2.1 xs ∧ xs.map kOf = p.1.map some
theorem KeysIn.nil {K : PySem.W.Frag} {H : Hp} : KeysIn K H [] := fun p hp => by cases hp
theorem KeysIn.snoc {K : PySem.W.Frag} {H : Hp} {ps : List Row3} {k : List Key} {b : Addr} {v : V} {xs : List V} (h : KeysIn K H ps) (hb : SqT K H b xs) (e : xs.map kOf = k.map some) : KeysIn K H (ps ++ [(k, b, v)]) := fun p hp => by
  rcases List.mem_append.mp hp with hp | hp
  · exact h p hp
  · cases List.mem_singleton.mp hp; exact ⟨xs, hb, e⟩
theorem KeysIn.mono {K : PySem.W.Frag} {H H' : Hp} {ps : List Row3} (h : KeysIn K H ps) (e : Evl.Ex H H') : KeysIn K H' ps := fun p hp => by
  obtain ⟨xs, h1, h2⟩ := h p hp
  exact ⟨xs, Evl.ex_t e h1, h2⟩
theorem valN_snoc {ps : List Row3} {k : List Key} {b : Addr} {v : V} (j : List Key) (h : valN ps k = none) : valN (ps ++ [(k, b, v)]) j = if j = k then some v else valN ps j := by
  unfold valN at *
  rw [List.find?_append]
  by_cases e : j = k
  · subst e
    rw [if_pos rfl]
    have h' : ps.find? (fun p => decide (p.1 = j)) = none := by
      cases q : ps.find? (fun p => decide (p.1 = j)) with
      | none => rfl
      | some x => rw [q] at h; cases h
    rw [h']
    simp
  · rw [if_neg e]
    have e' : ¬ k = j := fun z => e z.symm
    cases q : ps.find? (fun p => decide (p.1 = j)) with
    | none => simp [e']
    | some x => simp
section
variable {X : Cx} {pins : List (Addr × Obj)} {σ : L2.St} {H : Hp} {s : Shared} {a b : Addr} {ps : List Row3} {xs : List V} {k : List Key} {v : V} {u r : Value} {A : Around} {E : Value → Shared → Prop}
theorem key_bk (I : Inv X pins σ H s) (h : SqT X.K H b xs) (e : xs.map kOf = k.map some) : (tupleKind (bkKind X.prog X.w)).is s.heap k b := by
  obtain ⟨its, r, ⟨o, h1, h2, n, h3⟩, _⟩ := I.tuple h
  exact ⟨o, its.toArray, n, h1, h2, h3, by simpa using items_bk r e⟩
theorem tabH (I : Inv X pins σ H s) (ha : H a = some (DN X.prog X.w a ps)) (hk : KeysIn X.K H ps) : ps.length ≤ 100000 ∧ (a == sysModules) = false ∧ ∃ zs, RelN ps zs ∧ s.heap.DictOfH (tupleKind (bkKind X.prog X.w)) a zs := by
  have x : ObjOk X.prog X.w H s.heap a (.ext (TabN X.prog X.w a ps)) := I.hok a _ ha
  obtain ⟨⟨z, hd, zs, rel, o, es, ep, h1, h2, h3, h4, h5⟩, _, _⟩ := x
  refine ⟨z, hd, zs, rel, o, es, ep, h1, h2, h3, h4, fun q hq => ?_, h5⟩
  have all : ∀ {l : List Row3} {m : List (List Key × Addr × Value)}, RelN l m → (∀ p ∈ l, ∃ xs, SqT X.K H p.2.1 xs ∧ xs.map kOf = p.1.map some) → ∀ q ∈ m, (tupleKind (bkKind X.prog X.w)).is s.heap q.1 q.2.1 := by
    intro l m rl
    induction rl with
    | nil => intro _ q hq; exact nomatch hq
    | @cons p q ps qs hq t ih =>
      intro hl q' hq'
      rcases List.mem_cons.mp hq' with e | hq'
      · subst e
        obtain ⟨xs, h1, h2⟩ := hl p List.mem_cons_self
        rw [← hq.1, ← hq.2.1]
        exact key_bk I h1 h2
      · exact ih (fun p hp => hl p (List.mem_cons_of_mem _ hp)) q' hq'
  exact all rel hk q hq
theorem n_in {Q : Value → Shared → Prop} (hu : A.units + 1 < cLine) (I : Inv X pins σ H s) (ha : H a = some (DN X.prog X.w a ps)) (hk : KeysIn X.K H ps) (hb : SqT X.K H b xs) (e : xs.map kOf = k.map some) (h : ∀ s', Inv X pins σ H s' → Q (.bool (valN ps k).isSome) s') :
    wpAny (model X.prog X.w) A (compareOp .In (.ref b) (.ref a)) Q E s := by
  obtain ⟨z, hd, zs, rel, dd⟩ := tabH I ha hk
  refine wpAny_in_heap (tupleKind_room_in1 hu) (key_bk I hb e) hd dd ?_
  have q := (rel.val k).isSome_eq
  rw [Option.isSome_map] at q
  rw [← q]
  exact h _ (I.tok _)
theorem n_notIn {Q : Value → Shared → Prop} (hu : A.units + 1 < cLine) (I : Inv X pins σ H s) (ha : H a = some (DN X.prog X.w a ps)) (hk : KeysIn X.K H ps) (hb : SqT X.K H b xs) (e : xs.map kOf = k.map some) (h : ∀ s', Inv X pins σ H s' → Q (.bool (!(valN ps k).isSome)) s') :
    wpAny (model X.prog X.w) A (compareOp .NotIn (.ref b) (.ref a)) Q E s := by
  obtain ⟨z, hd, zs, rel, dd⟩ := tabH I ha hk
  refine wpAny_notIn_heap (tupleKind_room_in1 hu) (key_bk I hb e) hd dd ?_
  have q := (rel.val k).isSome_eq
  rw [Option.isSome_map] at q
  rw [← q]
  exact h _ (I.tok _)
theorem n_getItem {Q : Value → Shared → Prop} (hu : A.units + 1 < cLine) (I : Inv X pins σ H s) (ha : H a = some (DN X.prog X.w a ps)) (hk : KeysIn X.K H ps) (hb : SqT X.K H b xs) (e : xs.map kOf = k.map some) (hv : valN ps k = some v) (h : ∀ w' s', Inv X pins σ H s' → RelV v w' → Q w' s') :
    wpAny (model X.prog X.w) A (getItem (.ref a) (.ref b)) Q E s := by
  obtain ⟨z, hd, zs, rel, dd⟩ := tabH I ha hk
  obtain ⟨w', hw, rw'⟩ := RelO.some_of (v := v) (o := (atKey zs k).map (·.2)) (by rw [← hv]; exact rel.val k)
  obtain ⟨p, hp, hp2⟩ := Option.map_eq_some_iff.mp hw
  refine wpAny_getItem_heap (tupleKind_room_in1 hu) (key_bk I hb e) dd hp ?_
  rw [hp2]
  exact h w' _ (I.tok _) rw'
theorem tab_new {h' : Heap} {zs : List (List Key × Addr × Value)} (z : ps.length < 100000) (hd : (a == sysModules) = false) (rel : RelN ps zs) (hv : valN ps k = none) (rv : RelV v r) (dd : h'.DictOfH (tupleKind (bkKind X.prog X.w)) a (storedH zs k b r)) : TabN X.prog X.w a (ps ++ [(k, b, v)]) h' := by
  have hn : atKey zs k = none := by
    have q := rel.val k
    rw [hv] at q
    cases e : atKey zs k with
    | none => rfl
    | some x => rw [e] at q; exact q.elim
  rw [storedH_new hn] at dd
  obtain ⟨o, es, ep, h1, h2, h3, h4, _, h5⟩ := dd
  exact ⟨by rw [List.length_append]; exact z, hd, _, Paired.snoc rel ⟨rfl, rfl, rv⟩, o, es, ep, h1, h2, h3, h4, h5⟩
theorem rel_len {ps : List Row3} {zs : List (List Key × Addr × Value)} (r : RelN ps zs) : ps.length = zs.length := Paired.length r
theorem n_setItem {Q : Unit → Shared → Prop} (hu : A.units + 1 < cLine) (I : Inv X pins σ H s) (ha : H a = some (DN X.prog X.w a ps)) (hk : KeysIn X.K H ps) (hb : SqT X.K H b xs) (e : xs.map kOf = k.map some) (hv : valN ps k = none) (hz : ps.length < 100000) (rv : RelV v r)
    (h : ∀ s', Inv X pins σ (upd H a (DN X.prog X.w a (ps ++ [(k, b, v)]))) s' → Q () s') : wpAny (model X.prog X.w) A (setItem (.ref a) (.ref b) r) Q E s := by
  obtain ⟨z, hd, zs, rel, dd⟩ := tabH I ha hk
  have hl := rel_len rel
  refine wpAny_setItem_heap (hsz := Dk.sz5 (by omega)) (tupleKind_room_in1 hu) (key_bk I hb e) dd fun h' dd' hs => h _ ?_
  have he : ∃ q, h'.get? a = some q := by
    obtain ⟨q, _, _, hq, _⟩ := dd'
    exact ⟨q, hq⟩
  exact d_write I (by rw [ha]; exact True.intro) hs he (dn_ok (tab_new hz hd rel hv rv dd'))
end
/-- what the dict at a holds at the key y -/
def NGet (P : Program) (w : World) (K : PySem.W.Frag) (H : Hp) (a : Addr) (y : V) (o : Option V) : Prop := ∃ (ps : List Row3) (b : Addr) (xs : List V) (k : List Key), H a = some (DN P w a ps) ∧ KeysIn K H ps ∧ y = .ref b ∧ SqT K H b xs ∧ xs.map kOf = k.map some ∧ o = valN ps k
/-- a new key -/
def NPut (P : Program) (w : World) (K : PySem.W.Frag) (H : Hp) (a : Addr) (y v : V) (H' : Hp) : Prop := ∃ (ps : List Row3) (b : Addr) (xs : List V) (k : List Key), H a = some (DN P w a ps) ∧ KeysIn K H ps ∧ y = .ref b ∧ SqT K H b xs ∧ xs.map kOf = k.map some ∧ valN ps k = none ∧ ps.length < 100000 ∧ H' = upd H a (DN P w a (ps ++ [(k, b, v)]))
def xNGet (P : Program) (w : World) (K : PySem.W.Frag) (x y : V) (H : Hp) (Q : VK) : Prop := ∃ a v, x = .ref a ∧ NGet P w K H a y (some v) ∧ Q v H
def xNIn (P : Program) (w : World) (K : PySem.W.Frag) (neg : Bool) (x y : V) (H : Hp) (Q : VK) : Prop := ∃ a o, x = .ref a ∧ NGet P w K H a y o ∧ Q (.bl (if neg then !o.isSome else o.isSome)) H
def xNPut (P : Program) (w : World) (K : PySem.W.Frag) (x y v : V) (H : Hp) (N : Hp → Prop) : Prop := ∃ a H4, x = .ref a ∧ NPut P w K H a y v H4 ∧ N H4
def tNGet (P : Program) (w : World) (K : PySem.W.Frag) (td ty : TE) : TE := fun σ H Q => td σ H fun x H1 => ty σ H1 fun y H2 => xNGet P w K x y H2 Q
def tNIn (P : Program) (w : World) (K : PySem.W.Frag) (neg : Bool) (ty td : TE) : TE := fun σ H Q => ty σ H fun y H1 => td σ H1 fun x H2 => xNIn P w K neg x y H2 Q
def sNPut (P : Program) (w : World) (K : PySem.W.Frag) (td ty tv : TE) : TS := fun D σ H => tv σ H fun v H1 => td σ H1 fun x H2 => ty σ H2 fun y H3 => xNPut P w K x y v H3 fun H4 => D.nx σ H4
def tNNew (P : Program) (w : World) : TE := fun _ H Q => ∀ p, H p = none → Q (.ref p) (upd H p (DN P w p []))
def xNDisp (P : Program) (w : World) (K : PySem.W.Frag) (p : Addr) (x y : V) (H2 : Hp) (Q : VK) : Prop := H2 p = some (DN P w p []) ∧ ∃ (b : Addr) (xs : List V) (k : List Key), x = .ref b ∧ SqT K H2 b xs ∧ xs.map kOf = k.map some ∧ Q (.ref p) (upd H2 p (DN P w p [(k, b, y)]))
def tNDisp (P : Program) (w : World) (K : PySem.W.Frag) (tk tv : TE) : TE := fun σ H Q => ∀ p, H p = none → tk σ (upd H p (DN P w p [])) fun x H1 => tv σ H1 fun y H2 => xNDisp P w K p x y H2 Q
section
variable {X : Cx} {o i value kx : Expr} {pos pos' : Pos} {td ty tv tk : TE}
theorem pe_nget (hu : X.A.units + 1 < cLine) (ho : PE X o td) (hi : PE X i ty) (hs : NoSl i) : PE X (.Subscript o i pos) (tNGet X.prog X.w X.K td ty) := by
  refine ⟨fun pins s σ H Q I h => ?_⟩
  refine subD_of PySem.F.slot_dict_getitem.lookup hs (thn (ho.run pins s σ H _ I h) fun u s1 ⟨x, H1, I1, rx, q1⟩ => thn (hi.run pins s1 σ H1 _ I1 q1) fun iv s2 hq => ?_)
  obtain ⟨y, H2, I2, ry, a, v, ex, ⟨ps, b, xs, k, g1, g2, g3, g4, g5, g6⟩, q2⟩ := hq
  subst ex
  subst g3
  obtain rfl : u = Value.ref a := rx
  obtain rfl : iv = Value.ref b := ry
  obtain ⟨_, _, zs, _, dd⟩ := tabH I2 g1 g2
  exact ⟨dd.typeIs, n_getItem hu I2 g1 g2 g4 g5 g6.symm fun w' s3 I3 rw' => ⟨v, H2, I3, rw', q2⟩⟩
theorem pc_nin (hu : X.A.units + 1 < cLine) (hi : PE X i ty) (ho : PE X o td) : PC X .In i o (tNIn X.prog X.w X.K false ty td) := by
  refine ⟨fun pins s σ H Q I h => ?_⟩
  refine thn (hi.run pins s σ H _ I h) fun iv s1 ⟨y, H1, I1, ry, q1⟩ => thn (ho.run pins s1 σ H1 _ I1 q1) fun u s2 hq => ?_
  obtain ⟨x, H2, I2, rx, a, ov, ex, ⟨ps, b, xs, k, g1, g2, g3, g4, g5, g6⟩, q2⟩ := hq
  subst ex
  subst g3
  subst g6
  obtain rfl : u = Value.ref a := rx
  obtain rfl : iv = Value.ref b := ry
  exact n_in hu I2 g1 g2 g4 g5 fun s3 I3 => ⟨.bl (valN ps k).isSome, H2, I3, rfl, q2⟩
theorem pc_nnotin (hu : X.A.units + 1 < cLine) (hi : PE X i ty) (ho : PE X o td) : PC X .NotIn i o (tNIn X.prog X.w X.K true ty td) := by
  refine ⟨fun pins s σ H Q I h => ?_⟩
  refine thn (hi.run pins s σ H _ I h) fun iv s1 ⟨y, H1, I1, ry, q1⟩ => thn (ho.run pins s1 σ H1 _ I1 q1) fun u s2 hq => ?_
  obtain ⟨x, H2, I2, rx, a, ov, ex, ⟨ps, b, xs, k, g1, g2, g3, g4, g5, g6⟩, q2⟩ := hq
  subst ex
  subst g3
  subst g6
  obtain rfl : u = Value.ref a := rx
  obtain rfl : iv = Value.ref b := ry
  exact n_notIn hu I2 g1 g2 g4 g5 fun s3 I3 => ⟨.bl (!(valN ps k).isSome), H2, I3, rfl, q2⟩
theorem ps_nput (hu : X.A.units + 1 < cLine) (ho : PE X o td) (hi : PE X i ty) (hv : PE X value tv) (hs : swapsWith value (some (.Subscript o i pos')) pos.line X.env = pure false) :
    PS X (.Assign [.Subscript o i pos'] value pos) (sNPut X.prog X.w X.K td ty tv) := by
  refine ⟨fun pins s σ H D I h => ?_⟩
  refine wpAny_Assign_Subscript (thn (hv.run pins s σ H _ I h) fun r s1 ⟨v, H1, I1, rv, q1⟩ => thn (ho.run pins s1 σ H1 _ I1 q1) fun u s2 ⟨x, H2, I2, rx, q2⟩ => thn (hi.run pins s2 σ H2 _ I2 q2) fun iv s3 hq => ?_) hs
  obtain ⟨y, H3, I3, ry, a, H4, ex, ⟨ps, b, xs, k, g1, g2, g3, g4, g5, g6, g7, g8⟩, q3⟩ := hq
  subst ex
  subst g3
  subst g8
  obtain rfl : u = Value.ref a := rx
  obtain rfl : iv = Value.ref b := ry
  exact n_setItem hu I3 g1 g2 g4 g5 g6 g7 rv fun s4 I4 => ⟨σ, _, I4, q3⟩
theorem tab_empty (P : Program) (w : World) (h : Heap) (hb : sysModules < h.objs.size) : TabN P w h.objs.size [] (h.push { cls := .type "dict", data := .dict #[] }) :=
  ⟨Nat.zero_le _, beq_eq_false_iff_ne.mpr (Ne.symm (Nat.ne_of_lt hb)), [], .nil, _, #[], 0, Heap.get?_push_size _ rfl, ⟨rfl, rfl, rfl⟩, rfl, rfl, List.nodup_nil⟩
theorem pe_nnew : PE X (.Dict [] [] pos) (tNNew X.prog X.w) := ⟨fun pins s σ H Q I h =>
  wpAny_Dict_empty ⟨.ref s.heap.objs.size, _, I.laid (a := s.heap.objs.size) (o := DN X.prog X.w s.heap.objs.size []) (t' := s.toks) (fun _ _ q => Heap.get?_push_of_some _ q) (Nat.le_refl _) (dn_ok (tab_empty _ _ s.heap I.big)), rfl, h _ (I.hok.fresh (Nat.le_refl _))⟩⟩
theorem pe_ndisp (hu : X.A.units + 1 < cLine) (hk : PE X kx tk) (hv : PE X value tv) : PE X (.Dict [some kx] [value] pos) (tNDisp X.prog X.w X.K tk tv) := by
  refine ⟨fun pins s σ H Q I q => ?_⟩
  have hn := I.hok.fresh (Nat.le_refl s.heap.objs.size)
  have I1 := I.laid (a := s.heap.objs.size) (o := DN X.prog X.w s.heap.objs.size []) (h' := s.heap.push { cls := .type "dict", data := .dict #[] }) (t' := s.toks) (fun _ _ q => Heap.get?_push_of_some _ q) (Nat.le_refl _) (dn_ok (tab_empty _ _ s.heap I.big))
  refine wpAny_Dict_any rfl rfl (by simp) (by simp) (thn ((pps_cons (pos := pos) hk hv pps_nil).run pins _ σ _ (fun ps H2 => match ps with | [(x, y)] => xNDisp X.prog X.w X.K s.heap.objs.size x y H2 Q | _ => False) I1 (q _ hn)) fun ws s2 hq => ?_)
  obtain ⟨ps, H2, I2, rel, hps⟩ := hq
  match ps, rel, hps with
  | [(x, y)], .cons (b := (w1a, w1b)) ⟨r1a, r1b⟩ .nil, ⟨e, b, xs, k, ex, hb, ek, q2⟩ =>
      subst ex
      obtain rfl : w1a = Value.ref b := r1a
      obtain ⟨z, hd, zs, rel0, dd⟩ := tabH I2 e KeysIn.nil
      unfold storeAll
      rw [List.forIn_cons]
      refine wpAny_bind (wpAny_bind (wpAny_dictSet_heap (hsz := Dk.sz5 (by have := rel_len rel0; simp at this; omega)) (show X.A.units < cLine by omega) (key_bk I2 hb ek) dd fun h' dd' hs => wpAny_pure ?_))
      refine (show wpAny (model X.prog X.w) X.A (storeAll s.heap.objs.size []) _ _ _ from ?_)
      unfold storeAll
      rw [List.forIn_nil]
      refine wpAny_pure ?_
      have he : ∃ q, h'.get? s.heap.objs.size = some q := by
        obtain ⟨q, _, _, hq, _⟩ := dd'
        exact ⟨q, hq⟩
      exact ⟨.ref s.heap.objs.size, _, d_write I2 (by rw [e]; exact True.intro) hs he (dn_ok (tab_new (ps := []) (by simp) hd rel0 rfl r1b dd')), rfl, q2⟩
end
/-! order of lists of ints -/
def LtI (ns ms : List Int) : Prop := ∃ (j : Nat) (x y : Int), ns[j]? = some x ∧ ms[j]? = some y ∧ x < y ∧ ∀ i, i < j → ns[i]? = ms[i]?
theorem LtI.trans {a b c : List Int} (h : LtI a b) (g : LtI b c) : LtI a c := by
  obtain ⟨j, x, y, h1, h2, h3, h4⟩ := h
  obtain ⟨k, u, v, g1, g2, g3, g4⟩ := g
  rcases Nat.lt_trichotomy j k with e | e | e
  · exact ⟨j, x, y, h1, by rw [← g4 j e]; exact h2, h3, fun i hi => (h4 i hi).trans (g4 i (by omega))⟩
  · subst e
    rw [h2] at g1
    cases g1
    exact ⟨j, x, v, h1, g2, by omega, fun i hi => (h4 i hi).trans (g4 i hi)⟩
  · exact ⟨k, u, v, by rw [h4 k e]; exact g1, g2, g3, fun i hi => (h4 i (by omega)).trans (g4 i hi)⟩
def eI (ns ms : List Int) (j : Nat) : Bool := decide (ns.getD j 0 = ms.getD j 0)
def ltI (ns ms : List Int) : Bool := PySem.SeqAt.firstLt (eI ns ms) (fun j => decide (ns.getD j 0 < ms.getD j 0)) (decide (ns.length < ms.length)) (List.range (min ns.length ms.length))
def leI (ns ms : List Int) : Bool := PySem.SeqAt.firstLt (eI ns ms) (fun j => decide (ns.getD j 0 ≤ ms.getD j 0)) (decide (ns.length ≤ ms.length)) (List.range (min ns.length ms.length))
def rOrdL (K : PySem.W.Frag) (f : List Int → List Int → Bool) : R2 := fun x y H Q => ∃ (a b : Addr) (ns ms : List Int), x = .ref a ∧ y = .ref b ∧ SqL K H a (ns.map V.int) ∧ SqL K H b (ms.map V.int) ∧ Q (.bl (f ns ms)) H
section
variable {X : Cx}
theorem op_ltL (hu : X.A.units < cLine) : OpR X (compareOp .Lt) (rOrdL X.K ltI) := by
  intro pins s σ H x y v u Q I rx ry h
  obtain ⟨a, b, ns, ms, rfl, rfl, ha, hb, q⟩ := h
  cases rx
  cases ry
  obtain ⟨its, r1, p1, _⟩ := I.list ha
  obtain ⟨its2, r2, p2, _⟩ := I.list hb
  have i1 : IntsAre its ns := Vals.ints r1
  have i2 : IntsAre its2 ms := Vals.ints r2
  have e1 : its.toArray.size = ns.length := by rw [List.size_toArray]; exact i1.length
  have e2 : its2.toArray.size = ms.length := by rw [List.size_toArray]; exact i2.length
  have at1 : ∀ j (h1 : j < its.toArray.size), ∃ t, its.toArray[j] = .int (ns.getD j 0) t := fun j h1 => PyProof.Rows.IntsAre.int_at i1 _ _ (by simp at h1; simp [h1])
  have at2 : ∀ j (h1 : j < its2.toArray.size), ∃ t, its2.toArray[j] = .int (ms.getD j 0) t := fun j h1 => PyProof.Rows.IntsAre.int_at i2 _ _ (by simp at h1; simp [h1])
  have R := PySem.SeqAt.RcLt.lists (A := X.A) (s := s) (e := eI ns ms) (r := fun j => decide (ns.getD j 0 < ms.getD j 0)) p1.isList p2.isList hu (fun j h1 h2 => by
    obtain ⟨t, et⟩ := at1 j h1
    obtain ⟨t', et'⟩ := at2 j h2
    rw [et, et']
    have z : (ns.getD j 0 == ms.getD j 0) = eI ns ms j := by
      unfold eI
      by_cases q : ns.getD j 0 = ms.getD j 0
      · rw [decide_eq_true q]; exact beq_iff_eq.mpr q
      · rw [decide_eq_false q]; exact beq_eq_false_iff_ne.mpr q
    rw [← z]
    exact SeqAt.EqAt.int_int _ _ _ _) (fun j h1 h2 _ => by
    obtain ⟨t, et⟩ := at1 j h1
    obtain ⟨t', et'⟩ := at2 j h2
    rw [et, et']
    exact fun _ _ _ _ h => PyProof.Rows.lt_int h)
  rw [e1, e2] at R
  have z : wpAny (model X.prog X.w) X.A (compareOp .Lt (.ref a) (.ref b)) (EP X pins σ Q) X.xe s := R X.prog X.w X.xe (EP X pins σ Q) ⟨.bl (ltI ns ms), H, I, rfl, q⟩
  exact z
theorem op_leL (hu : X.A.units < cLine) : OpR X (compareOp .LtE) (rOrdL X.K leI) := by
  intro pins s σ H x y v u Q I rx ry h
  obtain ⟨a, b, ns, ms, rfl, rfl, ha, hb, q⟩ := h
  cases rx
  cases ry
  obtain ⟨its, r1, p1, _⟩ := I.list ha
  obtain ⟨its2, r2, p2, _⟩ := I.list hb
  have i1 : IntsAre its ns := Vals.ints r1
  have i2 : IntsAre its2 ms := Vals.ints r2
  have e1 : its.toArray.size = ns.length := by rw [List.size_toArray]; exact i1.length
  have e2 : its2.toArray.size = ms.length := by rw [List.size_toArray]; exact i2.length
  have at1 : ∀ j (h1 : j < its.toArray.size), ∃ t, its.toArray[j] = .int (ns.getD j 0) t := fun j h1 => PyProof.Rows.IntsAre.int_at i1 _ _ (by simp at h1; simp [h1])
  have at2 : ∀ j (h1 : j < its2.toArray.size), ∃ t, its2.toArray[j] = .int (ms.getD j 0) t := fun j h1 => PyProof.Rows.IntsAre.int_at i2 _ _ (by simp at h1; simp [h1])
  have R := PySem.SeqAt.RcOp.lists_le (A := X.A) (s := s) (e := eI ns ms) (r := fun j => decide (ns.getD j 0 ≤ ms.getD j 0)) p1.isList p2.isList hu (fun j h1 h2 => by
    obtain ⟨t, et⟩ := at1 j h1
    obtain ⟨t', et'⟩ := at2 j h2
    rw [et, et']
    have z : (ns.getD j 0 == ms.getD j 0) = eI ns ms j := by
      unfold eI
      by_cases q : ns.getD j 0 = ms.getD j 0
      · rw [decide_eq_true q]; exact beq_iff_eq.mpr q
      · rw [decide_eq_false q]; exact beq_eq_false_iff_ne.mpr q
    rw [← z]
    exact SeqAt.EqAt.int_int _ _ _ _) (fun j h1 h2 _ => by
    obtain ⟨t, et⟩ := at1 j h1
    obtain ⟨t', et'⟩ := at2 j h2
    rw [et, et']
    exact fun _ _ _ _ h => PyProof.Rows.le_int h)
  rw [e1, e2] at R
  have z : wpAny (model X.prog X.w) X.A (compareOp .LtE (.ref a) (.ref b)) (EP X pins σ Q) X.xe s := R X.prog X.w X.xe (EP X pins σ Q) ⟨.bl (leI ns ms), H, I, rfl, q⟩
  exact z
end
theorem first_hit {e r : Nat → Bool} {z : Bool} : ∀ (l : List Nat) (j : Nat), (∃ p q, l = p ++ j :: q ∧ ∀ i ∈ p, e i = true) → e j = false → PySem.SeqAt.firstLt e r z l = r j
  | [], j, ⟨p, q, h, _⟩, _ => by cases p <;> cases h
  | i :: l, j, ⟨p, q, h, hp⟩, hj => by
    cases p with
    | nil =>
      injection h with h1 h2
      subst h1
      simp [PySem.SeqAt.firstLt, hj]
    | cons p0 ps =>
      injection h with h1 h2
      subst h1
      have h0 := hp i List.mem_cons_self
      simp only [PySem.SeqAt.firstLt, h0, if_true]
      exact first_hit l j ⟨ps, q, h2, fun x hx => hp x (List.mem_cons_of_mem _ hx)⟩ hj
theorem first_all {e r : Nat → Bool} {z : Bool} : ∀ (l : List Nat), (∀ i ∈ l, e i = true) → PySem.SeqAt.firstLt e r z l = z
  | [], _ => rfl
  | i :: l, h => by
    simp only [PySem.SeqAt.firstLt, h i List.mem_cons_self, if_true]
    exact first_all l fun x hx => h x (List.mem_cons_of_mem _ hx)
theorem range_cut {n j : Nat} (h : j < n) : ∃ p q, List.range n = p ++ j :: q ∧ ∀ i ∈ p, i < j := by
  refine ⟨List.range j, (List.range n).drop (j + 1), ?_, fun i hi => List.mem_range.mp hi⟩
  have e : List.range n = (List.range n).take j ++ (List.range n).drop j := (List.take_append_drop j _).symm
  rw [List.drop_eq_getElem_cons (by rw [List.length_range]; exact h), List.getElem_range] at e
  have t : (List.range n).take j = List.range j := by rw [List.take_range]; congr 1; omega
  rw [t] at e
  exact e
theorem getD_of {ns : List Int} {j : Nat} {x : Int} (h : ns[j]? = some x) : ns.getD j 0 = x := by rw [List.getD_eq_getElem?_getD, h]; rfl
theorem LtI.ord {ns ms : List Int} (h : LtI ns ms) : ltI ns ms = true ∧ leI ns ms = true := by
  obtain ⟨j, x, y, h1, h2, h3, h4⟩ := h
  have j1 := (List.getElem?_eq_some_iff.mp h1).1
  have j2 := (List.getElem?_eq_some_iff.mp h2).1
  obtain ⟨p, q, hp, hq⟩ := range_cut (show j < min ns.length ms.length by omega)
  have ej : eI ns ms j = false := by unfold eI; rw [getD_of h1, getD_of h2]; exact decide_eq_false (by omega)
  have eq : ∀ i ∈ p, eI ns ms i = true := fun i hi => by
    unfold eI
    refine decide_eq_true ?_
    rw [List.getD_eq_getElem?_getD, List.getD_eq_getElem?_getD, h4 i (hq i hi)]
  unfold ltI leI
  rw [first_hit _ j ⟨p, q, hp, eq⟩ ej, first_hit _ j ⟨p, q, hp, eq⟩ ej, getD_of h1, getD_of h2]
  exact ⟨decide_eq_true h3, decide_eq_true (by omega)⟩
theorem le_refl (ns : List Int) : leI ns ns = true := by
  unfold leI
  rw [first_all _ fun i _ => by unfold eI; exact decide_eq_true rfl]
  exact decide_eq_true (Nat.le_refl _)
section
variable {P : Program} {w : World} {K : PySem.W.Frag} {σ : L2.St} {H : Hp} {Q : VK} {td ty tv tk : TE} {D : Ends} {neg : Bool} {a b : Addr} {ps : List Row3} {xs : List V} {k : List Key} {v : V} {o : Option V}
theorem nget (h : td σ H fun x H1 => ty σ H1 fun y H2 => xNGet P w K x y H2 Q) : tNGet P w K td ty σ H Q := h
theorem nin (h : ty σ H fun y H1 => td σ H1 fun x H2 => xNIn P w K neg x y H2 Q) : tNIn P w K neg ty td σ H Q := h
theorem nput (h : tv σ H fun v H1 => td σ H1 fun x H2 => ty σ H2 fun y H3 => xNPut P w K x y v H3 fun H4 => D.nx σ H4) : sNPut P w K td ty tv D σ H := h
theorem nnew (h : ∀ p, H p = none → Q (.ref p) (upd H p (DN P w p []))) : tNNew P w σ H Q := h
theorem ndisp (h : ∀ p, H p = none → tk σ (upd H p (DN P w p [])) fun x H1 => tv σ H1 fun y H2 => xNDisp P w K p x y H2 Q) : tNDisp P w K tk tv σ H Q := h
theorem xnget (ha : H a = some (DN P w a ps)) (hk : KeysIn K H ps) (hb : SqT K H b xs) (e : xs.map kOf = k.map some) (hv : valN ps k = some v) (q : Q v H) : xNGet P w K (.ref a) (.ref b) H Q := ⟨a, v, rfl, ⟨ps, b, xs, k, ha, hk, rfl, hb, e, hv.symm⟩, q⟩
theorem xnin {o : Option V} (ha : H a = some (DN P w a ps)) (hk : KeysIn K H ps) (hb : SqT K H b xs) (e : xs.map kOf = k.map some) (hv : valN ps k = o) (q : Q (.bl o.isSome) H) : xNIn P w K false (.ref a) (.ref b) H Q := ⟨a, o, rfl, ⟨ps, b, xs, k, ha, hk, rfl, hb, e, hv.symm⟩, q⟩
theorem xnnotin {o : Option V} (ha : H a = some (DN P w a ps)) (hk : KeysIn K H ps) (hb : SqT K H b xs) (e : xs.map kOf = k.map some) (hv : valN ps k = o) (q : Q (.bl (!o.isSome)) H) : xNIn P w K true (.ref a) (.ref b) H Q := ⟨a, o, rfl, ⟨ps, b, xs, k, ha, hk, rfl, hb, e, hv.symm⟩, q⟩
theorem xnput {N : Hp → Prop} (ha : H a = some (DN P w a ps)) (hk : KeysIn K H ps) (hb : SqT K H b xs) (e : xs.map kOf = k.map some) (hv : valN ps k = none) (hz : ps.length < 100000) (q : N (upd H a (DN P w a (ps ++ [(k, b, v)])))) : xNPut P w K (.ref a) (.ref b) v H N := ⟨a, _, rfl, ⟨ps, b, xs, k, ha, hk, rfl, hb, e, hv, hz, rfl⟩, q⟩
/-- a dict of this kind changes: tuples and lists stay -/
theorem dn_tup {xs : List V} : DN P w a ps ≠ .tup xs := fun z => by
  have z' : HO.ext _ = HO.tup xs := z
  cases z'
theorem dn_lst {xs : List V} : DN P w a ps ≠ .lst xs := fun z => by
  have z' : HO.ext _ = HO.lst xs := z
  cases z'
theorem dn_frz {u : Obj} {y : HO} : DN P w a ps ≠ .frz u y := fun z => by
  have z' : HO.ext _ = HO.frz u y := z
  cases z'
theorem sqt_dn {u : HO} (h : H a = some (DN P w a ps)) (s : SqT K H b xs) : SqT K (upd H a u) b xs := by
  rcases s with (s | ⟨ob, s⟩) | s
  · exact .inl (.inl (by rw [upd_ne (fun z => by subst z; rw [h] at s; exact dn_tup (Option.some.inj s))]; exact s))
  · exact .inl (.inr ⟨ob, by rw [upd_ne (fun z => by subst z; rw [h] at s; exact dn_frz (Option.some.inj s))]; exact s⟩)
  · exact .inr s
theorem sql_dn {u : HO} (h : H a = some (DN P w a ps)) (s : SqL K H b xs) : SqL K (upd H a u) b xs := by
  rcases s with (s | ⟨ob, s⟩) | s
  · exact .inl (.inl (by rw [upd_ne (fun z => by subst z; rw [h] at s; exact dn_lst (Option.some.inj s))]; exact s))
  · exact .inl (.inr ⟨ob, by rw [upd_ne (fun z => by subst z; rw [h] at s; exact dn_frz (Option.some.inj s))]; exact s⟩)
  · exact .inr s
mutual
theorem dp_dn {u : HO} (h : H a = some (DN P w a ps)) : ∀ (d : PyData) (v : V), Dp K H v d → Dp K (upd H a u) v d
  | .none, _, h1 => by cases h1; exact .non
  | .bool b, _, h1 => by cases h1; exact .bl b
  | .int i, _, h1 => by cases h1; exact .int i
  | .str x, _, h1 => by cases h1; exact .str x
  | .list ds, _, h1 => by
    cases h1 with
    | lst hs ha => exact .lst (sql_dn h hs) (dpA_dn h ds _ ha)
  | .tuple ds, _, h1 => by
    cases h1 with
    | tup hs ha => exact .tup (sqt_dn h hs) (dpA_dn h ds _ ha)
  | .dict _, _, h1 => by cases h1
theorem dpA_dn {u : HO} (h : H a = some (DN P w a ps)) : ∀ (ds : List PyData) (vs : List V), DpAll K H vs ds → DpAll K (upd H a u) vs ds
  | [], _, h1 => by cases h1; exact .nil
  | d :: ds, _, h1 => by
    cases h1 with
    | cons h2 h3 => exact .cons (dp_dn h d _ h2) (dpA_dn h ds _ h3)
end
theorem KeysIn.dn {qs : List Row3} {u : HO} (h : H a = some (DN P w a ps)) (k : KeysIn K H qs) : KeysIn K (upd H a u) qs := fun p hp => by
  obtain ⟨xs, h1, h2⟩ := k p hp
  exact ⟨xs, sqt_dn h h1, h2⟩
theorem KeysIn.lst {l : Addr} {ws : List V} {qs : List Row3} {u : HO} (h : H l = some (.lst ws)) (k : KeysIn K H qs) : KeysIn K (upd H l u) qs := fun p hp => by
  obtain ⟨xs, h1, h2⟩ := k p hp
  exact ⟨xs, Dt.sqt_upd h h1, h2⟩
end
end Nk
namespace Nk
open PySem PySem.Spec PyProof.Rows L2
section
variable {X : Cx} {pins : List (Addr × Obj)} {σ : L2.St} {H : Hp} {s : Shared} {a b : Addr} {ps : List Row3} {xs : List V} {k : List Key} {A : Around} {E : Value → Shared → Prop}
theorem n_get1 {Q : Value → Shared → Prop} (hu : A.units + 1 < cLine) (I : Inv X pins σ H s) (ha : H a = some (DN X.prog X.w a ps)) (hk : KeysIn X.K H ps) (hb : SqT X.K H b xs) (e : xs.map kOf = k.map some) (h : ∀ w' s', Inv X pins σ H s' → RelV ((valN ps k).getD .non) w' → Q w' s') :
    wpAny (model X.prog X.w) A (call (.builtin "dict.get") [.ref a, .ref b]) Q E s := by
  obtain ⟨z, hd, zs, rel, dd⟩ := tabH I ha hk
  refine call_meetsIn PySem.F.slot_dict_get dd.typeIs PySem.F.entry_dict_get (PySem.F.args_dict_get_2 _ _) (meetsH_dict_get (tupleKind (bkKind X.prog X.w)) a b hd) ⟨tupleKind_room_in1 hu, k, zs, key_bk I hb e, dd, h _ _ (I.tok _) ?_⟩
  exact (rel.val k).getD rfl
end
def xNGet1 (P : Program) (w : World) (K : PySem.W.Frag) (a : Addr) (y : V) (H : Hp) (Q : VK) : Prop := ∃ o, NGet P w K H a y o ∧ Q (o.getD .non) H
def xIsN (P : Program) (w : World) (x : V) (H : Hp) (R : Addr → Prop) : Prop := ∃ a ps, x = .ref a ∧ H a = some (DN P w a ps) ∧ R a
def tNGet1 (P : Program) (w : World) (K : PySem.W.Frag) (td ty : TE) : TE := fun σ H Q => td σ H fun x H1 => xIsN P w x H1 fun a => ty σ H1 fun y H2 => xNGet1 P w K a y H2 Q
theorem pe_nget1 {X : Cx} {o e : Expr} {apos cpos : Pos} {td ty : TE} (hu : X.A.units + 1 < cLine) (ho : PE X o td) (he : PE X e ty) (m : M1 X o "get" apos e cpos) : PE X (.Call (.Attribute o "get" apos) [e] [] cpos) (tNGet1 X.prog X.w X.K td ty) := by
  refine ⟨fun pins s σ H Q I h => ?_⟩
  refine wpAny_Call_method m.base m.few m.line PySem.F.plainAttrs_dict PySem.F.slot_dict_get PySem.F.type_dict_get (thn (ho.run pins s σ H _ I h) fun u s1 hq => ?_)
  obtain ⟨x, H1, I1, rx, a, qs, ex, g0, q1⟩ := hq
  subst ex
  obtain rfl : u = Value.ref a := rx
  have hx : ObjOk X.prog X.w H1 s1.heap a (DN X.prog X.w a qs) := I1.hok a _ g0
  obtain ⟨⟨_, hd, zs, rel, ob, es, ep, h1, h2, h3⟩, _, _⟩ := hx
  refine ⟨⟨ob, h1, h2.1⟩, fun b q => by cases q; exact ⟨ob, h1, h2.2.1⟩, ?_⟩
  rw [m.trees]
  refine Calls.callWith_builtin rfl (Calls.evalArgs_plain (Calls.spliced_cons (thn (he.run pins s1 σ H1 _ I1 q1) fun iv s2 hq => Calls.spliced_nil ?_)))
  obtain ⟨y, H2, I2, ry, ov, ⟨ps, b, xs, k, g1, g2, g3, g4, g5, g6⟩, q2⟩ := hq
  subst g3
  obtain rfl : iv = Value.ref b := ry
  exact n_get1 hu I2 g1 g2 g4 g5 fun w' s3 I3 rw' => ⟨_, H2, I3, by rw [g6]; exact rw', q2⟩
section
variable {P : Program} {w : World} {K : PySem.W.Frag} {σ : L2.St} {H : Hp} {Q : VK} {td ty : TE} {a b : Addr} {ps : List Row3} {xs : List V} {k : List Key} {v : V}
theorem nget1 (h : td σ H fun x H1 => xIsN P w x H1 fun a => ty σ H1 fun y H2 => xNGet1 P w K a y H2 Q) : tNGet1 P w K td ty σ H Q := h
theorem xisn {R : Addr → Prop} (h : H a = some (DN P w a ps)) (q : R a) : xIsN P w (.ref a) H R := ⟨a, ps, rfl, h, q⟩
theorem xnget1 (ha : H a = some (DN P w a ps)) (hk : KeysIn K H ps) (hb : SqT K H b xs) (e : xs.map kOf = k.map some) (hv : (valN ps k).getD .non = v) (q : Q v H) : xNGet1 P w K a (.ref b) H Q := ⟨_, ⟨ps, b, xs, k, ha, hk, rfl, hb, e, rfl⟩, by rw [hv]; exact q⟩
end
end Nk


local macro_rules | `(tactic| walk_at "hp") => `(tactic| first
  | assumption | exact L2.upd_same | (refine (by assumption : Evl.Ex _ _) _ _ ?_; walk_at "hp")
  | (refine (L2.upd_ne (by assumption)).trans ?_; walk_at "hp") | (refine (L2.upd_ne (Ne.symm (by assumption))).trans ?_; walk_at "hp") | (refine (L2.upd_ne (L2.ne_of (by assumption) (by assumption) (by intro z; cases z))).trans ?_; walk_at "hp"))
local macro_rules | `(tactic| walk_at "sq") => `(tactic| first | assumption | exact L2.SqL.of (by walk_at "hp") | exact L2.SqT.of (by walk_at "hp"))
local macro_rules | `(tactic| walk_at "rd1") => `(tactic| with_reducible first
  | refine Rd.seq ?_ | refine Rd.asg ?_ | refine Rd.gnm ?_ | refine Rd.ifS ?_ | refine Rd.ret ?_ | refine Rd.retN ?_ | refine Rd.drop ?_ | refine Rd.nxt ?_ | refine Rd.brk ?_ | refine Rd.cnt ?_
  | refine Rd.var rfl ?_ | refine Rd.c ?_ | refine Rd.op ?_ | refine Rd.i0 ?_ | refine Rd.un ?_ | refine Rd.u0 ?_
  | refine Rd.test ?_ | refine Rd.tbv ?_ | refine Rd.xt ?_ | refine Rd.andT ?_ | refine Rd.orT ?_ | refine Rd.notT ?_ | refine Rd.andV ?_ | refine Rd.orV ?_ | refine Rd.notV ?_ | refine Rd.ifE ?_ | refine Rd.chain ?_
  | refine Rd.nil ?_ | refine Rd.cons ?_ | refine Rd.cb ?_ | refine Rd.call ?_ | refine Rd.tup ?_ | refine Rd.lst ?_ | refine Rd.fld ?_ | refine Rd.meth ?_ | refine Rd.bm ?_ | refine Rd.bm0 ?_
  | refine Rd.eqI ?_ | refine Rd.neI ?_ | refine Rd.eqS ?_ | refine Rd.neS ?_ | refine Rd.isN_non ?_ | refine Rd.isN_int ?_ | refine Rd.isN_ref ?_ | refine Rd.isN_str ?_ | refine Rd.notN_non ?_ | refine Rd.notN_int ?_ | refine Rd.notN_ref ?_ | refine Rd.notN_str ?_
  | refine Rd.sl ?_ | refine Rd.poN ?_ | refine Rd.poS ?_ | refine Rd.xpart ?_ | refine Rd.ifTT ?_ | refine Rd.ifFF ?_ | refine Rd.ifNTT ?_ | refine Rd.ifNFF ?_
  | refine Rd.int ?_ | refine Rd.intB ?_ | refine Rd.abs ?_ | refine Rd.max2 ?_ | refine Rd.min2 ?_
  | refine Rd.sfld ?_ | refine Rd.forS ?_ | refine Rd.lcS ?_ | refine Rd.lcT ?_ | refine Rd.m1 ?_ | refine Rd.m0 ?_ | refine Rd.xiss ?_ | refine Rd.find ?_ | refine Rd.listRg1 ?_ | refine Rd.lcR1 ?_ | refine Rd.lcL ?_ | refine Rd.listRg2 ?_ | refine Rd.eqB ?_ | refine Rd.neB ?_ | refine Rd.make ?_ | refine Rd.forR1 ?_ | refine Rd.forR2 ?_ | refine Rd.forL ?_ | refine Rd.forT ?_ | refine Rd.par ?_ | refine Rd.par2 ?_ | refine Rd.gcons ?_ | refine Rd.gnil ?_ | refine Rd.gsub ?_ | refine Rd.ipi ?_ | refine Rd.aug rfl ?_)
local macro_rules | `(tactic| walk_at "rd2") => `(tactic| first
  | ((with_reducible refine' Rd.pw (m := 1000000) (i := 10) (j := 6) ?c1 ?e1 ?_); (case c1 => exact ⟨by decide, by decide, by decide⟩); (case e1 => decide)) | ((with_reducible refine' Rd.pw (m := 1000000000000) (i := 10) (j := 12) ?c1 ?e1 ?_); (case c1 => exact ⟨by decide, by decide, by decide⟩); (case e1 => decide)) | ((with_reducible refine' Rd.pw (m := 1000000000000000000000000000000) (i := 10) (j := 30) ?c1 ?e1 ?_); (case c1 => exact ⟨by decide, by decide, by decide⟩); (case e1 => decide))
  | ((with_reducible refine' Rd.pw (m := 10000000000000000000000000000000) (i := 10) (j := 31) ?c1 ?e1 ?_); (case c1 => exact ⟨by decide, by decide, by decide⟩); (case e1 => decide)) | ((with_reducible refine' Rd.pw (m := 10000000000000000000000000000000000000000) (i := 10) (j := 40) ?c1 ?e1 ?_); (case c1 => exact ⟨by decide, by decide, by decide⟩); (case e1 => decide)) | ((with_reducible refine' Rd.pw (m := 100000000000000000000) (i := 10) (j := 20) ?c1 ?e1 ?_); (case c1 => exact ⟨by decide, by decide, by decide⟩); (case e1 => decide)) | ((with_reducible refine' Rd.pw (m := 10000000000000000000000000000000000000000000000000000000000000000) (i := 10) (j := 64) ?c1 ?e1 ?_); (case c1 => exact ⟨by decide, by decide, by decide⟩); (case e1 => decide)) | ((with_reducible refine' Rd.pw (m := 10000) (i := 10) (j := 4) ?c1 ?e1 ?_); (case c1 => exact ⟨by decide, by decide, by decide⟩); (case e1 => decide)) | ((with_reducible refine' Rd.pw (m := 100) (i := 10) (j := 2) ?c1 ?e1 ?_); (case c1 => exact ⟨by decide, by decide, by decide⟩); (case e1 => decide))
  | (with_reducible refine' Rd.isiInt (b := true) ?k1 ?_); (case k1 => rfl)
  | (with_reducible refine' Rd.isiInt (b := false) ?k1 ?_); (case k1 => rfl)
  | (with_reducible refine' Rd.isiBl (b := true) ?k1 ?_); (case k1 => rfl)
  | (with_reducible refine' Rd.isiBl (b := false) ?k1 ?_); (case k1 => rfl)
  | (with_reducible refine' Rd.isiStr (b := true) ?k1 ?_); (case k1 => rfl)
  | (with_reducible refine' Rd.isiStr (b := false) ?k1 ?_); (case k1 => rfl)
  | (with_reducible refine' Rd.isiNon (b := true) ?k1 ?_); (case k1 => rfl)
  | (with_reducible refine' Rd.isiNon (b := false) ?k1 ?_); (case k1 => rfl)
  | (with_reducible refine' Rd.isiLst (b := true) ?h1 ?k1 ?_); (case h1 => walk_at "hp"); (case k1 => rfl)
  | (with_reducible refine' Rd.isiLst (b := false) ?h1 ?k1 ?_); (case h1 => walk_at "hp"); (case k1 => rfl)
  | (with_reducible refine' Rd.isiTup (b := true) ?h1 ?k1 ?_); (case h1 => walk_at "hp"); (case k1 => rfl)
  | (with_reducible refine' Rd.isiTup (b := false) ?h1 ?k1 ?_); (case h1 => walk_at "hp"); (case k1 => rfl)
  | (with_reducible refine' Rd.isiSqT (b := true) ?s1 ?k1 ?_); (case s1 => walk_at "sq"); (case k1 => rfl)
  | (with_reducible refine' Rd.isiSqT (b := false) ?s1 ?k1 ?_); (case s1 => walk_at "sq"); (case k1 => rfl)
  | (with_reducible refine' Rd.isiSqL (b := true) ?s1 ?k1 ?_); (case s1 => walk_at "sq"); (case k1 => rfl)
  | (with_reducible refine' Rd.isiSqL (b := false) ?s1 ?k1 ?_); (case s1 => walk_at "sq"); (case k1 => rfl)
  | (with_reducible refine' Rd.i1 ?c1 ?_); (case c1 => first | assumption | (show (0 : Int) < _; omega) | decide | exact .inl (by decide) | exact .inr (by decide) | exact .inr ⟨by omega, by omega⟩ | exact .inl ⟨by omega, by omega⟩ | exact ⟨by decide, by decide⟩)
  | (with_reducible refine' Rd.len ?s1 ?_); (case s1 => walk_at "sq")
  | (with_reducible refine' Rd.lenT ?s1 ?_); (case s1 => walk_at "sq")
  | (with_reducible refine' Rd.xtyL ?s1 ?_); (case s1 => walk_at "sq")
  | (with_reducible refine' Rd.ixL ?s1 ?a1 ?_); (case s1 => walk_at "sq"); (case a1 => rfl)
  | (with_reducible refine' Rd.ixT ?s1 ?a1 ?_); (case s1 => walk_at "sq"); (case a1 => rfl)
  | (with_reducible refine' Rd.gtup ?s1 ?n1 ?_); (case s1 => walk_at "sq"); (case n1 => rfl)
  | (with_reducible refine' Rd.rfld ?h1 ?c1 ?n1 ?l1 ?_); (case h1 => walk_at "hp"); (case c1 => assumption); (case n1 => assumption); (case l1 => walk_at "lk")
  | (with_reducible refine' Rd.xmeth ?h1 ?l1 ?_); (case h1 => walk_at "hp"); (case l1 => walk_at "lk")
  | (with_reducible refine' Rd.xst ?h1 ?c1 ?n1 ?l1 ?_); (case h1 => walk_at "hp"); (case c1 => assumption); (case n1 => assumption); (case l1 => rfl)
  | (with_reducible refine' Rd.take ?h1 ?m1 ?_); (case h1 => walk_at "hp"); (case m1 => omega)
  | ((with_reducible refine' Rd.tupOfL ?s1 ?_); (case s1 => walk_at "sq")) | ((with_reducible refine' Rd.tupOfT ?s1 ?_); (case s1 => walk_at "sq"))
  | (with_reducible refine Rd.ifT (by assumption) ?_) | (with_reducible refine Rd.ifF (by assumption) ?_) | (with_reducible refine Rd.ifNT (by assumption) ?_) | (with_reducible refine Rd.ifNF (by assumption) ?_)
  | (with_reducible refine Rd.ifT rfl ?_) | (with_reducible refine Rd.ifNF rfl ?_)
  | (with_reducible refine Rd.ifT (by omega) ?_) | (with_reducible refine Rd.ifF (by omega) ?_) | (with_reducible refine Rd.ifNT (by omega) ?_) | (with_reducible refine Rd.ifNF (by omega) ?_)
  | ((with_reducible refine Rd.ifT ?p1 ?_); (case p1 => decide +kernel)) | ((with_reducible refine Rd.ifF ?p1 ?_); (case p1 => decide +kernel)) | ((with_reducible refine Rd.ifNT ?p1 ?_); (case p1 => decide +kernel)) | ((with_reducible refine Rd.ifNF ?p1 ?_); (case p1 => decide +kernel)))
local macro_rules | `(tactic| walk_at "rd") => `(tactic| repeat (first | walk_at "rd1" | walk_at "rd2"))

local macro_rules | `(tactic| walk_at "rd1") => `(tactic| with_reducible first
  | refine Rd.dget ?_ | refine Rd.dget1 ?_ | refine Rd.din ?_ | refine Rd.dput ?_ | refine Rd.isB ?_ | refine Rd.notB ?_ | refine Rd.fldaug ?_ | refine Rd.radd ?_)
local macro_rules | `(tactic| walk_at "rd2") => `(tactic| first
  | ((with_reducible refine' Rd.lenD ?h1 ?_); (case h1 => walk_at "hp")) | ((with_reducible refine' Rd.xisd ?h1 ?_); (case h1 => walk_at "hp"))
  | ((with_reducible refine' Rd.xfa ?h1 ?c1 ?n1 ?l1 ?_); (case h1 => walk_at "hp"); (case c1 => assumption); (case n1 => assumption); (case l1 => walk_at "lk")))

local macro_rules | `(tactic| walk_at "rd1") => `(tactic| with_reducible first
  | refine Nk.nget ?_ | refine Nk.nin ?_ | refine Nk.nput ?_)

local macro_rules | `(tactic| walk_at "rd1") => `(tactic| with_reducible refine Nk.nget1 ?_)
namespace Toy
open PySem L2
def top (i : Nat) : Stmt := PySem.Challenge.pw_surebridge_k45_plain_heap.main.body.getD i (.Pass ⟨0, 0, 0, 0⟩)
abbrev s_law_take : Stmt := top 10
theorem sc_law_take : FnScope ["deck", "many"] ["deck", "many"] (defScope s_law_take) := ⟨rfl, rfl, rfl, by decide +kernel, rfl, by decide +kernel, by decide +kernel⟩
abbrev s_law_deck : Stmt := top 9
theorem sc_law_deck : FnScope ["script", "cells", "each", "deck", "seed", "k", "cell", "rest", "at"] ["script", "cells", "each"] (defScope s_law_deck) := ⟨rfl, rfl, rfl, by decide +kernel, rfl, by decide +kernel, by decide +kernel⟩
abbrev s_law_whole : Stmt := top 11
theorem sc_law_whole : FnScope ["value"] ["value"] (defScope s_law_whole) := ⟨rfl, rfl, rfl, by decide +kernel, rfl, by decide +kernel, by decide +kernel⟩
abbrev s_Cell_init_ : Stmt := inClass (top 1) 0
theorem sc_Cell_init_ : FnScope ["self", "serial", "maker", "content"] ["self", "serial", "maker", "content"] (defScope s_Cell_init_) := ⟨rfl, rfl, rfl, by decide +kernel, rfl, by decide +kernel, by decide +kernel⟩
abbrev s_Service_init_ : Stmt := inClass (top 2) 0
theorem sc_Service_init_ : FnScope ["self", "serial", "maker", "body"] ["self", "serial", "maker", "body"] (defScope s_Service_init_) := ⟨rfl, rfl, rfl, by decide +kernel, rfl, by decide +kernel, by decide +kernel⟩
abbrev s_Proxy_init_ : Stmt := inClass (top 3) 0
theorem sc_Proxy_init_ : FnScope ["self", "entry"] ["self", "entry"] (defScope s_Proxy_init_) := ⟨rfl, rfl, rfl, by decide +kernel, rfl, by decide +kernel, by decide +kernel⟩
abbrev s_put_in : Stmt := top 4
theorem sc_put_in : FnScope ["heap", "thing", "place"] ["heap", "thing", "place"] (defScope s_put_in) := ⟨rfl, rfl, rfl, by decide +kernel, rfl, by decide +kernel, by decide +kernel⟩
abbrev s_PlainHeap_init_ : Stmt := inClass (top 7) 0
theorem sc_PlainHeap_init_ : FnScope ["self"] ["self"] (defScope s_PlainHeap_init_) := ⟨rfl, rfl, rfl, by decide +kernel, rfl, by decide +kernel, by decide +kernel⟩
abbrev s_PlainHeap_thing : Stmt := inClass (top 7) 4
theorem sc_PlainHeap_thing : FnScope ["self", "reference"] ["self", "reference"] (defScope s_PlainHeap_thing) := ⟨rfl, rfl, rfl, by decide +kernel, rfl, by decide +kernel, by decide +kernel⟩
abbrev s_PlainHeap_where : Stmt := inClass (top 7) 9
theorem sc_PlainHeap_where : FnScope ["self", "serial"] ["self", "serial"] (defScope s_PlainHeap_where) := ⟨rfl, rfl, rfl, by decide +kernel, rfl, by decide +kernel, by decide +kernel⟩
abbrev s_PlainHeap_where_proxy : Stmt := inClass (top 7) 10
theorem sc_PlainHeap_where_proxy : FnScope ["self", "entry"] ["self", "entry"] (defScope s_PlainHeap_where_proxy) := ⟨rfl, rfl, rfl, by decide +kernel, rfl, by decide +kernel, by decide +kernel⟩
abbrev s_PlainHeap_make_cell : Stmt := inClass (top 7) 1
theorem sc_PlainHeap_make_cell : FnScope ["self", "serial", "maker", "content"] ["self", "serial", "maker", "content"] (defScope s_PlainHeap_make_cell) := ⟨rfl, rfl, rfl, by decide +kernel, rfl, by decide +kernel, by decide +kernel⟩
abbrev s_PlainHeap_make_service : Stmt := inClass (top 7) 2
theorem sc_PlainHeap_make_service : FnScope ["self", "serial", "maker", "body"] ["self", "serial", "maker", "body"] (defScope s_PlainHeap_make_service) := ⟨rfl, rfl, rfl, by decide +kernel, rfl, by decide +kernel, by decide +kernel⟩
abbrev s_PlainHeap_make_proxy : Stmt := inClass (top 7) 3
theorem sc_PlainHeap_make_proxy : FnScope ["self", "entry"] ["self", "entry"] (defScope s_PlainHeap_make_proxy) := ⟨rfl, rfl, rfl, by decide +kernel, rfl, by decide +kernel, by decide +kernel⟩
abbrev s_PlainHeap_keep : Stmt := inClass (top 7) 5
theorem sc_PlainHeap_keep : FnScope ["self", "reference"] ["self", "reference"] (defScope s_PlainHeap_keep) := ⟨rfl, rfl, rfl, by decide +kernel, rfl, by decide +kernel, by decide +kernel⟩
abbrev s_PlainHeap_drop : Stmt := inClass (top 7) 6
theorem sc_PlainHeap_drop : FnScope ["self", "reference"] ["self", "reference"] (defScope s_PlainHeap_drop) := ⟨rfl, rfl, rfl, by decide +kernel, rfl, by decide +kernel, by decide +kernel⟩
abbrev s_PlainHeap_change_hold : Stmt := inClass (top 7) 7
theorem sc_PlainHeap_change_hold : FnScope ["self", "serial", "change"] ["self", "serial", "change"] (defScope s_PlainHeap_change_hold) := ⟨rfl, rfl, rfl, by decide +kernel, rfl, by decide +kernel, by decide +kernel⟩
abbrev s_PlainHeap_collect : Stmt := inClass (top 7) 11
theorem sc_PlainHeap_collect : FnScope ["self", "registers", "held", "pinned"] ["self", "registers", "held", "pinned"] (defScope s_PlainHeap_collect) := ⟨rfl, rfl, rfl, by decide +kernel, rfl, by decide +kernel, by decide +kernel⟩
abbrev s_PlainHeap_set_link : Stmt := inClass (top 7) 8
theorem sc_PlainHeap_set_link : FnScope ["self", "reference", "target"] ["self", "reference", "target"] (defScope s_PlainHeap_set_link) := ⟨rfl, rfl, rfl, by decide +kernel, rfl, by decide +kernel, by decide +kernel⟩
abbrev s_in_order : Stmt := top 5
theorem sc_in_order : FnScope ["heap", "place"] ["heap"] (defScope s_in_order) := ⟨rfl, rfl, rfl, by decide +kernel, rfl, by decide +kernel, by decide +kernel⟩
abbrev s_PlainHeap_everything : Stmt := inClass (top 7) 12
theorem sc_PlainHeap_everything : FnScope ["self"] ["self"] (defScope s_PlainHeap_everything) := ⟨rfl, rfl, rfl, by decide +kernel, rfl, by decide +kernel, by decide +kernel⟩
abbrev s_law_same_thing : Stmt := top 12
theorem sc_law_same_thing : FnScope ["thing", "place", "due", "link"] ["thing", "place", "due"] (defScope s_law_same_thing) := ⟨rfl, rfl, rfl, by decide +kernel, rfl, by decide +kernel, by decide +kernel⟩
abbrev s_law_same_heap : Stmt := top 13
theorem sc_law_same_heap : FnScope ["heap", "things", "numbers", "found", "places", "where", "at", "due", "number"] ["heap", "things", "numbers"] (defScope s_law_same_heap) := ⟨rfl, rfl, rfl, by decide +kernel, rfl, by decide +kernel, by decide +kernel⟩
abbrev s_law_make : Stmt := top 14
theorem sc_law_make : FnScope ["deck", "heap", "things", "number", "place", "kind", "maker", "content", "body", "answer"] ["deck", "heap", "things", "number", "place"] (defScope s_law_make) := ⟨rfl, rfl, rfl, by decide +kernel, rfl, by decide +kernel, by decide +kernel⟩
abbrev s_law_deed : Stmt := top 15
theorem sc_law_deed : FnScope ["deck", "heap", "things", "number", "kind", "linked", "place", "file", "passed", "held", "target", "goal"] ["deck", "heap", "things", "number"] (defScope s_law_deed) := ⟨rfl, rfl, rfl, by decide +kernel, rfl, by decide +kernel, by decide +kernel⟩
abbrev s_law : Stmt := top 16
theorem sc_law : FnScope ["script", "deck", "heap", "things", "turn"] ["script"] (defScope s_law) := ⟨rfl, rfl, rfl, by decide +kernel, rfl, by decide +kernel, by decide +kernel⟩
/-- where things stand -/
structure Ad where
  a_law_take : Addr
  d_law_take : FuncData
  a_law_deck : Addr
  d_law_deck : FuncData
  a_law_whole : Addr
  d_law_whole : FuncData
  a_Cell_init_ : Addr
  d_Cell_init_ : FuncData
  a_Service_init_ : Addr
  d_Service_init_ : FuncData
  a_Proxy_init_ : Addr
  d_Proxy_init_ : FuncData
  a_put_in : Addr
  d_put_in : FuncData
  a_PlainHeap_init_ : Addr
  d_PlainHeap_init_ : FuncData
  a_PlainHeap_thing : Addr
  d_PlainHeap_thing : FuncData
  a_PlainHeap_where : Addr
  d_PlainHeap_where : FuncData
  a_PlainHeap_where_proxy : Addr
  d_PlainHeap_where_proxy : FuncData
  a_PlainHeap_make_cell : Addr
  d_PlainHeap_make_cell : FuncData
  a_PlainHeap_make_service : Addr
  d_PlainHeap_make_service : FuncData
  a_PlainHeap_make_proxy : Addr
  d_PlainHeap_make_proxy : FuncData
  a_PlainHeap_keep : Addr
  d_PlainHeap_keep : FuncData
  a_PlainHeap_drop : Addr
  d_PlainHeap_drop : FuncData
  a_PlainHeap_change_hold : Addr
  d_PlainHeap_change_hold : FuncData
  a_PlainHeap_collect : Addr
  d_PlainHeap_collect : FuncData
  a_PlainHeap_set_link : Addr
  d_PlainHeap_set_link : FuncData
  a_in_order : Addr
  d_in_order : FuncData
  a_PlainHeap_everything : Addr
  d_PlainHeap_everything : FuncData
  a_law_same_thing : Addr
  d_law_same_thing : FuncData
  a_law_same_heap : Addr
  d_law_same_heap : FuncData
  a_law_make : Addr
  d_law_make : FuncData
  a_law_deed : Addr
  d_law_deed : FuncData
  a_law : Addr
  d_law : FuncData
  c_Cell : Addr
  c_PlainHeap : Addr
  c_Proxy : Addr
  c_Service : Addr
/-- what the top has written -/
structure Txt (K : PySem.W.Frag) (mg : Str → Option Value) (ad : Ad) : Prop where
  F_law_take : Fun K "_law_take" "_law_take" s_law_take ad.a_law_take ad.d_law_take
  b_law_take : Binds K ad.d_law_take ["deck", "many"] []
  m_law_take : mg "_law_take" = some (.ref ad.a_law_take)
  F_law_deck : Fun K "_law_deck" "_law_deck" s_law_deck ad.a_law_deck ad.d_law_deck
  b_law_deck : Binds K ad.d_law_deck ["script", "cells", "each"] []
  m_law_deck : mg "_law_deck" = some (.ref ad.a_law_deck)
  F_law_whole : Fun K "_law_whole" "_law_whole" s_law_whole ad.a_law_whole ad.d_law_whole
  b_law_whole : Binds K ad.d_law_whole ["value"] []
  m_law_whole : mg "_law_whole" = some (.ref ad.a_law_whole)
  F_Cell_init_ : Fun K "__init__" "Cell.__init__" s_Cell_init_ ad.a_Cell_init_ ad.d_Cell_init_
  b_Cell_init_ : Binds K ad.d_Cell_init_ ["self", "serial", "maker", "content"] []
  F_Service_init_ : Fun K "__init__" "Service.__init__" s_Service_init_ ad.a_Service_init_ ad.d_Service_init_
  b_Service_init_ : Binds K ad.d_Service_init_ ["self", "serial", "maker", "body"] []
  F_Proxy_init_ : Fun K "__init__" "Proxy.__init__" s_Proxy_init_ ad.a_Proxy_init_ ad.d_Proxy_init_
  b_Proxy_init_ : Binds K ad.d_Proxy_init_ ["self", "entry"] []
  F_put_in : Fun K "put_in" "put_in" s_put_in ad.a_put_in ad.d_put_in
  b_put_in : Binds K ad.d_put_in ["heap", "thing", "place"] []
  m_put_in : mg "put_in" = some (.ref ad.a_put_in)
  F_PlainHeap_init_ : Fun K "__init__" "PlainHeap.__init__" s_PlainHeap_init_ ad.a_PlainHeap_init_ ad.d_PlainHeap_init_
  b_PlainHeap_init_ : Binds K ad.d_PlainHeap_init_ ["self"] []
  F_PlainHeap_thing : Fun K "thing" "PlainHeap.thing" s_PlainHeap_thing ad.a_PlainHeap_thing ad.d_PlainHeap_thing
  b_PlainHeap_thing : Binds K ad.d_PlainHeap_thing ["self", "reference"] []
  me_PlainHeap_thing : Meth K ad.c_PlainHeap "thing" ad.a_PlainHeap_thing
  F_PlainHeap_where : Fun K "where" "PlainHeap.where" s_PlainHeap_where ad.a_PlainHeap_where ad.d_PlainHeap_where
  b_PlainHeap_where : Binds K ad.d_PlainHeap_where ["self", "serial"] []
  me_PlainHeap_where : Meth K ad.c_PlainHeap "where" ad.a_PlainHeap_where
  F_PlainHeap_where_proxy : Fun K "where_proxy" "PlainHeap.where_proxy" s_PlainHeap_where_proxy ad.a_PlainHeap_where_proxy ad.d_PlainHeap_where_proxy
  b_PlainHeap_where_proxy : Binds K ad.d_PlainHeap_where_proxy ["self", "entry"] []
  me_PlainHeap_where_proxy : Meth K ad.c_PlainHeap "where_proxy" ad.a_PlainHeap_where_proxy
  F_PlainHeap_make_cell : Fun K "make_cell" "PlainHeap.make_cell" s_PlainHeap_make_cell ad.a_PlainHeap_make_cell ad.d_PlainHeap_make_cell
  b_PlainHeap_make_cell : Binds K ad.d_PlainHeap_make_cell ["self", "serial", "maker", "content"] []
  me_PlainHeap_make_cell : Meth K ad.c_PlainHeap "make_cell" ad.a_PlainHeap_make_cell
  F_PlainHeap_make_service : Fun K "make_service" "PlainHeap.make_service" s_PlainHeap_make_service ad.a_PlainHeap_make_service ad.d_PlainHeap_make_service
  b_PlainHeap_make_service : Binds K ad.d_PlainHeap_make_service ["self", "serial", "maker", "body"] []
  me_PlainHeap_make_service : Meth K ad.c_PlainHeap "make_service" ad.a_PlainHeap_make_service
  F_PlainHeap_make_proxy : Fun K "make_proxy" "PlainHeap.make_proxy" s_PlainHeap_make_proxy ad.a_PlainHeap_make_proxy ad.d_PlainHeap_make_proxy
  b_PlainHeap_make_proxy : Binds K ad.d_PlainHeap_make_proxy ["self", "entry"] []
  me_PlainHeap_make_proxy : Meth K ad.c_PlainHeap "make_proxy" ad.a_PlainHeap_make_proxy
  F_PlainHeap_keep : Fun K "keep" "PlainHeap.keep" s_PlainHeap_keep ad.a_PlainHeap_keep ad.d_PlainHeap_keep
  b_PlainHeap_keep : Binds K ad.d_PlainHeap_keep ["self", "reference"] []
  me_PlainHeap_keep : Meth K ad.c_PlainHeap "keep" ad.a_PlainHeap_keep
  F_PlainHeap_drop : Fun K "drop" "PlainHeap.drop" s_PlainHeap_drop ad.a_PlainHeap_drop ad.d_PlainHeap_drop
  b_PlainHeap_drop : Binds K ad.d_PlainHeap_drop ["self", "reference"] []
  me_PlainHeap_drop : Meth K ad.c_PlainHeap "drop" ad.a_PlainHeap_drop
  F_PlainHeap_change_hold : Fun K "change_hold" "PlainHeap.change_hold" s_PlainHeap_change_hold ad.a_PlainHeap_change_hold ad.d_PlainHeap_change_hold
  b_PlainHeap_change_hold : Binds K ad.d_PlainHeap_change_hold ["self", "serial", "change"] []
  me_PlainHeap_change_hold : Meth K ad.c_PlainHeap "change_hold" ad.a_PlainHeap_change_hold
  F_PlainHeap_collect : Fun K "collect" "PlainHeap.collect" s_PlainHeap_collect ad.a_PlainHeap_collect ad.d_PlainHeap_collect
  b_PlainHeap_collect : Binds K ad.d_PlainHeap_collect ["self", "registers", "held", "pinned"] []
  me_PlainHeap_collect : Meth K ad.c_PlainHeap "collect" ad.a_PlainHeap_collect
  F_PlainHeap_set_link : Fun K "set_link" "PlainHeap.set_link" s_PlainHeap_set_link ad.a_PlainHeap_set_link ad.d_PlainHeap_set_link
  b_PlainHeap_set_link : Binds K ad.d_PlainHeap_set_link ["self", "reference", "target"] []
  me_PlainHeap_set_link : Meth K ad.c_PlainHeap "set_link" ad.a_PlainHeap_set_link
  F_in_order : Fun K "in_order" "in_order" s_in_order ad.a_in_order ad.d_in_order
  b_in_order : Binds K ad.d_in_order ["heap"] []
  m_in_order : mg "in_order" = some (.ref ad.a_in_order)
  F_PlainHeap_everything : Fun K "everything" "PlainHeap.everything" s_PlainHeap_everything ad.a_PlainHeap_everything ad.d_PlainHeap_everything
  b_PlainHeap_everything : Binds K ad.d_PlainHeap_everything ["self"] []
  me_PlainHeap_everything : Meth K ad.c_PlainHeap "everything" ad.a_PlainHeap_everything
  F_law_same_thing : Fun K "_law_same_thing" "_law_same_thing" s_law_same_thing ad.a_law_same_thing ad.d_law_same_thing
  b_law_same_thing : Binds K ad.d_law_same_thing ["thing", "place", "due"] []
  m_law_same_thing : mg "_law_same_thing" = some (.ref ad.a_law_same_thing)
  F_law_same_heap : Fun K "_law_same_heap" "_law_same_heap" s_law_same_heap ad.a_law_same_heap ad.d_law_same_heap
  b_law_same_heap : Binds K ad.d_law_same_heap ["heap", "things", "numbers"] []
  m_law_same_heap : mg "_law_same_heap" = some (.ref ad.a_law_same_heap)
  F_law_make : Fun K "_law_make" "_law_make" s_law_make ad.a_law_make ad.d_law_make
  b_law_make : Binds K ad.d_law_make ["deck", "heap", "things", "number", "place"] []
  m_law_make : mg "_law_make" = some (.ref ad.a_law_make)
  F_law_deed : Fun K "_law_deed" "_law_deed" s_law_deed ad.a_law_deed ad.d_law_deed
  b_law_deed : Binds K ad.d_law_deed ["deck", "heap", "things", "number"] []
  m_law_deed : mg "_law_deed" = some (.ref ad.a_law_deed)
  F_law : Fun K "law" "law" s_law ad.a_law ad.d_law
  b_law : Binds K ad.d_law ["script"] []
  m_law : mg "law" = some (.ref ad.a_law)
  cl_Cell : Cls K ad.c_Cell
  mg_Cell : mg "Cell" = some (.ref ad.c_Cell)
  mk_Cell : Mk K ad.c_Cell ad.a_Cell_init_
  n_Cell_content : NoAttr K ad.c_Cell "content"
  n_Cell_link : NoAttr K ad.c_Cell "link"
  n_Cell_maker : NoAttr K ad.c_Cell "maker"
  n_Cell_place : NoAttr K ad.c_Cell "place"
  n_Cell_references : NoAttr K ad.c_Cell "references"
  n_Cell_serial : NoAttr K ad.c_Cell "serial"
  cl_PlainHeap : Cls K ad.c_PlainHeap
  mg_PlainHeap : mg "PlainHeap" = some (.ref ad.c_PlainHeap)
  mk_PlainHeap : Mk K ad.c_PlainHeap ad.a_PlainHeap_init_
  n_PlainHeap_places : NoAttr K ad.c_PlainHeap "places"
  n_PlainHeap_proxies : NoAttr K ad.c_PlainHeap "proxies"
  n_PlainHeap_serials : NoAttr K ad.c_PlainHeap "serials"
  cl_Proxy : Cls K ad.c_Proxy
  mg_Proxy : mg "Proxy" = some (.ref ad.c_Proxy)
  mk_Proxy : Mk K ad.c_Proxy ad.a_Proxy_init_
  n_Proxy_entry : NoAttr K ad.c_Proxy "entry"
  n_Proxy_link : NoAttr K ad.c_Proxy "link"
  n_Proxy_maker : NoAttr K ad.c_Proxy "maker"
  n_Proxy_place : NoAttr K ad.c_Proxy "place"
  n_Proxy_references : NoAttr K ad.c_Proxy "references"
  n_Proxy_serial : NoAttr K ad.c_Proxy "serial"
  cl_Service : Cls K ad.c_Service
  mg_Service : mg "Service" = some (.ref ad.c_Service)
  mk_Service : Mk K ad.c_Service ad.a_Service_init_
  n_Service_body : NoAttr K ad.c_Service "body"
  n_Service_link : NoAttr K ad.c_Service "link"
  n_Service_maker : NoAttr K ad.c_Service "maker"
  n_Service_place : NoAttr K ad.c_Service "place"
  n_Service_references : NoAttr K ad.c_Service "references"
  n_Service_serial : NoAttr K ad.c_Service "serial"
  kt_Cell_Cell : PySem.W.kitOne K (.ref ad.c_Cell) (.ref ad.c_Cell) = some true
  kt_Cell_Service : PySem.W.kitOne K (.ref ad.c_Cell) (.ref ad.c_Service) = some false
  kt_Cell_Proxy : PySem.W.kitOne K (.ref ad.c_Cell) (.ref ad.c_Proxy) = some false
  kt_Service_Cell : PySem.W.kitOne K (.ref ad.c_Service) (.ref ad.c_Cell) = some false
  kt_Service_Service : PySem.W.kitOne K (.ref ad.c_Service) (.ref ad.c_Service) = some true
  kt_Service_Proxy : PySem.W.kitOne K (.ref ad.c_Service) (.ref ad.c_Proxy) = some false
  kt_Proxy_Cell : PySem.W.kitOne K (.ref ad.c_Proxy) (.ref ad.c_Cell) = some false
  kt_Proxy_Service : PySem.W.kitOne K (.ref ad.c_Proxy) (.ref ad.c_Service) = some false
  kt_Proxy_Proxy : PySem.W.kitOne K (.ref ad.c_Proxy) (.ref ad.c_Proxy) = some true
  is_Cell : PySem.W.findIn K (.ref ad.c_Cell) "__class__" = some (some (.builtin "object.__class__"))
  io_Cell : PySem.W.mroIn K ad.c_Cell (.type "object") = some true
  is_Service : PySem.W.findIn K (.ref ad.c_Service) "__class__" = some (some (.builtin "object.__class__"))
  io_Service : PySem.W.mroIn K ad.c_Service (.type "object") = some true
  is_Proxy : PySem.W.findIn K (.ref ad.c_Proxy) "__class__" = some (some (.builtin "object.__class__"))
  io_Proxy : PySem.W.mroIn K ad.c_Proxy (.type "object") = some true
  is_get : PySem.W.specialIn K (.builtin "object.__class__") "__get__" = some (some (.builtin "getset_descriptor.__get__"))
  is_tk : PySem.W.takesIn K (.builtin "object.__class__") = some true
  z_abs : mg "abs" = none
  z_bool : mg "bool" = none
  z_int : mg "int" = none
  z_isinstance : mg "isinstance" = none
  z_len : mg "len" = none
  z_list : mg "list" = none
  z_range : mg "range" = none
  z_sorted : mg "sorted" = none
  z_tuple : mg "tuple" = none
/-- the fields of Cell, in order -/
def fs_Cell (v_serial v_maker v_content v_place v_link v_references : V) : List (Str × V) := [("serial", v_serial), ("maker", v_maker), ("content", v_content), ("place", v_place), ("link", v_link), ("references", v_references)]
theorem lk_Cell_serial (v_serial v_maker v_content v_place v_link v_references : V) : (fs_Cell v_serial v_maker v_content v_place v_link v_references).lookup ("serial" : Str) = some v_serial := by rfl
theorem lk_Cell_maker (v_serial v_maker v_content v_place v_link v_references : V) : (fs_Cell v_serial v_maker v_content v_place v_link v_references).lookup ("maker" : Str) = some v_maker := by rfl
theorem lk_Cell_content (v_serial v_maker v_content v_place v_link v_references : V) : (fs_Cell v_serial v_maker v_content v_place v_link v_references).lookup ("content" : Str) = some v_content := by rfl
theorem lk_Cell_place (v_serial v_maker v_content v_place v_link v_references : V) : (fs_Cell v_serial v_maker v_content v_place v_link v_references).lookup ("place" : Str) = some v_place := by rfl
theorem lk_Cell_link (v_serial v_maker v_content v_place v_link v_references : V) : (fs_Cell v_serial v_maker v_content v_place v_link v_references).lookup ("link" : Str) = some v_link := by rfl
theorem lk_Cell_references (v_serial v_maker v_content v_place v_link v_references : V) : (fs_Cell v_serial v_maker v_content v_place v_link v_references).lookup ("references" : Str) = some v_references := by rfl
theorem pf_Cell_serial (v_serial : V) : putF "serial" v_serial ([] : List (Str × V)) = [(("serial" : Str), v_serial)] := by rfl
theorem pf_Cell_maker (v_serial v_maker : V) : putF "maker" v_maker ([(("serial" : Str), v_serial)] : List (Str × V)) = [(("serial" : Str), v_serial), (("maker" : Str), v_maker)] := by rfl
theorem pf_Cell_content (v_serial v_maker v_content : V) : putF "content" v_content ([(("serial" : Str), v_serial), (("maker" : Str), v_maker)] : List (Str × V)) = [(("serial" : Str), v_serial), (("maker" : Str), v_maker), (("content" : Str), v_content)] := by rfl
theorem pf_Cell_place (v_serial v_maker v_content v_place : V) : putF "place" v_place ([(("serial" : Str), v_serial), (("maker" : Str), v_maker), (("content" : Str), v_content)] : List (Str × V)) = [(("serial" : Str), v_serial), (("maker" : Str), v_maker), (("content" : Str), v_content), (("place" : Str), v_place)] := by rfl
theorem pf_Cell_link (v_serial v_maker v_content v_place v_link : V) : putF "link" v_link ([(("serial" : Str), v_serial), (("maker" : Str), v_maker), (("content" : Str), v_content), (("place" : Str), v_place)] : List (Str × V)) = [(("serial" : Str), v_serial), (("maker" : Str), v_maker), (("content" : Str), v_content), (("place" : Str), v_place), (("link" : Str), v_link)] := by rfl
theorem pf_Cell_references (v_serial v_maker v_content v_place v_link v_references : V) : putF "references" v_references ([(("serial" : Str), v_serial), (("maker" : Str), v_maker), (("content" : Str), v_content), (("place" : Str), v_place), (("link" : Str), v_link)] : List (Str × V)) = fs_Cell v_serial v_maker v_content v_place v_link v_references := by rfl
theorem st_Cell_serial (v_serial v_maker v_content v_place v_link v_references w : V) : putF "serial" w (fs_Cell v_serial v_maker v_content v_place v_link v_references) = fs_Cell w v_maker v_content v_place v_link v_references := by rfl
theorem st_Cell_maker (v_serial v_maker v_content v_place v_link v_references w : V) : putF "maker" w (fs_Cell v_serial v_maker v_content v_place v_link v_references) = fs_Cell v_serial w v_content v_place v_link v_references := by rfl
theorem st_Cell_content (v_serial v_maker v_content v_place v_link v_references w : V) : putF "content" w (fs_Cell v_serial v_maker v_content v_place v_link v_references) = fs_Cell v_serial v_maker w v_place v_link v_references := by rfl
theorem st_Cell_place (v_serial v_maker v_content v_place v_link v_references w : V) : putF "place" w (fs_Cell v_serial v_maker v_content v_place v_link v_references) = fs_Cell v_serial v_maker v_content w v_link v_references := by rfl
theorem st_Cell_link (v_serial v_maker v_content v_place v_link v_references w : V) : putF "link" w (fs_Cell v_serial v_maker v_content v_place v_link v_references) = fs_Cell v_serial v_maker v_content v_place w v_references := by rfl
theorem st_Cell_references (v_serial v_maker v_content v_place v_link v_references w : V) : putF "references" w (fs_Cell v_serial v_maker v_content v_place v_link v_references) = fs_Cell v_serial v_maker v_content v_place v_link w := by rfl
local macro_rules | `(tactic| walk_at "lk") => `(tactic| with_reducible first | exact Toy.lk_Cell_serial _ _ _ _ _ _ | exact Toy.lk_Cell_maker _ _ _ _ _ _ | exact Toy.lk_Cell_content _ _ _ _ _ _ | exact Toy.lk_Cell_place _ _ _ _ _ _ | exact Toy.lk_Cell_link _ _ _ _ _ _ | exact Toy.lk_Cell_references _ _ _ _ _ _)
/-- the fields of Service, in order -/
def fs_Service (v_serial v_maker v_body v_place v_link v_references : V) : List (Str × V) := [("serial", v_serial), ("maker", v_maker), ("body", v_body), ("place", v_place), ("link", v_link), ("references", v_references)]
theorem lk_Service_serial (v_serial v_maker v_body v_place v_link v_references : V) : (fs_Service v_serial v_maker v_body v_place v_link v_references).lookup ("serial" : Str) = some v_serial := by rfl
theorem lk_Service_maker (v_serial v_maker v_body v_place v_link v_references : V) : (fs_Service v_serial v_maker v_body v_place v_link v_references).lookup ("maker" : Str) = some v_maker := by rfl
theorem lk_Service_body (v_serial v_maker v_body v_place v_link v_references : V) : (fs_Service v_serial v_maker v_body v_place v_link v_references).lookup ("body" : Str) = some v_body := by rfl
theorem lk_Service_place (v_serial v_maker v_body v_place v_link v_references : V) : (fs_Service v_serial v_maker v_body v_place v_link v_references).lookup ("place" : Str) = some v_place := by rfl
theorem lk_Service_link (v_serial v_maker v_body v_place v_link v_references : V) : (fs_Service v_serial v_maker v_body v_place v_link v_references).lookup ("link" : Str) = some v_link := by rfl
theorem lk_Service_references (v_serial v_maker v_body v_place v_link v_references : V) : (fs_Service v_serial v_maker v_body v_place v_link v_references).lookup ("references" : Str) = some v_references := by rfl
theorem pf_Service_serial (v_serial : V) : putF "serial" v_serial ([] : List (Str × V)) = [(("serial" : Str), v_serial)] := by rfl
theorem pf_Service_maker (v_serial v_maker : V) : putF "maker" v_maker ([(("serial" : Str), v_serial)] : List (Str × V)) = [(("serial" : Str), v_serial), (("maker" : Str), v_maker)] := by rfl
theorem pf_Service_body (v_serial v_maker v_body : V) : putF "body" v_body ([(("serial" : Str), v_serial), (("maker" : Str), v_maker)] : List (Str × V)) = [(("serial" : Str), v_serial), (("maker" : Str), v_maker), (("body" : Str), v_body)] := by rfl
theorem pf_Service_place (v_serial v_maker v_body v_place : V) : putF "place" v_place ([(("serial" : Str), v_serial), (("maker" : Str), v_maker), (("body" : Str), v_body)] : List (Str × V)) = [(("serial" : Str), v_serial), (("maker" : Str), v_maker), (("body" : Str), v_body), (("place" : Str), v_place)] := by rfl
theorem pf_Service_link (v_serial v_maker v_body v_place v_link : V) : putF "link" v_link ([(("serial" : Str), v_serial), (("maker" : Str), v_maker), (("body" : Str), v_body), (("place" : Str), v_place)] : List (Str × V)) = [(("serial" : Str), v_serial), (("maker" : Str), v_maker), (("body" : Str), v_body), (("place" : Str), v_place), (("link" : Str), v_link)] := by rfl
theorem pf_Service_references (v_serial v_maker v_body v_place v_link v_references : V) : putF "references" v_references ([(("serial" : Str), v_serial), (("maker" : Str), v_maker), (("body" : Str), v_body), (("place" : Str), v_place), (("link" : Str), v_link)] : List (Str × V)) = fs_Service v_serial v_maker v_body v_place v_link v_references := by rfl
theorem st_Service_serial (v_serial v_maker v_body v_place v_link v_references w : V) : putF "serial" w (fs_Service v_serial v_maker v_body v_place v_link v_references) = fs_Service w v_maker v_body v_place v_link v_references := by rfl
theorem st_Service_maker (v_serial v_maker v_body v_place v_link v_references w : V) : putF "maker" w (fs_Service v_serial v_maker v_body v_place v_link v_references) = fs_Service v_serial w v_body v_place v_link v_references := by rfl
theorem st_Service_body (v_serial v_maker v_body v_place v_link v_references w : V) : putF "body" w (fs_Service v_serial v_maker v_body v_place v_link v_references) = fs_Service v_serial v_maker w v_place v_link v_references := by rfl
theorem st_Service_place (v_serial v_maker v_body v_place v_link v_references w : V) : putF "place" w (fs_Service v_serial v_maker v_body v_place v_link v_references) = fs_Service v_serial v_maker v_body w v_link v_references := by rfl
theorem st_Service_link (v_serial v_maker v_body v_place v_link v_references w : V) : putF "link" w (fs_Service v_serial v_maker v_body v_place v_link v_references) = fs_Service v_serial v_maker v_body v_place w v_references := by rfl
theorem st_Service_references (v_serial v_maker v_body v_place v_link v_references w : V) : putF "references" w (fs_Service v_serial v_maker v_body v_place v_link v_references) = fs_Service v_serial v_maker v_body v_place v_link w := by rfl
local macro_rules | `(tactic| walk_at "lk") => `(tactic| with_reducible first | exact Toy.lk_Service_serial _ _ _ _ _ _ | exact Toy.lk_Service_maker _ _ _ _ _ _ | exact Toy.lk_Service_body _ _ _ _ _ _ | exact Toy.lk_Service_place _ _ _ _ _ _ | exact Toy.lk_Service_link _ _ _ _ _ _ | exact Toy.lk_Service_references _ _ _ _ _ _)
/-- the fields of Proxy, in order -/
def fs_Proxy (v_serial v_maker v_entry v_place v_link v_references : V) : List (Str × V) := [("serial", v_serial), ("maker", v_maker), ("entry", v_entry), ("place", v_place), ("link", v_link), ("references", v_references)]
theorem lk_Proxy_serial (v_serial v_maker v_entry v_place v_link v_references : V) : (fs_Proxy v_serial v_maker v_entry v_place v_link v_references).lookup ("serial" : Str) = some v_serial := by rfl
theorem lk_Proxy_maker (v_serial v_maker v_entry v_place v_link v_references : V) : (fs_Proxy v_serial v_maker v_entry v_place v_link v_references).lookup ("maker" : Str) = some v_maker := by rfl
theorem lk_Proxy_entry (v_serial v_maker v_entry v_place v_link v_references : V) : (fs_Proxy v_serial v_maker v_entry v_place v_link v_references).lookup ("entry" : Str) = some v_entry := by rfl
theorem lk_Proxy_place (v_serial v_maker v_entry v_place v_link v_references : V) : (fs_Proxy v_serial v_maker v_entry v_place v_link v_references).lookup ("place" : Str) = some v_place := by rfl
theorem lk_Proxy_link (v_serial v_maker v_entry v_place v_link v_references : V) : (fs_Proxy v_serial v_maker v_entry v_place v_link v_references).lookup ("link" : Str) = some v_link := by rfl
theorem lk_Proxy_references (v_serial v_maker v_entry v_place v_link v_references : V) : (fs_Proxy v_serial v_maker v_entry v_place v_link v_references).lookup ("references" : Str) = some v_references := by rfl
theorem pf_Proxy_serial (v_serial : V) : putF "serial" v_serial ([] : List (Str × V)) = [(("serial" : Str), v_serial)] := by rfl
theorem pf_Proxy_maker (v_serial v_maker : V) : putF "maker" v_maker ([(("serial" : Str), v_serial)] : List (Str × V)) = [(("serial" : Str), v_serial), (("maker" : Str), v_maker)] := by rfl
theorem pf_Proxy_entry (v_serial v_maker v_entry : V) : putF "entry" v_entry ([(("serial" : Str), v_serial), (("maker" : Str), v_maker)] : List (Str × V)) = [(("serial" : Str), v_serial), (("maker" : Str), v_maker), (("entry" : Str), v_entry)] := by rfl
theorem pf_Proxy_place (v_serial v_maker v_entry v_place : V) : putF "place" v_place ([(("serial" : Str), v_serial), (("maker" : Str), v_maker), (("entry" : Str), v_entry)] : List (Str × V)) = [(("serial" : Str), v_serial), (("maker" : Str), v_maker), (("entry" : Str), v_entry), (("place" : Str), v_place)] := by rfl
theorem pf_Proxy_link (v_serial v_maker v_entry v_place v_link : V) : putF "link" v_link ([(("serial" : Str), v_serial), (("maker" : Str), v_maker), (("entry" : Str), v_entry), (("place" : Str), v_place)] : List (Str × V)) = [(("serial" : Str), v_serial), (("maker" : Str), v_maker), (("entry" : Str), v_entry), (("place" : Str), v_place), (("link" : Str), v_link)] := by rfl
theorem pf_Proxy_references (v_serial v_maker v_entry v_place v_link v_references : V) : putF "references" v_references ([(("serial" : Str), v_serial), (("maker" : Str), v_maker), (("entry" : Str), v_entry), (("place" : Str), v_place), (("link" : Str), v_link)] : List (Str × V)) = fs_Proxy v_serial v_maker v_entry v_place v_link v_references := by rfl
theorem st_Proxy_serial (v_serial v_maker v_entry v_place v_link v_references w : V) : putF "serial" w (fs_Proxy v_serial v_maker v_entry v_place v_link v_references) = fs_Proxy w v_maker v_entry v_place v_link v_references := by rfl
theorem st_Proxy_maker (v_serial v_maker v_entry v_place v_link v_references w : V) : putF "maker" w (fs_Proxy v_serial v_maker v_entry v_place v_link v_references) = fs_Proxy v_serial w v_entry v_place v_link v_references := by rfl
theorem st_Proxy_entry (v_serial v_maker v_entry v_place v_link v_references w : V) : putF "entry" w (fs_Proxy v_serial v_maker v_entry v_place v_link v_references) = fs_Proxy v_serial v_maker w v_place v_link v_references := by rfl
theorem st_Proxy_place (v_serial v_maker v_entry v_place v_link v_references w : V) : putF "place" w (fs_Proxy v_serial v_maker v_entry v_place v_link v_references) = fs_Proxy v_serial v_maker v_entry w v_link v_references := by rfl
theorem st_Proxy_link (v_serial v_maker v_entry v_place v_link v_references w : V) : putF "link" w (fs_Proxy v_serial v_maker v_entry v_place v_link v_references) = fs_Proxy v_serial v_maker v_entry v_place w v_references := by rfl
theorem st_Proxy_references (v_serial v_maker v_entry v_place v_link v_references w : V) : putF "references" w (fs_Proxy v_serial v_maker v_entry v_place v_link v_references) = fs_Proxy v_serial v_maker v_entry v_place v_link w := by rfl
local macro_rules | `(tactic| walk_at "lk") => `(tactic| with_reducible first | exact Toy.lk_Proxy_serial _ _ _ _ _ _ | exact Toy.lk_Proxy_maker _ _ _ _ _ _ | exact Toy.lk_Proxy_entry _ _ _ _ _ _ | exact Toy.lk_Proxy_place _ _ _ _ _ _ | exact Toy.lk_Proxy_link _ _ _ _ _ _ | exact Toy.lk_Proxy_references _ _ _ _ _ _)
/-- the fields of CountedHeap, in order -/
def fs_CountedHeap (v_places v_serials v_proxies v_vacant : V) : List (Str × V) := [("places", v_places), ("serials", v_serials), ("proxies", v_proxies), ("vacant", v_vacant)]
theorem lk_CountedHeap_places (v_places v_serials v_proxies v_vacant : V) : (fs_CountedHeap v_places v_serials v_proxies v_vacant).lookup ("places" : Str) = some v_places := by rfl
theorem lk_CountedHeap_serials (v_places v_serials v_proxies v_vacant : V) : (fs_CountedHeap v_places v_serials v_proxies v_vacant).lookup ("serials" : Str) = some v_serials := by rfl
theorem lk_CountedHeap_proxies (v_places v_serials v_proxies v_vacant : V) : (fs_CountedHeap v_places v_serials v_proxies v_vacant).lookup ("proxies" : Str) = some v_proxies := by rfl
theorem lk_CountedHeap_vacant (v_places v_serials v_proxies v_vacant : V) : (fs_CountedHeap v_places v_serials v_proxies v_vacant).lookup ("vacant" : Str) = some v_vacant := by rfl
theorem pf_CountedHeap_places (v_places : V) : putF "places" v_places ([] : List (Str × V)) = [(("places" : Str), v_places)] := by rfl
theorem pf_CountedHeap_serials (v_places v_serials : V) : putF "serials" v_serials ([(("places" : Str), v_places)] : List (Str × V)) = [(("places" : Str), v_places), (("serials" : Str), v_serials)] := by rfl
theorem pf_CountedHeap_proxies (v_places v_serials v_proxies : V) : putF "proxies" v_proxies ([(("places" : Str), v_places), (("serials" : Str), v_serials)] : List (Str × V)) = [(("places" : Str), v_places), (("serials" : Str), v_serials), (("proxies" : Str), v_proxies)] := by rfl
theorem pf_CountedHeap_vacant (v_places v_serials v_proxies v_vacant : V) : putF "vacant" v_vacant ([(("places" : Str), v_places), (("serials" : Str), v_serials), (("proxies" : Str), v_proxies)] : List (Str × V)) = fs_CountedHeap v_places v_serials v_proxies v_vacant := by rfl
theorem st_CountedHeap_places (v_places v_serials v_proxies v_vacant w : V) : putF "places" w (fs_CountedHeap v_places v_serials v_proxies v_vacant) = fs_CountedHeap w v_serials v_proxies v_vacant := by rfl
theorem st_CountedHeap_serials (v_places v_serials v_proxies v_vacant w : V) : putF "serials" w (fs_CountedHeap v_places v_serials v_proxies v_vacant) = fs_CountedHeap v_places w v_proxies v_vacant := by rfl
theorem st_CountedHeap_proxies (v_places v_serials v_proxies v_vacant w : V) : putF "proxies" w (fs_CountedHeap v_places v_serials v_proxies v_vacant) = fs_CountedHeap v_places v_serials w v_vacant := by rfl
theorem st_CountedHeap_vacant (v_places v_serials v_proxies v_vacant w : V) : putF "vacant" w (fs_CountedHeap v_places v_serials v_proxies v_vacant) = fs_CountedHeap v_places v_serials v_proxies w := by rfl
local macro_rules | `(tactic| walk_at "lk") => `(tactic| with_reducible first | exact Toy.lk_CountedHeap_places _ _ _ _ | exact Toy.lk_CountedHeap_serials _ _ _ _ | exact Toy.lk_CountedHeap_proxies _ _ _ _ | exact Toy.lk_CountedHeap_vacant _ _ _ _)
/-- the fields of TracedHeap, in order -/
def fs_TracedHeap (v_places v_serials v_proxies v_space v_next_index : V) : List (Str × V) := [("places", v_places), ("serials", v_serials), ("proxies", v_proxies), ("space", v_space), ("next_index", v_next_index)]
theorem lk_TracedHeap_places (v_places v_serials v_proxies v_space v_next_index : V) : (fs_TracedHeap v_places v_serials v_proxies v_space v_next_index).lookup ("places" : Str) = some v_places := by rfl
theorem lk_TracedHeap_serials (v_places v_serials v_proxies v_space v_next_index : V) : (fs_TracedHeap v_places v_serials v_proxies v_space v_next_index).lookup ("serials" : Str) = some v_serials := by rfl
theorem lk_TracedHeap_proxies (v_places v_serials v_proxies v_space v_next_index : V) : (fs_TracedHeap v_places v_serials v_proxies v_space v_next_index).lookup ("proxies" : Str) = some v_proxies := by rfl
theorem lk_TracedHeap_space (v_places v_serials v_proxies v_space v_next_index : V) : (fs_TracedHeap v_places v_serials v_proxies v_space v_next_index).lookup ("space" : Str) = some v_space := by rfl
theorem lk_TracedHeap_next_index (v_places v_serials v_proxies v_space v_next_index : V) : (fs_TracedHeap v_places v_serials v_proxies v_space v_next_index).lookup ("next_index" : Str) = some v_next_index := by rfl
theorem pf_TracedHeap_places (v_places : V) : putF "places" v_places ([] : List (Str × V)) = [(("places" : Str), v_places)] := by rfl
theorem pf_TracedHeap_serials (v_places v_serials : V) : putF "serials" v_serials ([(("places" : Str), v_places)] : List (Str × V)) = [(("places" : Str), v_places), (("serials" : Str), v_serials)] := by rfl
theorem pf_TracedHeap_proxies (v_places v_serials v_proxies : V) : putF "proxies" v_proxies ([(("places" : Str), v_places), (("serials" : Str), v_serials)] : List (Str × V)) = [(("places" : Str), v_places), (("serials" : Str), v_serials), (("proxies" : Str), v_proxies)] := by rfl
theorem pf_TracedHeap_space (v_places v_serials v_proxies v_space : V) : putF "space" v_space ([(("places" : Str), v_places), (("serials" : Str), v_serials), (("proxies" : Str), v_proxies)] : List (Str × V)) = [(("places" : Str), v_places), (("serials" : Str), v_serials), (("proxies" : Str), v_proxies), (("space" : Str), v_space)] := by rfl
theorem pf_TracedHeap_next_index (v_places v_serials v_proxies v_space v_next_index : V) : putF "next_index" v_next_index ([(("places" : Str), v_places), (("serials" : Str), v_serials), (("proxies" : Str), v_proxies), (("space" : Str), v_space)] : List (Str × V)) = fs_TracedHeap v_places v_serials v_proxies v_space v_next_index := by rfl
theorem st_TracedHeap_places (v_places v_serials v_proxies v_space v_next_index w : V) : putF "places" w (fs_TracedHeap v_places v_serials v_proxies v_space v_next_index) = fs_TracedHeap w v_serials v_proxies v_space v_next_index := by rfl
theorem st_TracedHeap_serials (v_places v_serials v_proxies v_space v_next_index w : V) : putF "serials" w (fs_TracedHeap v_places v_serials v_proxies v_space v_next_index) = fs_TracedHeap v_places w v_proxies v_space v_next_index := by rfl
theorem st_TracedHeap_proxies (v_places v_serials v_proxies v_space v_next_index w : V) : putF "proxies" w (fs_TracedHeap v_places v_serials v_proxies v_space v_next_index) = fs_TracedHeap v_places v_serials w v_space v_next_index := by rfl
theorem st_TracedHeap_space (v_places v_serials v_proxies v_space v_next_index w : V) : putF "space" w (fs_TracedHeap v_places v_serials v_proxies v_space v_next_index) = fs_TracedHeap v_places v_serials v_proxies w v_next_index := by rfl
theorem st_TracedHeap_next_index (v_places v_serials v_proxies v_space v_next_index w : V) : putF "next_index" w (fs_TracedHeap v_places v_serials v_proxies v_space v_next_index) = fs_TracedHeap v_places v_serials v_proxies v_space w := by rfl
local macro_rules | `(tactic| walk_at "lk") => `(tactic| with_reducible first | exact Toy.lk_TracedHeap_places _ _ _ _ _ | exact Toy.lk_TracedHeap_serials _ _ _ _ _ | exact Toy.lk_TracedHeap_proxies _ _ _ _ _ | exact Toy.lk_TracedHeap_space _ _ _ _ _ | exact Toy.lk_TracedHeap_next_index _ _ _ _ _)
/-- the fields of PlainHeap, in order -/
def fs_PlainHeap (v_places v_serials v_proxies : V) : List (Str × V) := [("places", v_places), ("serials", v_serials), ("proxies", v_proxies)]
theorem lk_PlainHeap_places (v_places v_serials v_proxies : V) : (fs_PlainHeap v_places v_serials v_proxies).lookup ("places" : Str) = some v_places := by rfl
theorem lk_PlainHeap_serials (v_places v_serials v_proxies : V) : (fs_PlainHeap v_places v_serials v_proxies).lookup ("serials" : Str) = some v_serials := by rfl
theorem lk_PlainHeap_proxies (v_places v_serials v_proxies : V) : (fs_PlainHeap v_places v_serials v_proxies).lookup ("proxies" : Str) = some v_proxies := by rfl
theorem pf_PlainHeap_places (v_places : V) : putF "places" v_places ([] : List (Str × V)) = [(("places" : Str), v_places)] := by rfl
theorem pf_PlainHeap_serials (v_places v_serials : V) : putF "serials" v_serials ([(("places" : Str), v_places)] : List (Str × V)) = [(("places" : Str), v_places), (("serials" : Str), v_serials)] := by rfl
theorem pf_PlainHeap_proxies (v_places v_serials v_proxies : V) : putF "proxies" v_proxies ([(("places" : Str), v_places), (("serials" : Str), v_serials)] : List (Str × V)) = fs_PlainHeap v_places v_serials v_proxies := by rfl
theorem st_PlainHeap_places (v_places v_serials v_proxies w : V) : putF "places" w (fs_PlainHeap v_places v_serials v_proxies) = fs_PlainHeap w v_serials v_proxies := by rfl
theorem st_PlainHeap_serials (v_places v_serials v_proxies w : V) : putF "serials" w (fs_PlainHeap v_places v_serials v_proxies) = fs_PlainHeap v_places w v_proxies := by rfl
theorem st_PlainHeap_proxies (v_places v_serials v_proxies w : V) : putF "proxies" w (fs_PlainHeap v_places v_serials v_proxies) = fs_PlainHeap v_places v_serials w := by rfl
theorem no_PlainHeap_make_cell (v_places v_serials v_proxies : V) : (fs_PlainHeap v_places v_serials v_proxies).lookup ("make_cell" : Str) = none := by rfl
theorem no_PlainHeap_make_service (v_places v_serials v_proxies : V) : (fs_PlainHeap v_places v_serials v_proxies).lookup ("make_service" : Str) = none := by rfl
theorem no_PlainHeap_make_proxy (v_places v_serials v_proxies : V) : (fs_PlainHeap v_places v_serials v_proxies).lookup ("make_proxy" : Str) = none := by rfl
theorem no_PlainHeap_thing (v_places v_serials v_proxies : V) : (fs_PlainHeap v_places v_serials v_proxies).lookup ("thing" : Str) = none := by rfl
theorem no_PlainHeap_where (v_places v_serials v_proxies : V) : (fs_PlainHeap v_places v_serials v_proxies).lookup ("where" : Str) = none := by rfl
theorem no_PlainHeap_where_proxy (v_places v_serials v_proxies : V) : (fs_PlainHeap v_places v_serials v_proxies).lookup ("where_proxy" : Str) = none := by rfl
theorem no_PlainHeap_keep (v_places v_serials v_proxies : V) : (fs_PlainHeap v_places v_serials v_proxies).lookup ("keep" : Str) = none := by rfl
theorem no_PlainHeap_drop (v_places v_serials v_proxies : V) : (fs_PlainHeap v_places v_serials v_proxies).lookup ("drop" : Str) = none := by rfl
theorem no_PlainHeap_change_hold (v_places v_serials v_proxies : V) : (fs_PlainHeap v_places v_serials v_proxies).lookup ("change_hold" : Str) = none := by rfl
theorem no_PlainHeap_set_link (v_places v_serials v_proxies : V) : (fs_PlainHeap v_places v_serials v_proxies).lookup ("set_link" : Str) = none := by rfl
theorem no_PlainHeap_collect (v_places v_serials v_proxies : V) : (fs_PlainHeap v_places v_serials v_proxies).lookup ("collect" : Str) = none := by rfl
theorem no_PlainHeap_everything (v_places v_serials v_proxies : V) : (fs_PlainHeap v_places v_serials v_proxies).lookup ("everything" : Str) = none := by rfl
local macro_rules | `(tactic| walk_at "lk") => `(tactic| with_reducible first | exact Toy.lk_PlainHeap_places _ _ _ | exact Toy.lk_PlainHeap_serials _ _ _ | exact Toy.lk_PlainHeap_proxies _ _ _ | exact Toy.no_PlainHeap_make_cell _ _ _ | exact Toy.no_PlainHeap_make_service _ _ _ | exact Toy.no_PlainHeap_make_proxy _ _ _ | exact Toy.no_PlainHeap_thing _ _ _ | exact Toy.no_PlainHeap_where _ _ _ | exact Toy.no_PlainHeap_where_proxy _ _ _ | exact Toy.no_PlainHeap_keep _ _ _ | exact Toy.no_PlainHeap_drop _ _ _ | exact Toy.no_PlainHeap_change_hold _ _ _ | exact Toy.no_PlainHeap_set_link _ _ _ | exact Toy.no_PlainHeap_collect _ _ _ | exact Toy.no_PlainHeap_everything _ _ _)
section
variable {P : Program} {w : World} {K : PySem.W.Frag} {mg : Str → Option Value} {base : Heap}
/-! ### the deck and its draws -/
theorem ok_law_takeC {ad : Ad} (T : Txt K mg ad) : FnOk P w K mg base CX0 1 ad.a_law_take ad.d_law_take ["deck", "many"] (Dk.spTakeC) := by
  refine T.F_law_take.ok sc_law_take (fun vs H Q E h => ?_) (fun cdv A outer s H vs Q E hr h => ?_)
  · obtain ⟨l, ns, m, rfl, h1, h2, h3, k⟩ := h
    rfl
  · obtain ⟨l, ns, m, rfl, h1, h2, h3, k⟩ := h
    refine ⟨_, (pss_cons (ps_if (pt_cmpR op_eq (pe_callB (id := "len") Rd.c_len (by rfl) T.z_len (by decide +kernel) (pa_cons (pv 0) pa_nil)) pe_int (nomark _)) (pss_one (ps_ret pe_int)) pss_nil)
      (pss_one (ps_ret (pe_op op_mod (pe_callTy (T := "int") Rd.c_int (by rfl) T.z_int (by decide +kernel) (pa_cons (pe_bm0 PySem.F.plainAttrs_list PySem.F.slot_list_pop PySem.F.type_list_pop mt_pop (pv 0)) pa_nil)) (pv 1))))), ?_⟩
    try dsimp only [L2.cxOf, L2.Cx.nox, L2.Cx.wish]
    change (_ : TS) _ ([some (.ref l), some (.int m)] : St) _
    have cl_Cell := T.cl_Cell
    have n_Cell_content := T.n_Cell_content
    have n_Cell_link := T.n_Cell_link
    have n_Cell_maker := T.n_Cell_maker
    have n_Cell_place := T.n_Cell_place
    have n_Cell_references := T.n_Cell_references
    have n_Cell_serial := T.n_Cell_serial
    have cl_PlainHeap := T.cl_PlainHeap
    have n_PlainHeap_places := T.n_PlainHeap_places
    have n_PlainHeap_proxies := T.n_PlainHeap_proxies
    have n_PlainHeap_serials := T.n_PlainHeap_serials
    have cl_Proxy := T.cl_Proxy
    have n_Proxy_entry := T.n_Proxy_entry
    have n_Proxy_link := T.n_Proxy_link
    have n_Proxy_maker := T.n_Proxy_maker
    have n_Proxy_place := T.n_Proxy_place
    have n_Proxy_references := T.n_Proxy_references
    have n_Proxy_serial := T.n_Proxy_serial
    have cl_Service := T.cl_Service
    have n_Service_body := T.n_Service_body
    have n_Service_link := T.n_Service_link
    have n_Service_maker := T.n_Service_maker
    have n_Service_place := T.n_Service_place
    have n_Service_references := T.n_Service_references
    have n_Service_serial := T.n_Service_serial
    have hd : L2.Same H H := Same.refl H
    walk_at "rd"
    refine Rd.ifd (fun c => ?_) (fun c => ?_)
    · walk_at "rd"
      have q := k 0 ns (by omega) h3 h2
      rw [Dk.upd_id h1] at q
      exact q
    · walk_at "rd"
      have hl : (ns.map V.int).length = ns.length := List.length_map ..
      have hp : 0 < ns.length := by
        rw [hl] at c
        omega
      have hz : (ns.map V.int)[(ns.map V.int).length - 1]? = some (V.int (ns[ns.length - 1]'(by omega))) := by
        rw [hl, List.getElem?_map, List.getElem?_eq_getElem (by omega)]
        rfl
      refine Rd.pop h1 hz ?_
      walk_at "rd"
      rw [← List.map_dropLast]
      exact k _ _ (Int.emod_nonneg _ (by omega)) (Int.emod_lt_of_pos _ h3) (by rw [List.length_dropLast]; omega)
theorem ok_law_take {ad : Ad} (T : Txt K mg ad) : FnOk P w K mg base CX0 1 ad.a_law_take ad.d_law_take ["deck", "many"] Dk.spTake := Dk.ok_take (ok_law_takeC T)
theorem ok_law_deckC {ad : Ad} (T : Txt K mg ad) : FnOk P w K mg base CX0 1 ad.a_law_deck ad.d_law_deck ["script", "cells", "each"] (Dk.spDeckC K) := by
  refine T.F_law_deck.ok sc_law_deck (fun vs H Q E h => ?_) (fun cdv A outer s H vs Q E hr h => ?_)
  · obtain ⟨a, ns, c, e, rfl, hS, hn, hc0, he0, hc1, he1, k⟩ := h
    rfl
  · obtain ⟨a, ns, c, e, rfl, hS, hn, hc0, he0, hc1, he1, k⟩ := h
    refine ⟨_, (pss_cons (ps_set (i := 3) sc_law_deck.nd rfl (Or.inl rfl) (pe_lst pa_nil))
      (pss_cons (ps_set (i := 4) sc_law_deck.nd rfl (Or.inl rfl) (pe_op op_add pe_int (pe_callB (id := "len") Rd.c_len (by rfl) T.z_len (by decide +kernel) (pa_cons (pv 0) pa_nil))))
      (pss_cons (ps_for PassesOwn.never rfl (pi_range1 rfl T.z_range (pa_cons (pv 1) pa_nil)) (pg_name (i := 5) sc_law_deck.nd rfl (Or.inl rfl)) (pss_cons (ps_set (i := 6) sc_law_deck.nd rfl (Or.inl rfl) pe_int)
      (Evl.pss_cut (ps_if (pt_cmpR op_lt (pv 5) (pe_callB (id := "len") Rd.c_len (by rfl) T.z_len (by decide +kernel) (pa_cons (pv 0) pa_nil)) (nomark _)) (pss_one (ps_set (i := 6) sc_law_deck.nd rfl (Or.inl rfl) (pe_ix ix_list (pv 0) (pv 5) (fun _ _ => rfl)))) pss_nil)
      (pss_cons (ps_set (i := 7) sc_law_deck.nd rfl (Or.inl rfl) (pe_callB (id := "abs") Rd.c_abs (by rfl) T.z_abs (by decide +kernel) (pa_cons (pv 6) pa_nil)))
      (pss_one (ps_if (pt_cmpR op_ge (pv 7) (pe_op op_pow pe_int pe_int) (nomark _)) (pss_one (ps_for PassesOwn.never rfl (pi_range1 rfl T.z_range (pa_cons (pv 2) pa_nil)) (pg_name (i := 8) sc_law_deck.nd rfl (Or.inl rfl)) (pss_cons (ps_expr (pe_bm PySem.F.plainAttrs_list PySem.F.slot_list_append PySem.F.type_list_append mt_append (pv 3) (pa_cons (pe_op op_mod (pe_callTy (T := "int") Rd.c_int (by rfl) T.z_int (by decide +kernel) (pa_cons (pv 7) pa_nil)) pe_int) pa_nil)))
      (pss_one (ps_set (i := 7) sc_law_deck.nd rfl (Or.inl rfl) (pe_op op_fdiv (pv 7) pe_int)))))) (pss_cons (ps_set (i := 4) sc_law_deck.nd rfl (Or.inl rfl) (pe_op op_mod (pe_callTy (T := "int") Rd.c_int (by rfl) T.z_int (by decide +kernel) (pa_cons (pe_op op_add (pe_op op_add (pe_op op_add (pe_op op_mul (pv 4) pe_int) (pe_op op_mul pe_int (pv 7))) (pe_callTy (T := "int") Rd.c_int (by rfl) T.z_int (by decide +kernel) (pa_cons (pe_cmpR op_lt (pv 6) pe_int (nomark _)) pa_nil))) (pv 5)) pa_nil)) pe_int))
      (pss_one (ps_for PassesOwn.never rfl (pi_range1 rfl T.z_range (pa_cons (pv 2) pa_nil)) (pg_name (i := 8) sc_law_deck.nd rfl (Or.inl rfl)) (pss_cons (ps_set (i := 4) sc_law_deck.nd rfl (Or.inl rfl) (pe_op op_mod (pe_callTy (T := "int") Rd.c_int (by rfl) T.z_int (by decide +kernel) (pa_cons (pe_op op_add (pe_op op_add (pe_op op_mul (pv 4) pe_int) (pv 8)) pe_int) pa_nil)) pe_int))
      (pss_one (ps_expr (pe_bm PySem.F.plainAttrs_list PySem.F.slot_list_append PySem.F.type_list_append mt_append (pv 3) (pa_cons (pe_op op_mod (pe_callTy (T := "int") Rd.c_int (by rfl) T.z_int (by decide +kernel) (pa_cons (pe_op op_fdiv (pv 4) pe_int) pa_nil)) pe_int) pa_nil))))))))))))))
      (pss_cons (ps_expr (pe_bm0 PySem.F.plainAttrs_list PySem.F.slot_list_reverse PySem.F.type_list_reverse mt_reverse (pv 3)))
      (pss_one (ps_ret (pv 3))))))), ?_⟩
    try dsimp only [L2.cxOf, L2.Cx.nox, L2.Cx.wish]
    change (_ : TS) _ ([some (.ref a), some (.int c), some (.int e), none, none, none, none, none, none] : St) _
    have cl_Cell := T.cl_Cell
    have n_Cell_content := T.n_Cell_content
    have n_Cell_link := T.n_Cell_link
    have n_Cell_maker := T.n_Cell_maker
    have n_Cell_place := T.n_Cell_place
    have n_Cell_references := T.n_Cell_references
    have n_Cell_serial := T.n_Cell_serial
    have cl_PlainHeap := T.cl_PlainHeap
    have n_PlainHeap_places := T.n_PlainHeap_places
    have n_PlainHeap_proxies := T.n_PlainHeap_proxies
    have n_PlainHeap_serials := T.n_PlainHeap_serials
    have cl_Proxy := T.cl_Proxy
    have n_Proxy_entry := T.n_Proxy_entry
    have n_Proxy_link := T.n_Proxy_link
    have n_Proxy_maker := T.n_Proxy_maker
    have n_Proxy_place := T.n_Proxy_place
    have n_Proxy_references := T.n_Proxy_references
    have n_Proxy_serial := T.n_Proxy_serial
    have cl_Service := T.cl_Service
    have n_Service_body := T.n_Service_body
    have n_Service_link := T.n_Service_link
    have n_Service_maker := T.n_Service_maker
    have n_Service_place := T.n_Service_place
    have n_Service_references := T.n_Service_references
    have n_Service_serial := T.n_Service_serial
    walk_at "rd"
    refine Rd.xlstU rfl fun l hl => ?_
    have hS1 : SqL K (upd H l (.lst [])) a (ns.map V.int) := Evl.ex_l (Evl.Ex.new hl) hS
    walk_at "rd"
    refine Rd.xfr1 ⟨by omega, by omega⟩ (fun i σ H' => ∃ (ms : List Int) (sd : Int) (v5 v6 v7 v8 : Option V), σ = [some (.ref a), some (.int c), some (.int e), some (.ref l), some (.int sd), v5, v6, v7, v8] ∧ H' = upd H l (.lst (ms.map V.int)) ∧ ms.length ≤ i * 64)
      ⟨[], _, none, none, none, none, rfl, rfl, Nat.zero_le _⟩ ?_ ?_
    · rintro i σ H' hi ⟨ms, sd, v5, v6, v7, v8, rfl, rfl, hm⟩
      have hS2 : SqL K (upd H l (.lst (ms.map V.int))) a (ns.map V.int) := Evl.ex_l (Evl.Ex.new hl) hS
      walk_at "rd"
      refine ⟨fun σ H' => ∃ cell : Int, σ = [some (.ref a), some (.int c), some (.int e), some (.ref l), some (.int sd), some (.int i), some (.int cell), v7, v8] ∧ H' = upd H l (.lst (ms.map V.int)), ?_, ?_⟩
      · walk_at "rd"
        refine Rd.ifd (fun h1 => ?_) (fun h1 => ?_)
        · walk_at "rd"
          rw [List.length_map] at h1
          refine Rd.ixL hS2 (atI_nat (j := i) (v := V.int (ns[i]'(by omega))) (by rw [List.getElem?_map, List.getElem?_eq_getElem (by omega)]; rfl)) ?_
          walk_at "rd"
          exact ⟨_, rfl, rfl⟩
        · walk_at "rd"
          exact ⟨_, rfl, rfl⟩
      · rintro σ H' ⟨cell, rfl, rfl⟩
        walk_at "rd"
        generalize hrest : (if cell < 0 then -cell else cell) = rest0
        refine Rd.ifd (fun h1 => ?_) (fun h1 => ?_)
        · walk_at "rd"
          refine Rd.xfr1 ⟨by omega, by omega⟩ (fun j σ H' => ∃ (ms' : List Int) (rest : Int) (v8 : Option V), σ = [some (.ref a), some (.int c), some (.int e), some (.ref l), some (.int sd), some (.int i), some (.int cell), some (.int rest), v8] ∧ H' = upd H l (.lst (ms'.map V.int)) ∧ ms'.length ≤ i * 64 + j)
            ⟨ms, _, _, rfl, rfl, hm⟩ ?_ ?_
          · rintro j σ H' hj ⟨ms', rest, v8, rfl, rfl, hm'⟩
            walk_at "rd"
            refine Rd.append upd_same (by rw [List.length_map]; omega) ?_
            walk_at "rd"
            exact ⟨ms' ++ [rest % 1000003], rest / 1000003, _, rfl, by rw [upd_upd, List.map_append]; rfl, by rw [List.length_append]; simp; omega⟩
          · rintro σ H' ⟨ms', rest, v8, rfl, rfl, hm'⟩
            exact ⟨ms', sd, _, _, _, _, rfl, rfl, by omega⟩
        · walk_at "rd"
          refine Rd.xfr1 ⟨by omega, by omega⟩ (fun j σ H' => ∃ (ms' : List Int) (sd : Int) (v8 : Option V), σ = [some (.ref a), some (.int c), some (.int e), some (.ref l), some (.int sd), some (.int i), some (.int cell), some (.int rest0), v8] ∧ H' = upd H l (.lst (ms'.map V.int)) ∧ ms'.length ≤ i * 64 + j)
            ⟨ms, _, _, rfl, rfl, hm⟩ ?_ ?_
          · rintro j σ H' hj ⟨ms', sd, v8, rfl, rfl, hm'⟩
            walk_at "rd"
            refine Rd.append upd_same (by rw [List.length_map]; omega) ?_
            walk_at "rd"
            exact ⟨ms' ++ [_], _, _, rfl, by rw [upd_upd, List.map_append]; rfl, by rw [List.length_append]; simp; omega⟩
          · rintro σ H' ⟨ms', sd, v8, rfl, rfl, hm'⟩
            exact ⟨ms', sd, _, _, _, _, rfl, rfl, by omega⟩
    · rintro σ H' ⟨ms, sd, v5, v6, v7, v8, rfl, rfl, hm⟩
      walk_at "rd"
      refine Rd.reverse upd_same ?_
      walk_at "rd"
      rw [upd_upd, ← List.map_reverse]
      exact k l ms.reverse _ hl rfl (by rw [List.length_reverse]; have := Int.toNat_of_nonneg hc0; omega)
theorem ok_law_deck {ad : Ad} (T : Txt K mg ad) : FnOk P w K mg base CX0 1 ad.a_law_deck ad.d_law_deck ["script", "cells", "each"] (Dk.spDeck K) := Dk.ok_deck (ok_law_deckC T)

def spWhole : Sp := fun vs H Q _ => ∃ i : Int, vs = [.int i] ∧ Q (.bl true) H
theorem ok_law_whole {ad : Ad} (T : Txt K mg ad) : FnOk P w K mg base CX0 1 ad.a_law_whole ad.d_law_whole ["value"] (spWhole) := by
  refine T.F_law_whole.ok sc_law_whole (fun vs H Q E h => ?_) (fun cdv A outer s H vs Q E hr h => ?_)
  · obtain ⟨i, rfl, k⟩ := h
    rfl
  · obtain ⟨i, rfl, k⟩ := h
    refine ⟨_, (pss_one (ps_ret (pe_and (pe_callB (id := "isinstance") call_isi (by rfl) T.z_isinstance (by decide +kernel) (pa_cons (pv 0) (pa_cons (pe_bltn rfl T.z_int (by decide +kernel) (v := .ty "int") rfl) pa_nil))) (pe_one (pe_not (pe_callB (id := "isinstance") call_isi (by rfl) T.z_isinstance (by decide +kernel) (pa_cons (pv 0) (pa_cons (pe_bltn rfl T.z_bool (by decide +kernel) (v := .ty "bool") rfl) pa_nil)))))))), ?_⟩
    try dsimp only [L2.cxOf, L2.Cx.nox, L2.Cx.wish]
    change (_ : TS) _ ([some (.int i)] : St) _
    walk_at "rd"
    exact k

/-! ### things -/
def spCellI (C : Addr) : Sp := fun vs H Q _ => ∃ (x dx : Addr) (se mk ct : V), vs = [.ref x, se, mk, ct] ∧ H x = some (.ins C dx []) ∧ Q .non (upd H x (.ins C dx (fs_Cell se mk ct (.int 0) .non (.int 0))))
theorem ok_Cell_init_ {ad : Ad} (T : Txt K mg ad) : FnOk P w K mg base CX0 1 ad.a_Cell_init_ ad.d_Cell_init_ ["self", "serial", "maker", "content"] (spCellI ad.c_Cell) := by
  refine T.F_Cell_init_.ok sc_Cell_init_ (fun vs H Q E h => ?_) (fun cdv A outer s H vs Q E hr h => ?_)
  · obtain ⟨x, dx, se, mk, ct, rfl, hx, k⟩ := h
    rfl
  · obtain ⟨x, dx, se, mk, ct, rfl, hx, k⟩ := h
    refine ⟨_, (pss_cons (ps_fld (pv 0) (pv 1) rfl)
      (pss_cons (ps_fld (pv 0) (pv 2) rfl)
      (pss_cons (ps_fld (pv 0) (pv 3) rfl)
      (pss_cons (ps_fld (pv 0) pe_int rfl)
      (pss_cons (ps_fld (pv 0) pe_non rfl)
      (pss_one (ps_fld (pv 0) pe_int rfl))))))), ?_⟩
    try dsimp only [L2.cxOf, L2.Cx.nox, L2.Cx.wish]
    change (_ : TS) _ ([some (.ref x), some (se), some (mk), some (ct)] : St) _
    have cl_Cell := T.cl_Cell
    have n_Cell_content := T.n_Cell_content
    have n_Cell_link := T.n_Cell_link
    have n_Cell_maker := T.n_Cell_maker
    have n_Cell_place := T.n_Cell_place
    have n_Cell_references := T.n_Cell_references
    have n_Cell_serial := T.n_Cell_serial
    have cl_PlainHeap := T.cl_PlainHeap
    have n_PlainHeap_places := T.n_PlainHeap_places
    have n_PlainHeap_proxies := T.n_PlainHeap_proxies
    have n_PlainHeap_serials := T.n_PlainHeap_serials
    have cl_Proxy := T.cl_Proxy
    have n_Proxy_entry := T.n_Proxy_entry
    have n_Proxy_link := T.n_Proxy_link
    have n_Proxy_maker := T.n_Proxy_maker
    have n_Proxy_place := T.n_Proxy_place
    have n_Proxy_references := T.n_Proxy_references
    have n_Proxy_serial := T.n_Proxy_serial
    have cl_Service := T.cl_Service
    have n_Service_body := T.n_Service_body
    have n_Service_link := T.n_Service_link
    have n_Service_maker := T.n_Service_maker
    have n_Service_place := T.n_Service_place
    have n_Service_references := T.n_Service_references
    have n_Service_serial := T.n_Service_serial
    walk_at "rd"
    simp only [upd_upd, pf_Cell_serial, pf_Cell_maker, pf_Cell_content, pf_Cell_place, pf_Cell_link, pf_Cell_references]
    exact k
theorem x_Cell {C : Addr} {H : Hp} {Q : VK} {E : XK} {se mk ct : V} (q : ∀ x dx H', H x = none → Evl.Ex H H' → H' x = some (.ins C dx (fs_Cell se mk ct (.int 0) .non (.int 0))) → Q (.ref x) H') :
    Rd.xMk C (fun x H2 Q2 => spCellI C (x :: ([se, mk, ct] ++ [])) H2 Q2 E) H Q := Rd.xmk fun x dx H' e n hx =>
  ⟨x, dx, se, mk, ct, rfl, hx, rfl, q x dx _ n (Evl.Ex.mut e n) upd_same⟩
def spServiceI (C : Addr) : Sp := fun vs H Q _ => ∃ (x dx : Addr) (se mk bo : V), vs = [.ref x, se, mk, bo] ∧ H x = some (.ins C dx []) ∧ Q .non (upd H x (.ins C dx (fs_Service se mk bo (.int 0) .non (.int 0))))
theorem ok_Service_init_ {ad : Ad} (T : Txt K mg ad) : FnOk P w K mg base CX0 1 ad.a_Service_init_ ad.d_Service_init_ ["self", "serial", "maker", "body"] (spServiceI ad.c_Service) := by
  refine T.F_Service_init_.ok sc_Service_init_ (fun vs H Q E h => ?_) (fun cdv A outer s H vs Q E hr h => ?_)
  · obtain ⟨x, dx, se, mk, bo, rfl, hx, k⟩ := h
    rfl
  · obtain ⟨x, dx, se, mk, bo, rfl, hx, k⟩ := h
    refine ⟨_, (pss_cons (ps_fld (pv 0) (pv 1) rfl)
      (pss_cons (ps_fld (pv 0) (pv 2) rfl)
      (pss_cons (ps_fld (pv 0) (pv 3) rfl)
      (pss_cons (ps_fld (pv 0) pe_int rfl)
      (pss_cons (ps_fld (pv 0) pe_non rfl)
      (pss_one (ps_fld (pv 0) pe_int rfl))))))), ?_⟩
    try dsimp only [L2.cxOf, L2.Cx.nox, L2.Cx.wish]
    change (_ : TS) _ ([some (.ref x), some (se), some (mk), some (bo)] : St) _
    have cl_Cell := T.cl_Cell
    have n_Cell_content := T.n_Cell_content
    have n_Cell_link := T.n_Cell_link
    have n_Cell_maker := T.n_Cell_maker
    have n_Cell_place := T.n_Cell_place
    have n_Cell_references := T.n_Cell_references
    have n_Cell_serial := T.n_Cell_serial
    have cl_PlainHeap := T.cl_PlainHeap
    have n_PlainHeap_places := T.n_PlainHeap_places
    have n_PlainHeap_proxies := T.n_PlainHeap_proxies
    have n_PlainHeap_serials := T.n_PlainHeap_serials
    have cl_Proxy := T.cl_Proxy
    have n_Proxy_entry := T.n_Proxy_entry
    have n_Proxy_link := T.n_Proxy_link
    have n_Proxy_maker := T.n_Proxy_maker
    have n_Proxy_place := T.n_Proxy_place
    have n_Proxy_references := T.n_Proxy_references
    have n_Proxy_serial := T.n_Proxy_serial
    have cl_Service := T.cl_Service
    have n_Service_body := T.n_Service_body
    have n_Service_link := T.n_Service_link
    have n_Service_maker := T.n_Service_maker
    have n_Service_place := T.n_Service_place
    have n_Service_references := T.n_Service_references
    have n_Service_serial := T.n_Service_serial
    walk_at "rd"
    simp only [upd_upd, pf_Service_serial, pf_Service_maker, pf_Service_body, pf_Service_place, pf_Service_link, pf_Service_references]
    exact k
theorem x_Service {C : Addr} {H : Hp} {Q : VK} {E : XK} {se mk bo : V} (q : ∀ x dx H', H x = none → Evl.Ex H H' → H' x = some (.ins C dx (fs_Service se mk bo (.int 0) .non (.int 0))) → Q (.ref x) H') :
    Rd.xMk C (fun x H2 Q2 => spServiceI C (x :: ([se, mk, bo] ++ [])) H2 Q2 E) H Q := Rd.xmk fun x dx H' e n hx =>
  ⟨x, dx, se, mk, bo, rfl, hx, rfl, q x dx _ n (Evl.Ex.mut e n) upd_same⟩
def spProxyI (C : Addr) : Sp := fun vs H Q _ => ∃ (x dx : Addr) (en : V), vs = [.ref x, en] ∧ H x = some (.ins C dx []) ∧ Q .non (upd H x (.ins C dx (fs_Proxy .non .non en (.int 0) .non (.int 0))))
theorem ok_Proxy_init_ {ad : Ad} (T : Txt K mg ad) : FnOk P w K mg base CX0 1 ad.a_Proxy_init_ ad.d_Proxy_init_ ["self", "entry"] (spProxyI ad.c_Proxy) := by
  refine T.F_Proxy_init_.ok sc_Proxy_init_ (fun vs H Q E h => ?_) (fun cdv A outer s H vs Q E hr h => ?_)
  · obtain ⟨x, dx, en, rfl, hx, k⟩ := h
    rfl
  · obtain ⟨x, dx, en, rfl, hx, k⟩ := h
    refine ⟨_, (pss_cons (ps_fld (pv 0) pe_non rfl)
      (pss_cons (ps_fld (pv 0) pe_non rfl)
      (pss_cons (ps_fld (pv 0) (pv 1) rfl)
      (pss_cons (ps_fld (pv 0) pe_int rfl)
      (pss_cons (ps_fld (pv 0) pe_non rfl)
      (pss_one (ps_fld (pv 0) pe_int rfl))))))), ?_⟩
    try dsimp only [L2.cxOf, L2.Cx.nox, L2.Cx.wish]
    change (_ : TS) _ ([some (.ref x), some (en)] : St) _
    have cl_Cell := T.cl_Cell
    have n_Cell_content := T.n_Cell_content
    have n_Cell_link := T.n_Cell_link
    have n_Cell_maker := T.n_Cell_maker
    have n_Cell_place := T.n_Cell_place
    have n_Cell_references := T.n_Cell_references
    have n_Cell_serial := T.n_Cell_serial
    have cl_PlainHeap := T.cl_PlainHeap
    have n_PlainHeap_places := T.n_PlainHeap_places
    have n_PlainHeap_proxies := T.n_PlainHeap_proxies
    have n_PlainHeap_serials := T.n_PlainHeap_serials
    have cl_Proxy := T.cl_Proxy
    have n_Proxy_entry := T.n_Proxy_entry
    have n_Proxy_link := T.n_Proxy_link
    have n_Proxy_maker := T.n_Proxy_maker
    have n_Proxy_place := T.n_Proxy_place
    have n_Proxy_references := T.n_Proxy_references
    have n_Proxy_serial := T.n_Proxy_serial
    have cl_Service := T.cl_Service
    have n_Service_body := T.n_Service_body
    have n_Service_link := T.n_Service_link
    have n_Service_maker := T.n_Service_maker
    have n_Service_place := T.n_Service_place
    have n_Service_references := T.n_Service_references
    have n_Service_serial := T.n_Service_serial
    walk_at "rd"
    simp only [upd_upd, pf_Proxy_serial, pf_Proxy_maker, pf_Proxy_entry, pf_Proxy_place, pf_Proxy_link, pf_Proxy_references]
    exact k
theorem x_Proxy {C : Addr} {H : Hp} {Q : VK} {E : XK} {en : V} (q : ∀ x dx H', H x = none → Evl.Ex H H' → H' x = some (.ins C dx (fs_Proxy .non .non en (.int 0) .non (.int 0))) → Q (.ref x) H') :
    Rd.xMk C (fun x H2 Q2 => spProxyI C (x :: ([en] ++ [])) H2 Q2 E) H Q := Rd.xmk fun x dx H' e n hx =>
  ⟨x, dx, en, rfl, hx, rfl, q x dx _ n (Evl.Ex.mut e n) upd_same⟩
/-! ### a thing is put into a heap -/
structure HeapF (K : PySem.W.Frag) (H : Hp) (h p s q : Addr) (kp ks kq : List (Key × V)) : Prop where
  at_ : ∃ C dx fs, H h = some (.ins C dx fs) ∧ Cls K C ∧ NoAttr K C "places" ∧ NoAttr K C "serials" ∧ NoAttr K C "proxies" ∧ fs.lookup ("places" : Str) = some (.ref p) ∧ fs.lookup ("serials" : Str) = some (.ref s) ∧ fs.lookup ("proxies" : Str) = some (.ref q)
  hp : H p = some (.dK kp)
  hs : H s = some (.dK ks)
  hq : H q = some (.dK kq)
  ps : p ≠ s
  pq : p ≠ q
  sq : s ≠ q
  lp : kp.length ≤ 1000
  ls : ks.length ≤ 1000
  lq : kq.length ≤ 1000
theorem HeapF.keep {K : PySem.W.Frag} {H H' : Hp} {h p s q : Addr} {kp ks kq : List (Key × V)} (f : HeapF K H h p s q kp ks kq) (k : ∀ b o, (b = h ∨ b = p ∨ b = s ∨ b = q) → H b = some o → H' b = some o) : HeapF K H' h p s q kp ks kq := by
  obtain ⟨⟨C, dx, fs, g1, g2⟩, hp, hs, hq, ps, pq, sq, lp, ls, lq⟩ := f
  exact ⟨⟨C, dx, fs, k _ _ (.inl rfl) g1, g2⟩, k _ _ (.inr (.inl rfl)) hp, k _ _ (.inr (.inr (.inl rfl))) hs, k _ _ (.inr (.inr (.inr rfl))) hq, ps, pq, sq, lp, ls, lq⟩
theorem HeapF.mono {K : PySem.W.Frag} {H H' : Hp} {h p s q : Addr} {kp ks kq : List (Key × V)} (f : HeapF K H h p s q kp ks kq) (e : Evl.Ex H H') : HeapF K H' h p s q kp ks kq := f.keep fun b o _ x => e b o x
theorem HeapF.ne {K : PySem.W.Frag} {H : Hp} {h p s q t : Addr} {kp ks kq : List (Key × V)} (f : HeapF K H h p s q kp ks kq) (n : H t = none) : t ≠ h ∧ t ≠ p ∧ t ≠ s ∧ t ≠ q := by
  obtain ⟨⟨C, dx, fs, g1, g2⟩, hp, hs, hq, _⟩ := f
  exact ⟨fun z => (by rw [z, g1] at n; cases n), fun z => (by rw [z, hp] at n; cases n), fun z => (by rw [z, hs] at n; cases n), fun z => (by rw [z, hq] at n; cases n)⟩
/-- all but these stays -/
def But (xs : List Addr) (H H' : Hp) : Prop := ∀ b o, b ∉ xs → H b = some o → H' b = some o
/-- what put_in leaves: the thing t (its object u), in the heap at place n -/
structure PutOk (H H' : Hp) (t p s q r : Addr) (n : Int) (u : HO) (kp' ks' kq' : List (Key × V)) : Prop where
  at_t : H' t = some u
  at_p : H' p = some (.dK kp')
  at_s : H' s = some (.dK ks')
  at_q : H' q = some (.dK kq')
  at_r : H' r = some (.tup [.str "at", .int n])
  new_r : H r = none
  but : But [t, p, s, q] H H'
def spPutIn (cC cS cP : Addr) (K : PySem.W.Frag) : Sp := fun vs H Q _ => ∃ (h t p s q dt : Addr) (n : Int) (kp ks kq : List (Key × V)) (rf : V), vs = [.ref h, .ref t, .int n] ∧ HeapF K H h p s q kp ks kq ∧ h ≠ t ∧
  ((∃ (se : Int) (mk ct : V), H t = some (.ins cC dt (fs_Cell (.int se) mk ct (.int 0) .non rf)) ∧ ∀ r H', PutOk H H' t p s q r n (.ins cC dt (fs_Cell (.int se) mk ct (.int n) .non rf)) (putK kp (.inl n) (.ref t)) (putK ks (.inl se) (.int n)) kq → Q (.ref r) H') ∨
   (∃ (se : Int) (mk bo : V), H t = some (.ins cS dt (fs_Service (.int se) mk bo (.int 0) .non rf)) ∧ ∀ r H', PutOk H H' t p s q r n (.ins cS dt (fs_Service (.int se) mk bo (.int n) .non rf)) (putK kp (.inl n) (.ref t)) (putK ks (.inl se) (.int n)) kq → Q (.ref r) H') ∨
   (∃ (en : Int), H t = some (.ins cP dt (fs_Proxy .non .non (.int en) (.int 0) .non rf)) ∧ ∀ r H', PutOk H H' t p s q r n (.ins cP dt (fs_Proxy .non .non (.int en) (.int n) .non rf)) (putK kp (.inl n) (.ref t)) ks (putK kq (.inl en) (.int n)) → Q (.ref r) H'))
theorem put_ok {H H4 : Hp} {t p s q r : Addr} {n : Int} {u u0 : HO} {kp ks kp' ks' kq : List (Key × V)} (ht : H t = some u0) (htp : t ≠ p) (hts : t ≠ s) (htq : t ≠ q) (hp : H p = some (.dK kp)) (hs : H s = some (.dK ks)) (hq : H q = some (.dK kq)) (ps : p ≠ s) (pq : p ≠ q) (sq : s ≠ q)
    (e : Evl.Ex (upd (upd (upd H t u) p (.dK kp')) s (.dK ks')) H4) (nr : (upd (upd (upd H t u) p (.dK kp')) s (.dK ks')) r = none) (hr : H4 r = some (.tup [.str "at", .int n])) : PutOk H H4 t p s q r n u kp' ks' kq where
  at_t := e _ _ (by rw [upd_ne hts, upd_ne htp]; exact upd_same)
  at_p := e _ _ (by rw [upd_ne ps]; exact upd_same)
  at_s := e _ _ upd_same
  at_q := e _ _ (by rw [upd_ne (Ne.symm sq), upd_ne (Ne.symm pq), upd_ne (Ne.symm htq)]; exact hq)
  at_r := hr
  new_r := by
    have hrt : r ≠ t := fun z => by rw [z, upd_ne hts, upd_ne htp, upd_same] at nr; cases nr
    have hrs : r ≠ s := fun z => by rw [z, upd_same] at nr; cases nr
    have hrp : r ≠ p := fun z => by rw [z, upd_ne ps, upd_same] at nr; cases nr
    rw [upd_ne hrs, upd_ne hrp, upd_ne hrt] at nr; exact nr
  but := fun b o hb hbo => by
    simp only [List.mem_cons, List.not_mem_nil, or_false, not_or] at hb
    exact e _ _ (by rw [upd_ne hb.2.2.1, upd_ne hb.2.1, upd_ne hb.1]; exact hbo)
theorem ok_put_in {ad : Ad} (T : Txt K mg ad) : FnOk P w K mg base CX0 1 ad.a_put_in ad.d_put_in ["heap", "thing", "place"] (spPutIn ad.c_Cell ad.c_Service ad.c_Proxy K) := by
  refine T.F_put_in.ok sc_put_in (fun vs H Q E h => ?_) (fun cdv A outer s H vs Q E hr h => ?_)
  · obtain ⟨h, t, p, s1, q, dt, n, kp, ks, kq, rf, rfl, hF, hht, hk⟩ := h
    rfl
  · obtain ⟨h, t, p, s1, q, dt, n, kp, ks, kq, rf, rfl, hF, hht, hk⟩ := h
    refine ⟨_, (pss_cons (ps_fld (pv 1) (pv 2) rfl)
      (pss_cons (ps_dput (hu_of hr) (pe_fld (pv 0) rfl) (pv 2) (pv 1) rfl)
      (pss_cons (ps_if (pt_val (pe_callB (id := "isinstance") call_isi (by rfl) T.z_isinstance (by decide +kernel) (pa_cons (pv 1) (pa_cons (pe_glob (v := .ref ad.c_Proxy) rfl T.mg_Proxy rfl) pa_nil)))) (pss_one (ps_dput (hu_of hr) (pe_fld (pv 0) rfl) (pe_fld (pv 1) rfl) (pv 2) rfl)) (pss_one (ps_dput (hu_of hr) (pe_fld (pv 0) rfl) (pe_fld (pv 1) rfl) (pv 2) rfl)))
      (pss_one (ps_ret (pe_tup (pa_cons pe_str (pa_cons (pv 2) pa_nil)))))))), ?_⟩
    try dsimp only [L2.cxOf, L2.Cx.nox, L2.Cx.wish]
    change (_ : TS) _ ([some (.ref h), some (.ref t), some (.int n)] : St) _
    have cl_Cell := T.cl_Cell
    have n_Cell_content := T.n_Cell_content
    have n_Cell_link := T.n_Cell_link
    have n_Cell_maker := T.n_Cell_maker
    have n_Cell_place := T.n_Cell_place
    have n_Cell_references := T.n_Cell_references
    have n_Cell_serial := T.n_Cell_serial
    have cl_PlainHeap := T.cl_PlainHeap
    have n_PlainHeap_places := T.n_PlainHeap_places
    have n_PlainHeap_proxies := T.n_PlainHeap_proxies
    have n_PlainHeap_serials := T.n_PlainHeap_serials
    have cl_Proxy := T.cl_Proxy
    have n_Proxy_entry := T.n_Proxy_entry
    have n_Proxy_link := T.n_Proxy_link
    have n_Proxy_maker := T.n_Proxy_maker
    have n_Proxy_place := T.n_Proxy_place
    have n_Proxy_references := T.n_Proxy_references
    have n_Proxy_serial := T.n_Proxy_serial
    have cl_Service := T.cl_Service
    have n_Service_body := T.n_Service_body
    have n_Service_link := T.n_Service_link
    have n_Service_maker := T.n_Service_maker
    have n_Service_place := T.n_Service_place
    have n_Service_references := T.n_Service_references
    have n_Service_serial := T.n_Service_serial
    obtain ⟨⟨Ch, dh, fh, hh, hcl, hn1, hn2, hn3, hl1, hl2, hl3⟩, hp, hs, hq, ps, pq, sq, lp, ls, lq⟩ := hF
    rcases hk with ⟨se, mk, ct, ht, k⟩ | ⟨se, mk, bo, ht, k⟩ | ⟨en, ht, k⟩
    · have htp : t ≠ p := ne_of ht hp (by intro z; cases z)
      have hts : t ≠ s1 := ne_of ht hs (by intro z; cases z)
      have htq : t ≠ q := ne_of ht hq (by intro z; cases z)
      have hhp : h ≠ p := ne_of hh hp (by intro z; cases z)
      walk_at "rd"
      rw [st_Cell_place]
      have hh1 : (upd H t (.ins ad.c_Cell dt (fs_Cell (.int se) mk ct (.int n) .non rf))) h = some (.ins Ch dh fh) := by rw [upd_ne hht]; exact hh
      refine Rd.rfld hh1 hcl hn1 hl1 ?_
      walk_at "rd"
      refine Rd.xdput (kvs := kp) (by rw [upd_ne (Ne.symm htp)]; exact hp) (by omega) ?_
      walk_at "rd"
      refine Rd.isiOwn ((upd_ne htp).trans upd_same) T.cl_Cell T.is_Cell T.is_get T.is_tk T.io_Cell T.kt_Cell_Proxy ?_
      walk_at "rd"
      refine Rd.rfld ((upd_ne hhp).trans hh1) hcl hn2 hl2 ?_
      walk_at "rd"
      refine Rd.xdput (kvs := ks) (by rw [upd_ne (Ne.symm ps), upd_ne (Ne.symm hts)]; exact hs) (by omega) ?_
      walk_at "rd"
      refine Rd.xtup rfl fun r H4 n4 e4 hr => ?_
      exact k r H4 (put_ok ht htp hts htq hp hs hq ps pq sq e4 n4 hr)
    · have htp : t ≠ p := ne_of ht hp (by intro z; cases z)
      have hts : t ≠ s1 := ne_of ht hs (by intro z; cases z)
      have htq : t ≠ q := ne_of ht hq (by intro z; cases z)
      have hhp : h ≠ p := ne_of hh hp (by intro z; cases z)
      walk_at "rd"
      rw [st_Service_place]
      have hh1 : (upd H t (.ins ad.c_Service dt (fs_Service (.int se) mk bo (.int n) .non rf))) h = some (.ins Ch dh fh) := by rw [upd_ne hht]; exact hh
      refine Rd.rfld hh1 hcl hn1 hl1 ?_
      walk_at "rd"
      refine Rd.xdput (kvs := kp) (by rw [upd_ne (Ne.symm htp)]; exact hp) (by omega) ?_
      walk_at "rd"
      refine Rd.isiOwn ((upd_ne htp).trans upd_same) T.cl_Service T.is_Service T.is_get T.is_tk T.io_Service T.kt_Service_Proxy ?_
      walk_at "rd"
      refine Rd.rfld ((upd_ne hhp).trans hh1) hcl hn2 hl2 ?_
      walk_at "rd"
      refine Rd.xdput (kvs := ks) (by rw [upd_ne (Ne.symm ps), upd_ne (Ne.symm hts)]; exact hs) (by omega) ?_
      walk_at "rd"
      refine Rd.xtup rfl fun r H4 n4 e4 hr => ?_
      exact k r H4 (put_ok ht htp hts htq hp hs hq ps pq sq e4 n4 hr)
    · have htp : t ≠ p := ne_of ht hp (by intro z; cases z)
      have hts : t ≠ s1 := ne_of ht hs (by intro z; cases z)
      have htq : t ≠ q := ne_of ht hq (by intro z; cases z)
      have hhp : h ≠ p := ne_of hh hp (by intro z; cases z)
      walk_at "rd"
      rw [st_Proxy_place]
      have hh1 : (upd H t (.ins ad.c_Proxy dt (fs_Proxy .non .non (.int en) (.int n) .non rf))) h = some (.ins Ch dh fh) := by rw [upd_ne hht]; exact hh
      refine Rd.rfld hh1 hcl hn1 hl1 ?_
      walk_at "rd"
      refine Rd.xdput (kvs := kp) (by rw [upd_ne (Ne.symm htp)]; exact hp) (by omega) ?_
      walk_at "rd"
      refine Rd.isiOwn ((upd_ne htp).trans upd_same) T.cl_Proxy T.is_Proxy T.is_get T.is_tk T.io_Proxy T.kt_Proxy_Proxy ?_
      walk_at "rd"
      refine Rd.rfld ((upd_ne hhp).trans hh1) hcl hn3 hl3 ?_
      walk_at "rd"
      refine Rd.xdput (kvs := kq) (by rw [upd_ne (Ne.symm pq), upd_ne (Ne.symm htq)]; exact hq) (by omega) ?_
      walk_at "rd"
      refine Rd.xtup rfl fun r H4 n4 e4 hr => ?_
      have g := put_ok ht htp htq hts hp hq hs pq ps (Ne.symm sq) e4 n4 hr
      refine k r H4 ⟨g.at_t, g.at_p, g.at_q, g.at_s, g.at_r, g.new_r, fun b o hb hbo => g.but b o (fun z => hb ?_) hbo⟩
      simp only [List.mem_cons, List.not_mem_nil, or_false] at z ⊢
      rcases z with z | z | z | z
      · exact .inl z
      · exact .inr (.inl z)
      · exact .inr (.inr (.inr z))
      · exact .inr (.inr (.inl z))

/-! split -/
/-! ### the heaps -/
def spHeapI (C : Addr) (mk : V → V → V → V → List (Str × V)) : Sp := fun vs H Q _ => ∃ (x dx : Addr), vs = [.ref x] ∧ H x = some (.ins C dx []) ∧
  ∀ p s q v H', H p = none → H s = none → H q = none → p ≠ s → p ≠ q → s ≠ q → H' x = some (.ins C dx (mk (.ref p) (.ref s) (.ref q) (.ref v))) → H' p = some (.dK []) → H' s = some (.dK []) → H' q = some (.dK []) → H' v = some (.lst []) → But [x] H H' → Q .non H'
def spHeapI3 (C : Addr) (mk : V → V → V → List (Str × V)) : Sp := fun vs H Q _ => ∃ (x dx : Addr), vs = [.ref x] ∧ H x = some (.ins C dx []) ∧
  ∀ p s q H', H p = none → H s = none → H q = none → p ≠ s → p ≠ q → s ≠ q → H' x = some (.ins C dx (mk (.ref p) (.ref s) (.ref q))) → H' p = some (.dK []) → H' s = some (.dK []) → H' q = some (.dK []) → But [x] H H' → Q .non H'
def mkT (a b c : V) : List (Str × V) := fs_TracedHeap a b c (.int 0) (.int 0)
theorem ok_PlainHeap_init_ {ad : Ad} (T : Txt K mg ad) : FnOk P w K mg base CX0 1 ad.a_PlainHeap_init_ ad.d_PlainHeap_init_ ["self"] (spHeapI3 ad.c_PlainHeap fs_PlainHeap) := by
  refine T.F_PlainHeap_init_.ok sc_PlainHeap_init_ (fun vs H Q E h => ?_) (fun cdv A outer s H vs Q E hr h => ?_)
  · obtain ⟨x, dx, rfl, hx, k⟩ := h
    rfl
  · obtain ⟨x, dx, rfl, hx, k⟩ := h
    refine ⟨_, (pss_cons (ps_fld (pv 0) pe_dnewK rfl)
      (pss_cons (ps_fld (pv 0) pe_dnewK rfl)
      (pss_one (ps_fld (pv 0) pe_dnewK rfl)))), ?_⟩
    try dsimp only [L2.cxOf, L2.Cx.nox, L2.Cx.wish]
    change (_ : TS) _ ([some (.ref x)] : St) _
    have cl_Cell := T.cl_Cell
    have n_Cell_content := T.n_Cell_content
    have n_Cell_link := T.n_Cell_link
    have n_Cell_maker := T.n_Cell_maker
    have n_Cell_place := T.n_Cell_place
    have n_Cell_references := T.n_Cell_references
    have n_Cell_serial := T.n_Cell_serial
    have cl_PlainHeap := T.cl_PlainHeap
    have n_PlainHeap_places := T.n_PlainHeap_places
    have n_PlainHeap_proxies := T.n_PlainHeap_proxies
    have n_PlainHeap_serials := T.n_PlainHeap_serials
    have cl_Proxy := T.cl_Proxy
    have n_Proxy_entry := T.n_Proxy_entry
    have n_Proxy_link := T.n_Proxy_link
    have n_Proxy_maker := T.n_Proxy_maker
    have n_Proxy_place := T.n_Proxy_place
    have n_Proxy_references := T.n_Proxy_references
    have n_Proxy_serial := T.n_Proxy_serial
    have cl_Service := T.cl_Service
    have n_Service_body := T.n_Service_body
    have n_Service_link := T.n_Service_link
    have n_Service_maker := T.n_Service_maker
    have n_Service_place := T.n_Service_place
    have n_Service_references := T.n_Service_references
    have n_Service_serial := T.n_Service_serial
    walk_at "rd"
    refine Rd.dnewE fun p H1 np e1 hp => ?_
    have hx1 := e1 _ _ hx
    have px : p ≠ x := fun z => by rw [z, hx] at np; cases np
    walk_at "rd"
    refine Rd.dnewE fun s1 H2 ns e2 hs => ?_
    have hx2 := e2 _ _ upd_same
    have hp2 := e2 _ _ ((upd_ne px).trans hp)
    have sx : s1 ≠ x := fun z => by rw [z, upd_same] at ns; cases ns
    have sp1 : s1 ≠ p := fun z => by rw [z, upd_ne px, hp] at ns; cases ns
    have ns' : H1 s1 = none := by rw [upd_ne sx] at ns; exact ns
    walk_at "rd"
    refine Rd.dnewE fun q H3 nq e3 hq => ?_
    have hx3 := e3 _ _ upd_same
    have hp3 := e3 _ _ ((upd_ne px).trans hp2)
    have hs3 := e3 _ _ ((upd_ne sx).trans hs)
    have qx : q ≠ x := fun z => by rw [z, upd_same] at nq; cases nq
    have qp : q ≠ p := fun z => by rw [z, upd_ne px, hp2] at nq; cases nq
    have qs : q ≠ s1 := fun z => by rw [z, upd_ne sx, hs] at nq; cases nq
    have nq' : H2 q = none := by rw [upd_ne qx] at nq; exact nq
    walk_at "rd"
    have back1 : ∀ b, H2 b = none → b ≠ x → H1 b = none := fun b n bx => by have z := Evl.fresh_back e2 n; rw [upd_ne bx] at z; exact z
    simp only [upd_upd, pf_PlainHeap_places, pf_PlainHeap_serials, pf_PlainHeap_proxies]
    refine k p s1 q _ np (Evl.fresh_back e1 ns') (Evl.fresh_back e1 (back1 q nq' qx)) (Ne.symm sp1) (Ne.symm qp) (Ne.symm qs) upd_same ((upd_ne px).trans hp3) ((upd_ne sx).trans hs3) ((upd_ne qx).trans hq) fun b o hb hbo => ?_
    simp only [List.mem_cons, List.not_mem_nil, or_false] at hb
    exact (upd_ne hb).trans (e3 _ _ ((upd_ne hb).trans (e2 _ _ ((upd_ne hb).trans (e1 _ _ hbo)))))
def spThing (K : PySem.W.Frag) : Sp := fun vs H Q _ => ∃ (h p s q r : Addr) (n : Int) (kp ks kq : List (Key × V)) (t : V), vs = [.ref h, .ref r] ∧ HeapF K H h p s q kp ks kq ∧ H r = some (.tup [.str "at", .int n]) ∧ valV kp (.inl n) = some t ∧ Q t H
def spWhere (K : PySem.W.Frag) : Sp := fun vs H Q _ => ∃ (h p s q : Addr) (n : Int) (kp ks kq : List (Key × V)), vs = [.ref h, .int n] ∧ HeapF K H h p s q kp ks kq ∧ Q ((valV ks (.inl n)).getD .non) H
def spWhereP (K : PySem.W.Frag) : Sp := fun vs H Q _ => ∃ (h p s q : Addr) (n : Int) (kp ks kq : List (Key × V)), vs = [.ref h, .int n] ∧ HeapF K H h p s q kp ks kq ∧ Q ((valV kq (.inl n)).getD .non) H
theorem ok_PlainHeap_thing {ad : Ad} (T : Txt K mg ad) : FnOk P w K mg base CX0 1 ad.a_PlainHeap_thing ad.d_PlainHeap_thing ["self", "reference"] (spThing K) := by
  refine T.F_PlainHeap_thing.ok sc_PlainHeap_thing (fun vs H Q E h => ?_) (fun cdv A outer s H vs Q E hr h => ?_)
  · obtain ⟨h, p, s1, q, r, n, kp, ks, kq, t, rfl, ⟨⟨Ch, dh, fh, hh, hcl, hn1, hn2, hn3, hl1, hl2, hl3⟩, hp, _⟩, hr1, hv, k⟩ := h
    rfl
  · obtain ⟨h, p, s1, q, r, n, kp, ks, kq, t, rfl, ⟨⟨Ch, dh, fh, hh, hcl, hn1, hn2, hn3, hl1, hl2, hl3⟩, hp, _⟩, hr1, hv, k⟩ := h
    refine ⟨_, (pss_one (ps_ret (pe_dget (hu_of hr) (pe_fld (pv 0) rfl) (pe_ix ix_tup (pv 1) pe_int (fun _ _ => rfl)) (fun _ _ => rfl)))), ?_⟩
    try dsimp only [L2.cxOf, L2.Cx.nox, L2.Cx.wish]
    change (_ : TS) _ ([some (.ref h), some (.ref r)] : St) _
    have cl_Cell := T.cl_Cell
    have n_Cell_content := T.n_Cell_content
    have n_Cell_link := T.n_Cell_link
    have n_Cell_maker := T.n_Cell_maker
    have n_Cell_place := T.n_Cell_place
    have n_Cell_references := T.n_Cell_references
    have n_Cell_serial := T.n_Cell_serial
    have cl_PlainHeap := T.cl_PlainHeap
    have n_PlainHeap_places := T.n_PlainHeap_places
    have n_PlainHeap_proxies := T.n_PlainHeap_proxies
    have n_PlainHeap_serials := T.n_PlainHeap_serials
    have cl_Proxy := T.cl_Proxy
    have n_Proxy_entry := T.n_Proxy_entry
    have n_Proxy_link := T.n_Proxy_link
    have n_Proxy_maker := T.n_Proxy_maker
    have n_Proxy_place := T.n_Proxy_place
    have n_Proxy_references := T.n_Proxy_references
    have n_Proxy_serial := T.n_Proxy_serial
    have cl_Service := T.cl_Service
    have n_Service_body := T.n_Service_body
    have n_Service_link := T.n_Service_link
    have n_Service_maker := T.n_Service_maker
    have n_Service_place := T.n_Service_place
    have n_Service_references := T.n_Service_references
    have n_Service_serial := T.n_Service_serial
    walk_at "rd"
    refine Rd.rfld hh hcl hn1 hl1 ?_
    walk_at "rd"
    exact Rd.xdget hp hv k
theorem ok_PlainHeap_where {ad : Ad} (T : Txt K mg ad) : FnOk P w K mg base CX0 1 ad.a_PlainHeap_where ad.d_PlainHeap_where ["self", "serial"] (spWhere K) := by
  refine T.F_PlainHeap_where.ok sc_PlainHeap_where (fun vs H Q E h => ?_) (fun cdv A outer s H vs Q E hr h => ?_)
  · obtain ⟨h, p, s1, q, n, kp, ks, kq, rfl, ⟨⟨Ch, dh, fh, hh, hcl, hn1, hn2, hn3, hl1, hl2, hl3⟩, hp, hs, _⟩, k⟩ := h
    rfl
  · obtain ⟨h, p, s1, q, n, kp, ks, kq, rfl, ⟨⟨Ch, dh, fh, hh, hcl, hn1, hn2, hn3, hl1, hl2, hl3⟩, hp, hs, _⟩, k⟩ := h
    refine ⟨_, (pss_one (ps_ret (pe_dget1 (hu_of hr) (pe_fld (pv 0) rfl) (pv 1) ⟨by rfl, by rfl, by rfl, by rfl⟩))), ?_⟩
    try dsimp only [L2.cxOf, L2.Cx.nox, L2.Cx.wish]
    change (_ : TS) _ ([some (.ref h), some (.int n)] : St) _
    have cl_Cell := T.cl_Cell
    have n_Cell_content := T.n_Cell_content
    have n_Cell_link := T.n_Cell_link
    have n_Cell_maker := T.n_Cell_maker
    have n_Cell_place := T.n_Cell_place
    have n_Cell_references := T.n_Cell_references
    have n_Cell_serial := T.n_Cell_serial
    have cl_PlainHeap := T.cl_PlainHeap
    have n_PlainHeap_places := T.n_PlainHeap_places
    have n_PlainHeap_proxies := T.n_PlainHeap_proxies
    have n_PlainHeap_serials := T.n_PlainHeap_serials
    have cl_Proxy := T.cl_Proxy
    have n_Proxy_entry := T.n_Proxy_entry
    have n_Proxy_link := T.n_Proxy_link
    have n_Proxy_maker := T.n_Proxy_maker
    have n_Proxy_place := T.n_Proxy_place
    have n_Proxy_references := T.n_Proxy_references
    have n_Proxy_serial := T.n_Proxy_serial
    have cl_Service := T.cl_Service
    have n_Service_body := T.n_Service_body
    have n_Service_link := T.n_Service_link
    have n_Service_maker := T.n_Service_maker
    have n_Service_place := T.n_Service_place
    have n_Service_references := T.n_Service_references
    have n_Service_serial := T.n_Service_serial
    walk_at "rd"
    refine Rd.rfld hh hcl hn2 hl2 ?_
    walk_at "rd"
    exact Rd.xdo hs rfl k
theorem ok_PlainHeap_where_proxy {ad : Ad} (T : Txt K mg ad) : FnOk P w K mg base CX0 1 ad.a_PlainHeap_where_proxy ad.d_PlainHeap_where_proxy ["self", "entry"] (spWhereP K) := by
  refine T.F_PlainHeap_where_proxy.ok sc_PlainHeap_where_proxy (fun vs H Q E h => ?_) (fun cdv A outer s H vs Q E hr h => ?_)
  · obtain ⟨h, p, s1, q, n, kp, ks, kq, rfl, ⟨⟨Ch, dh, fh, hh, hcl, hn1, hn2, hn3, hl1, hl2, hl3⟩, hp, hs, hq, _⟩, k⟩ := h
    rfl
  · obtain ⟨h, p, s1, q, n, kp, ks, kq, rfl, ⟨⟨Ch, dh, fh, hh, hcl, hn1, hn2, hn3, hl1, hl2, hl3⟩, hp, hs, hq, _⟩, k⟩ := h
    refine ⟨_, (pss_one (ps_ret (pe_dget1 (hu_of hr) (pe_fld (pv 0) rfl) (pv 1) ⟨by rfl, by rfl, by rfl, by rfl⟩))), ?_⟩
    try dsimp only [L2.cxOf, L2.Cx.nox, L2.Cx.wish]
    change (_ : TS) _ ([some (.ref h), some (.int n)] : St) _
    have cl_Cell := T.cl_Cell
    have n_Cell_content := T.n_Cell_content
    have n_Cell_link := T.n_Cell_link
    have n_Cell_maker := T.n_Cell_maker
    have n_Cell_place := T.n_Cell_place
    have n_Cell_references := T.n_Cell_references
    have n_Cell_serial := T.n_Cell_serial
    have cl_PlainHeap := T.cl_PlainHeap
    have n_PlainHeap_places := T.n_PlainHeap_places
    have n_PlainHeap_proxies := T.n_PlainHeap_proxies
    have n_PlainHeap_serials := T.n_PlainHeap_serials
    have cl_Proxy := T.cl_Proxy
    have n_Proxy_entry := T.n_Proxy_entry
    have n_Proxy_link := T.n_Proxy_link
    have n_Proxy_maker := T.n_Proxy_maker
    have n_Proxy_place := T.n_Proxy_place
    have n_Proxy_references := T.n_Proxy_references
    have n_Proxy_serial := T.n_Proxy_serial
    have cl_Service := T.cl_Service
    have n_Service_body := T.n_Service_body
    have n_Service_link := T.n_Service_link
    have n_Service_maker := T.n_Service_maker
    have n_Service_place := T.n_Service_place
    have n_Service_references := T.n_Service_references
    have n_Service_serial := T.n_Service_serial
    walk_at "rd"
    refine Rd.rfld hh hcl hn3 hl3 ?_
    walk_at "rd"
    exact Rd.xdo hq rfl k
/-- a heap of a class with n things -/
def St_CountedHeap (C : Addr) (H : Hp) (h p s q : Addr) (n : Nat) : Prop := ∃ dx v, H h = some (.ins C dx (fs_CountedHeap (.ref p) (.ref s) (.ref q) (.ref v))) ∧ H v = some (.lst [])
def St_TracedHeap (C : Addr) (H : Hp) (h p s q : Addr) (n : Nat) : Prop := ∃ dx, H h = some (.ins C dx (fs_TracedHeap (.ref p) (.ref s) (.ref q) (.int 0) (.int n)))
def St_PlainHeap (C : Addr) (H : Hp) (h p s q : Addr) (n : Nat) : Prop := ∃ dx, H h = some (.ins C dx (fs_PlainHeap (.ref p) (.ref s) (.ref q)))
structure Made (H H' : Hp) (h t p s q r : Addr) (n : Int) (u : HO) (kp' ks' kq' : List (Key × V)) : Prop where
  at_t : H' t = some u
  at_p : H' p = some (.dK kp')
  at_s : H' s = some (.dK ks')
  at_q : H' q = some (.dK kq')
  at_r : H' r = some (.tup [.str "at", .int n])
  nt : H t = none
  nr : H r = none
  but : But [h, p, s, q] H H'
theorem made_of {H H1 H' : Hp} {h t p s q r : Addr} {n : Int} {u : HO} {kp' ks' kq' : List (Key × V)} (nt : H t = none) (k1 : ∀ b o, b ∉ [h, p, s, q] → H b = some o → H1 b = some o) (nr : H1 r = none → H r = none) (g : PutOk H1 H' t p s q r n u kp' ks' kq') : Made H H' h t p s q r n u kp' ks' kq' :=
  ⟨g.at_t, g.at_p, g.at_s, g.at_q, g.at_r, nt, nr g.new_r, fun b o hb hbo => g.but b o (fun z => by
    simp only [List.mem_cons, List.not_mem_nil, or_false, not_or] at z hb
    rcases z with z | z | z | z
    · rw [z, nt] at hbo; cases hbo
    · exact hb.2.1 z
    · exact hb.2.2.1 z
    · exact hb.2.2.2 z) (k1 b o hb hbo)⟩
def spAdd (cH cC cS cP : Addr) (K : PySem.W.Frag) : Sp := fun vs H Q _ => ∃ (h t p s q dt dh v : Addr) (kp ks kq : List (Key × V)), vs = [.ref h, .ref t] ∧ HeapF K H h p s q kp ks kq ∧ H h = some (.ins cH dh (fs_CountedHeap (.ref p) (.ref s) (.ref q) (.ref v))) ∧ H v = some (.lst []) ∧ h ≠ t ∧
  ((∃ (se : Int) (mk ct : V), H t = some (.ins cC dt (fs_Cell (.int se) mk ct (.int 0) .non (.int 0))) ∧ ∀ r H', PutOk H H' t p s q r kp.length (.ins cC dt (fs_Cell (.int se) mk ct (.int kp.length) .non (.int 1))) (putK kp (.inl kp.length) (.ref t)) (putK ks (.inl se) (.int kp.length)) kq → Q (.ref r) H') ∨
   (∃ (se : Int) (mk bo : V), H t = some (.ins cS dt (fs_Service (.int se) mk bo (.int 0) .non (.int 0))) ∧ ∀ r H', PutOk H H' t p s q r kp.length (.ins cS dt (fs_Service (.int se) mk bo (.int kp.length) .non (.int 1))) (putK kp (.inl kp.length) (.ref t)) (putK ks (.inl se) (.int kp.length)) kq → Q (.ref r) H') ∨
   (∃ (en : Int), H t = some (.ins cP dt (fs_Proxy .non .non (.int en) (.int 0) .non (.int 0))) ∧ ∀ r H', PutOk H H' t p s q r kp.length (.ins cP dt (fs_Proxy .non .non (.int en) (.int kp.length) .non (.int 1))) (putK kp (.inl kp.length) (.ref t)) ks (putK kq (.inl en) (.int kp.length)) → Q (.ref r) H'))
theorem put_upd {H H' : Hp} {t p s q r : Addr} {n : Int} {u o : HO} {kp' ks' kq' : List (Key × V)} {C d : Addr} {fs : List (Str × V)} (ht : H t = some (.ins C d fs)) (g : PutOk (upd H t o) H' t p s q r n u kp' ks' kq') : PutOk H H' t p s q r n u kp' ks' kq' where
  at_t := g.at_t
  at_p := g.at_p
  at_s := g.at_s
  at_q := g.at_q
  at_r := g.at_r
  new_r := by
    have z := g.new_r
    by_cases e : r = t
    · rw [e, upd_same] at z; cases z
    · rw [upd_ne e] at z; exact z
  but := fun b o' hb hbo => g.but b o' hb (by rw [upd_ne (fun z => hb (by rw [z]; exact List.mem_cons_self))]; exact hbo)
/-- making a thing: what is asked ahead -/
def Ahead (K : PySem.W.Frag) (H : Hp) (h p s q : Addr) (n m : Nat) (kp ks kq : List (Key × V)) : Prop := HeapF K H h p s q kp ks kq ∧ kp.length = n ∧ valV kp (.inl (m : Int)) = none
def sp_CountedHeap_make_cell (cH ad_C : Addr) (K : PySem.W.Frag) : Sp := fun vs H Q _ => ∃ (h p s q : Addr) (n : Nat) (kp ks kq : List (Key × V)) (se : Int) (mk ct : V), vs = [.ref h, .int se, mk, ct] ∧ Ahead K H h p s q n n kp ks kq ∧ St_CountedHeap cH H h p s q n ∧
  ∀ t dt r H', Made H H' h t p s q r (n : Nat) (.ins ad_C dt (fs_Cell (.int se) mk ct (.int (n : Nat)) .non (.int 1))) (putK kp (.inl (n : Nat)) (.ref t)) (putK ks (.inl se) (.int (n : Nat))) kq → St_CountedHeap cH H' h p s q (n + 1) → Q (.ref r) H'
def sp_CountedHeap_make_service (cH ad_C : Addr) (K : PySem.W.Frag) : Sp := fun vs H Q _ => ∃ (h p s q : Addr) (n : Nat) (kp ks kq : List (Key × V)) (se : Int) (mk bo : V), vs = [.ref h, .int se, mk, bo] ∧ Ahead K H h p s q n n kp ks kq ∧ St_CountedHeap cH H h p s q n ∧
  ∀ t dt r H', Made H H' h t p s q r (n : Nat) (.ins ad_C dt (fs_Service (.int se) mk bo (.int (n : Nat)) .non (.int 1))) (putK kp (.inl (n : Nat)) (.ref t)) (putK ks (.inl se) (.int (n : Nat))) kq → St_CountedHeap cH H' h p s q (n + 1) → Q (.ref r) H'
def sp_CountedHeap_make_proxy (cH ad_C : Addr) (K : PySem.W.Frag) : Sp := fun vs H Q _ => ∃ (h p s q : Addr) (n : Nat) (kp ks kq : List (Key × V)) (en : Int), vs = [.ref h, .int en] ∧ Ahead K H h p s q n n kp ks kq ∧ St_CountedHeap cH H h p s q n ∧
  ∀ t dt r H', Made H H' h t p s q r (n : Nat) (.ins ad_C dt (fs_Proxy .non .non (.int en) (.int (n : Nat)) .non (.int 1))) (putK kp (.inl (n : Nat)) (.ref t)) ks (putK kq (.inl en) (.int (n : Nat))) → St_CountedHeap cH H' h p s q (n + 1) → Q (.ref r) H'
def sp_TracedHeap_make_cell (cH ad_C : Addr) (K : PySem.W.Frag) : Sp := fun vs H Q _ => ∃ (h p s q : Addr) (n : Nat) (kp ks kq : List (Key × V)) (se : Int) (mk ct : V), vs = [.ref h, .int se, mk, ct] ∧ Ahead K H h p s q n (2 * n) kp ks kq ∧ St_TracedHeap cH H h p s q n ∧
  ∀ t dt r H', Made H H' h t p s q r ((2 * n) : Nat) (.ins ad_C dt (fs_Cell (.int se) mk ct (.int ((2 * n) : Nat)) .non (.int 0))) (putK kp (.inl ((2 * n) : Nat)) (.ref t)) (putK ks (.inl se) (.int ((2 * n) : Nat))) kq → St_TracedHeap cH H' h p s q (n + 1) → Q (.ref r) H'
def spNewPlace (cH : Addr) (K : PySem.W.Frag) : Sp := fun vs H Q _ => ∃ (h p s q dh : Addr) (n : Nat) (kp : List (Key × V)), vs = [.ref h] ∧ H h = some (.ins cH dh (fs_TracedHeap (.ref p) (.ref s) (.ref q) (.int 0) (.int n))) ∧ H p = some (.dK kp) ∧ valV kp (.inl ((2 * n : Nat) : Int)) = none ∧
  Q (.int ((2 * n : Nat) : Int)) (upd H h (.ins cH dh (fs_TracedHeap (.ref p) (.ref s) (.ref q) (.int 0) (.int (n + 1 : Nat)))))
def sp_TracedHeap_make_service (cH ad_C : Addr) (K : PySem.W.Frag) : Sp := fun vs H Q _ => ∃ (h p s q : Addr) (n : Nat) (kp ks kq : List (Key × V)) (se : Int) (mk bo : V), vs = [.ref h, .int se, mk, bo] ∧ Ahead K H h p s q n (2 * n) kp ks kq ∧ St_TracedHeap cH H h p s q n ∧
  ∀ t dt r H', Made H H' h t p s q r ((2 * n) : Nat) (.ins ad_C dt (fs_Service (.int se) mk bo (.int ((2 * n) : Nat)) .non (.int 0))) (putK kp (.inl ((2 * n) : Nat)) (.ref t)) (putK ks (.inl se) (.int ((2 * n) : Nat))) kq → St_TracedHeap cH H' h p s q (n + 1) → Q (.ref r) H'
def sp_TracedHeap_make_proxy (cH ad_C : Addr) (K : PySem.W.Frag) : Sp := fun vs H Q _ => ∃ (h p s q : Addr) (n : Nat) (kp ks kq : List (Key × V)) (en : Int), vs = [.ref h, .int en] ∧ Ahead K H h p s q n (2 * n) kp ks kq ∧ St_TracedHeap cH H h p s q n ∧
  ∀ t dt r H', Made H H' h t p s q r ((2 * n) : Nat) (.ins ad_C dt (fs_Proxy .non .non (.int en) (.int ((2 * n) : Nat)) .non (.int 0))) (putK kp (.inl ((2 * n) : Nat)) (.ref t)) ks (putK kq (.inl en) (.int ((2 * n) : Nat))) → St_TracedHeap cH H' h p s q (n + 1) → Q (.ref r) H'
def sp_PlainHeap_make_cell (cH ad_C : Addr) (K : PySem.W.Frag) : Sp := fun vs H Q _ => ∃ (h p s q : Addr) (n : Nat) (kp ks kq : List (Key × V)) (se : Int) (mk ct : V), vs = [.ref h, .int se, mk, ct] ∧ Ahead K H h p s q n n kp ks kq ∧ St_PlainHeap cH H h p s q n ∧
  ∀ t dt r H', Made H H' h t p s q r (n : Nat) (.ins ad_C dt (fs_Cell (.int se) mk ct (.int (n : Nat)) .non (.int 0))) (putK kp (.inl (n : Nat)) (.ref t)) (putK ks (.inl se) (.int (n : Nat))) kq → St_PlainHeap cH H' h p s q (n + 1) → Q (.ref r) H'
theorem ok_PlainHeap_make_cell {ad : Ad} (T : Txt K mg ad) : FnOk P w K mg base CX0 3 ad.a_PlainHeap_make_cell ad.d_PlainHeap_make_cell ["self", "serial", "maker", "content"] (sp_PlainHeap_make_cell ad.c_PlainHeap ad.c_Cell K) := by
  refine T.F_PlainHeap_make_cell.ok sc_PlainHeap_make_cell (fun vs H Q E h => ?_) (fun cdv A outer s H vs Q E hr h => ?_)
  · obtain ⟨h, p, s1, q, n, kp, ks, kq, se, mk, ct, rfl, ⟨hF, hn, hv⟩, ⟨dh, hh⟩, k⟩ := h
    rfl
  · obtain ⟨h, p, s1, q, n, kp, ks, kq, se, mk, ct, rfl, ⟨hF, hn, hv⟩, ⟨dh, hh⟩, k⟩ := h
    refine ⟨_, (pss_one (ps_ret (pe_call (ok_put_in T) (hr.mono (by decide)) rfl T.m_put_in T.F_put_in.kp T.b_put_in .nil pass0 (pa_cons (pv 0) (pa_cons (pe_make T.mk_Cell (ok_Cell_init_ T) (hr.mono (by decide)) rfl T.mg_Cell T.b_Cell_init_ .nil pass0 (pa_cons (pv 1) (pa_cons (pv 2) (pa_cons (pv 3) pa_nil)))) (pa_cons (pe_callB (id := "len") Rd.c_lenD (by rfl) T.z_len (by decide +kernel) (pa_cons (pe_fld (pv 0) rfl) pa_nil)) pa_nil)))))), ?_⟩
    try dsimp only [L2.cxOf, L2.Cx.nox, L2.Cx.wish]
    change (_ : TS) _ ([some (.ref h), some (.int se), some (mk), some (ct)] : St) _
    have cl_Cell := T.cl_Cell
    have n_Cell_content := T.n_Cell_content
    have n_Cell_link := T.n_Cell_link
    have n_Cell_maker := T.n_Cell_maker
    have n_Cell_place := T.n_Cell_place
    have n_Cell_references := T.n_Cell_references
    have n_Cell_serial := T.n_Cell_serial
    have cl_PlainHeap := T.cl_PlainHeap
    have n_PlainHeap_places := T.n_PlainHeap_places
    have n_PlainHeap_proxies := T.n_PlainHeap_proxies
    have n_PlainHeap_serials := T.n_PlainHeap_serials
    have cl_Proxy := T.cl_Proxy
    have n_Proxy_entry := T.n_Proxy_entry
    have n_Proxy_link := T.n_Proxy_link
    have n_Proxy_maker := T.n_Proxy_maker
    have n_Proxy_place := T.n_Proxy_place
    have n_Proxy_references := T.n_Proxy_references
    have n_Proxy_serial := T.n_Proxy_serial
    have cl_Service := T.cl_Service
    have n_Service_body := T.n_Service_body
    have n_Service_link := T.n_Service_link
    have n_Service_maker := T.n_Service_maker
    have n_Service_place := T.n_Service_place
    have n_Service_references := T.n_Service_references
    have n_Service_serial := T.n_Service_serial
    walk_at "rd"
    refine x_Cell fun t dt H1 nt e1 ht => ?_
    have hF1 := hF.mono e1
    have hht : h ≠ t := Ne.symm (hF.ne nt).1
    have hh1 := e1 _ _ hh
    have hp1 := hF1.hp
    walk_at "rd"
    rw [hn]
    refine ⟨h, t, p, s1, q, dt, (n : Nat), kp, ks, kq, .int 0, rfl, hF1, hht, .inl ⟨se, mk, ct, ht, fun r H' g => ?_⟩⟩
    refine k t dt r H' (made_of nt (fun b o _ hbo => e1 _ _ hbo) (fun z => Evl.fresh_back e1 z) g) ⟨dh, g.but _ _ ?_ (e1 _ _ hh)⟩
    have h1 := hF.hp
    have h2 := hF.hs
    have h3 := hF.hq
    simp only [List.mem_cons, List.not_mem_nil, or_false, not_or]
    exact ⟨hht, ne_of hh h1 (by intro z; cases z), ne_of hh h2 (by intro z; cases z), ne_of hh h3 (by intro z; cases z)⟩
def sp_PlainHeap_make_service (cH ad_C : Addr) (K : PySem.W.Frag) : Sp := fun vs H Q _ => ∃ (h p s q : Addr) (n : Nat) (kp ks kq : List (Key × V)) (se : Int) (mk bo : V), vs = [.ref h, .int se, mk, bo] ∧ Ahead K H h p s q n n kp ks kq ∧ St_PlainHeap cH H h p s q n ∧
  ∀ t dt r H', Made H H' h t p s q r (n : Nat) (.ins ad_C dt (fs_Service (.int se) mk bo (.int (n : Nat)) .non (.int 0))) (putK kp (.inl (n : Nat)) (.ref t)) (putK ks (.inl se) (.int (n : Nat))) kq → St_PlainHeap cH H' h p s q (n + 1) → Q (.ref r) H'
theorem ok_PlainHeap_make_service {ad : Ad} (T : Txt K mg ad) : FnOk P w K mg base CX0 3 ad.a_PlainHeap_make_service ad.d_PlainHeap_make_service ["self", "serial", "maker", "body"] (sp_PlainHeap_make_service ad.c_PlainHeap ad.c_Service K) := by
  refine T.F_PlainHeap_make_service.ok sc_PlainHeap_make_service (fun vs H Q E h => ?_) (fun cdv A outer s H vs Q E hr h => ?_)
  · obtain ⟨h, p, s1, q, n, kp, ks, kq, se, mk, bo, rfl, ⟨hF, hn, hv⟩, ⟨dh, hh⟩, k⟩ := h
    rfl
  · obtain ⟨h, p, s1, q, n, kp, ks, kq, se, mk, bo, rfl, ⟨hF, hn, hv⟩, ⟨dh, hh⟩, k⟩ := h
    refine ⟨_, (pss_one (ps_ret (pe_call (ok_put_in T) (hr.mono (by decide)) rfl T.m_put_in T.F_put_in.kp T.b_put_in .nil pass0 (pa_cons (pv 0) (pa_cons (pe_make T.mk_Service (ok_Service_init_ T) (hr.mono (by decide)) rfl T.mg_Service T.b_Service_init_ .nil pass0 (pa_cons (pv 1) (pa_cons (pv 2) (pa_cons (pv 3) pa_nil)))) (pa_cons (pe_callB (id := "len") Rd.c_lenD (by rfl) T.z_len (by decide +kernel) (pa_cons (pe_fld (pv 0) rfl) pa_nil)) pa_nil)))))), ?_⟩
    try dsimp only [L2.cxOf, L2.Cx.nox, L2.Cx.wish]
    change (_ : TS) _ ([some (.ref h), some (.int se), some (mk), some (bo)] : St) _
    have cl_Cell := T.cl_Cell
    have n_Cell_content := T.n_Cell_content
    have n_Cell_link := T.n_Cell_link
    have n_Cell_maker := T.n_Cell_maker
    have n_Cell_place := T.n_Cell_place
    have n_Cell_references := T.n_Cell_references
    have n_Cell_serial := T.n_Cell_serial
    have cl_PlainHeap := T.cl_PlainHeap
    have n_PlainHeap_places := T.n_PlainHeap_places
    have n_PlainHeap_proxies := T.n_PlainHeap_proxies
    have n_PlainHeap_serials := T.n_PlainHeap_serials
    have cl_Proxy := T.cl_Proxy
    have n_Proxy_entry := T.n_Proxy_entry
    have n_Proxy_link := T.n_Proxy_link
    have n_Proxy_maker := T.n_Proxy_maker
    have n_Proxy_place := T.n_Proxy_place
    have n_Proxy_references := T.n_Proxy_references
    have n_Proxy_serial := T.n_Proxy_serial
    have cl_Service := T.cl_Service
    have n_Service_body := T.n_Service_body
    have n_Service_link := T.n_Service_link
    have n_Service_maker := T.n_Service_maker
    have n_Service_place := T.n_Service_place
    have n_Service_references := T.n_Service_references
    have n_Service_serial := T.n_Service_serial
    walk_at "rd"
    refine x_Service fun t dt H1 nt e1 ht => ?_
    have hF1 := hF.mono e1
    have hht : h ≠ t := Ne.symm (hF.ne nt).1
    have hh1 := e1 _ _ hh
    have hp1 := hF1.hp
    walk_at "rd"
    rw [hn]
    refine ⟨h, t, p, s1, q, dt, (n : Nat), kp, ks, kq, .int 0, rfl, hF1, hht, .inr (.inl ⟨se, mk, bo, ht, fun r H' g => ?_⟩)⟩
    refine k t dt r H' (made_of nt (fun b o _ hbo => e1 _ _ hbo) (fun z => Evl.fresh_back e1 z) g) ⟨dh, g.but _ _ ?_ (e1 _ _ hh)⟩
    have h1 := hF.hp
    have h2 := hF.hs
    have h3 := hF.hq
    simp only [List.mem_cons, List.not_mem_nil, or_false, not_or]
    exact ⟨hht, ne_of hh h1 (by intro z; cases z), ne_of hh h2 (by intro z; cases z), ne_of hh h3 (by intro z; cases z)⟩
def sp_PlainHeap_make_proxy (cH ad_C : Addr) (K : PySem.W.Frag) : Sp := fun vs H Q _ => ∃ (h p s q : Addr) (n : Nat) (kp ks kq : List (Key × V)) (en : Int), vs = [.ref h, .int en] ∧ Ahead K H h p s q n n kp ks kq ∧ St_PlainHeap cH H h p s q n ∧
  ∀ t dt r H', Made H H' h t p s q r (n : Nat) (.ins ad_C dt (fs_Proxy .non .non (.int en) (.int (n : Nat)) .non (.int 0))) (putK kp (.inl (n : Nat)) (.ref t)) ks (putK kq (.inl en) (.int (n : Nat))) → St_PlainHeap cH H' h p s q (n + 1) → Q (.ref r) H'
theorem ok_PlainHeap_make_proxy {ad : Ad} (T : Txt K mg ad) : FnOk P w K mg base CX0 3 ad.a_PlainHeap_make_proxy ad.d_PlainHeap_make_proxy ["self", "entry"] (sp_PlainHeap_make_proxy ad.c_PlainHeap ad.c_Proxy K) := by
  refine T.F_PlainHeap_make_proxy.ok sc_PlainHeap_make_proxy (fun vs H Q E h => ?_) (fun cdv A outer s H vs Q E hr h => ?_)
  · obtain ⟨h, p, s1, q, n, kp, ks, kq, en, rfl, ⟨hF, hn, hv⟩, ⟨dh, hh⟩, k⟩ := h
    rfl
  · obtain ⟨h, p, s1, q, n, kp, ks, kq, en, rfl, ⟨hF, hn, hv⟩, ⟨dh, hh⟩, k⟩ := h
    refine ⟨_, (pss_one (ps_ret (pe_call (ok_put_in T) (hr.mono (by decide)) rfl T.m_put_in T.F_put_in.kp T.b_put_in .nil pass0 (pa_cons (pv 0) (pa_cons (pe_make T.mk_Proxy (ok_Proxy_init_ T) (hr.mono (by decide)) rfl T.mg_Proxy T.b_Proxy_init_ .nil pass0 (pa_cons (pv 1) pa_nil)) (pa_cons (pe_callB (id := "len") Rd.c_lenD (by rfl) T.z_len (by decide +kernel) (pa_cons (pe_fld (pv 0) rfl) pa_nil)) pa_nil)))))), ?_⟩
    try dsimp only [L2.cxOf, L2.Cx.nox, L2.Cx.wish]
    change (_ : TS) _ ([some (.ref h), some (.int en)] : St) _
    have cl_Cell := T.cl_Cell
    have n_Cell_content := T.n_Cell_content
    have n_Cell_link := T.n_Cell_link
    have n_Cell_maker := T.n_Cell_maker
    have n_Cell_place := T.n_Cell_place
    have n_Cell_references := T.n_Cell_references
    have n_Cell_serial := T.n_Cell_serial
    have cl_PlainHeap := T.cl_PlainHeap
    have n_PlainHeap_places := T.n_PlainHeap_places
    have n_PlainHeap_proxies := T.n_PlainHeap_proxies
    have n_PlainHeap_serials := T.n_PlainHeap_serials
    have cl_Proxy := T.cl_Proxy
    have n_Proxy_entry := T.n_Proxy_entry
    have n_Proxy_link := T.n_Proxy_link
    have n_Proxy_maker := T.n_Proxy_maker
    have n_Proxy_place := T.n_Proxy_place
    have n_Proxy_references := T.n_Proxy_references
    have n_Proxy_serial := T.n_Proxy_serial
    have cl_Service := T.cl_Service
    have n_Service_body := T.n_Service_body
    have n_Service_link := T.n_Service_link
    have n_Service_maker := T.n_Service_maker
    have n_Service_place := T.n_Service_place
    have n_Service_references := T.n_Service_references
    have n_Service_serial := T.n_Service_serial
    walk_at "rd"
    refine x_Proxy fun t dt H1 nt e1 ht => ?_
    have hF1 := hF.mono e1
    have hht : h ≠ t := Ne.symm (hF.ne nt).1
    have hh1 := e1 _ _ hh
    have hp1 := hF1.hp
    walk_at "rd"
    rw [hn]
    refine ⟨h, t, p, s1, q, dt, (n : Nat), kp, ks, kq, .int 0, rfl, hF1, hht, .inr (.inr ⟨en, ht, fun r H' g => ?_⟩)⟩
    refine k t dt r H' (made_of nt (fun b o _ hbo => e1 _ _ hbo) (fun z => Evl.fresh_back e1 z) g) ⟨dh, g.but _ _ ?_ (e1 _ _ hh)⟩
    have h1 := hF.hp
    have h2 := hF.hs
    have h3 := hF.hq
    simp only [List.mem_cons, List.not_mem_nil, or_false, not_or]
    exact ⟨hht, ne_of hh h1 (by intro z; cases z), ne_of hh h2 (by intro z; cases z), ne_of hh h3 (by intro z; cases z)⟩

/-! split -/
/-! ### the heap that the law books -/
inductive Kd where
  | c | s | p
deriving DecidableEq
structure Th where
  kd : Kd
  num : Int
  ma : V
  ct : V
  lk : Option Nat
def kS : Kd → Str
  | .c => "cell"
  | .s => "service"
  | .p => "proxy"
def isP : Kd → Bool
  | .p => true
  | _ => false
def lkV : Option Nat → V
  | none => .non
  | some j => .int j
def dueL (t : Th) : List V := [.str (kS t.kd), .int t.num, t.ma, t.ct, lkV t.lk, .int 0]
def thO (cC cS cP dt : Addr) (t : Th) (i : Nat) (lv : V) : HO := match t.kd with
  | .c => .ins cC dt (fs_Cell (.int t.num) t.ma t.ct (.int i) lv (.int 0))
  | .s => .ins cS dt (fs_Service (.int t.num) t.ma t.ct (.int i) lv (.int 0))
  | .p => .ins cP dt (fs_Proxy .non .non (.int t.num) (.int i) lv (.int 0))
def LkAt (H : Hp) (lv : V) : Option Nat → Prop
  | none => lv = .non
  | some j => ∃ r, lv = .ref r ∧ H r = some (.tup [.str "at", .int j])
def CtAt (H : Hp) (ct : V) : Prop := ct = .non ∨ ∃ (c : Addr) (k : Str) (v : V), ct = .ref c ∧ PyData.strOk k = true ∧ H c = some (.tup [.str k, v]) ∧ ((∃ i, v = .int i) ∨ ∃ z, v = .str z ∧ PyData.strOk z = true)
/-- what a thing's booked parts are -/
def ThOk (H : Hp) (t : Th) : Prop := (t.ma = .non ∨ ∃ i, t.ma = .int i) ∧ (t.kd = .c → CtAt H t.ct) ∧ (t.kd = .s → ∃ i, t.ct = .int i) ∧ (t.kd = .p → t.ma = .non ∧ t.ct = .non ∧ t.lk = none)
/-- tuples stay -/
def TupK (H H' : Hp) : Prop := ∀ b xs, H b = some (.tup xs) → H' b = some (.tup xs)
theorem LkAt.keep {H H' : Hp} {lv : V} {o : Option Nat} (h : LkAt H lv o) (k : TupK H H') : LkAt H' lv o := by
  cases o with
  | none => exact h
  | some j =>
    obtain ⟨r, h1, h2⟩ := h
    exact ⟨r, h1, k _ _ h2⟩
theorem CtAt.keep {H H' : Hp} {ct : V} (h : CtAt H ct) (k : TupK H H') : CtAt H' ct := by
  rcases h with h | ⟨c, z, v, e, o, h1, h2⟩
  · exact .inl h
  · exact .inr ⟨c, z, v, e, o, k _ _ h1, h2⟩
theorem ThOk.keep {H H' : Hp} {t : Th} (h : ThOk H t) (k : TupK H H') : ThOk H' t := ⟨h.1, fun e => (h.2.1 e).keep k, h.2.2.1, h.2.2.2⟩
theorem CtAt.dp {H : Hp} {ct : V} (h : CtAt H ct) : ∃ d, Dp K H ct d ∧ SeqAt.shaped d = true := by
  rcases h with rfl | ⟨c, z, v, rfl, o, h1, ⟨i, rfl⟩ | ⟨y, rfl, o2⟩⟩
  · exact ⟨.none, .non, by decide⟩
  · exact ⟨.tuple [.str z, .int i], Dt.ofT h1 (.cons (.str _) (.cons (.int _) .nil)), by simp [SeqAt.shaped, PyData.canLay0, PyData.canLayAll0, PyData.depth, PyData.depthAll, o]⟩
  · exact ⟨.tuple [.str z, .str y], Dt.ofT h1 (.cons (.str _) (.cons (.str _) .nil)), by simp [SeqAt.shaped, PyData.canLay0, PyData.canLayAll0, PyData.depth, PyData.depthAll, o, o2]⟩
/-- f tells at which place a number stands -/
def LookOk (f : Int → Option V) (T : List Th) (b : Bool) : Prop := (∀ (i : Nat) t, T[i]? = some t → isP t.kd = b → f t.num = some (.int i)) ∧ ∀ x, (∀ t ∈ T, isP t.kd = b → t.num ≠ x) → f x = none
theorem LookOk.eq {f g : Int → Option V} {T : List Th} {b : Bool} (h1 : LookOk f T b) (h2 : LookOk g T b) (x : Int) : f x = g x := by
  by_cases h : ∃ t ∈ T, isP t.kd = b ∧ t.num = x
  · obtain ⟨t, ht, hb, rfl⟩ := h
    obtain ⟨i, hi⟩ := List.getElem?_of_mem ht
    rw [h1.1 i t hi hb, h2.1 i t hi hb]
  · have h' : ∀ t ∈ T, isP t.kd = b → t.num ≠ x := fun t ht hb e => h ⟨t, ht, hb, e⟩
    rw [h1.2 x h', h2.2 x h']
theorem LookOk.snoc {f g : Int → Option V} {T : List Th} {b : Bool} {t : Th} (h : LookOk f T b) (fr : ∀ u ∈ T, u.num ≠ t.num) (hg : ∀ x, g x = if x = t.num ∧ isP t.kd = b then some (.int T.length) else f x) : LookOk g (T ++ [t]) b := by
  refine ⟨fun i u hi hb => ?_, fun x hx => ?_⟩
  · rw [hg]
    by_cases hl : i < T.length
    · rw [List.getElem?_append_left hl] at hi
      rw [if_neg (fun z => fr u (List.mem_of_getElem? hi) z.1)]
      exact h.1 i u hi hb
    · have hi2 : i = T.length := by
        have := (List.getElem?_eq_some_iff.mp hi).1
        rw [List.length_append] at this
        simp at this
        omega
      subst hi2
      rw [List.getElem?_append_right (Nat.le_refl _), Nat.sub_self] at hi
      cases hi
      rw [if_pos ⟨rfl, hb⟩]
  · rw [hg, if_neg (fun z => hx t (List.mem_append_right _ (List.mem_singleton.mpr rfl)) z.2 z.1.symm)]
    exact h.2 x fun u hu => hx u (List.mem_append_left _ hu)
theorem LookOk.same {f : Int → Option V} {T T' : List Th} {b : Bool} (h : LookOk f T b) (hl : T'.map (fun t => (t.kd, t.num)) = T.map fun t => (t.kd, t.num)) : LookOk f T' b := by
  have key : ∀ (i : Nat) t', T'[i]? = some t' → ∃ t, T[i]? = some t ∧ t.kd = t'.kd ∧ t.num = t'.num := fun i t' hi => by
    have e : (T'.map fun t => (t.kd, t.num))[i]? = some (t'.kd, t'.num) := by rw [List.getElem?_map, hi]; rfl
    rw [hl, List.getElem?_map] at e
    obtain ⟨t, ht, e2⟩ := Option.map_eq_some_iff.mp e
    injection e2 with a1 a2
    exact ⟨t, ht, a1, a2⟩
  refine ⟨fun i t hi hb => ?_, fun x hx => h.2 x fun t ht hb => ?_⟩
  · obtain ⟨t0, h0, e1, e2⟩ := key i t hi
    rw [← e2]
    exact h.1 i t0 h0 (by rw [e1]; exact hb)
  · obtain ⟨i, hi⟩ := List.getElem?_of_mem ht
    have e : (T.map fun t => (t.kd, t.num))[i]? = some (t.kd, t.num) := by rw [List.getElem?_map, hi]; rfl
    rw [← hl, List.getElem?_map] at e
    obtain ⟨t', ht', e2⟩ := Option.map_eq_some_iff.mp e
    injection e2 with a1 a2
    rw [← a2]
    exact hx t' (List.mem_of_getElem? ht') (by rw [a1]; exact hb)
/-- the heap and the law's book -/
structure LS (K : PySem.W.Frag) (cH cC cS cP : Addr) (H : Hp) (h td p s q : Addr) (kp ks kq kt : List (Key × V)) (T : List Th) (ts ds : List Addr) : Prop where
  F : HeapF K H h p s q kp ks kq
  st : St_PlainHeap cH H h p s q T.length
  atd : H td = some (.dK kt)
  tp : td ≠ p ∧ td ≠ s ∧ td ≠ q
  lt : ts.length = T.length
  ld : ds.length = T.length
  nt : ts.Nodup
  nd : ds.Nodup
  kkp : kp.map (·.1) = (List.range T.length).map fun (i : Nat) => (Sum.inl (i : Int) : Key)
  kkt : kt.map (·.1) = (List.range T.length).map fun (i : Nat) => (Sum.inl (i : Int) : Key)
  lks : ks.length ≤ T.length
  lkq : kq.length ≤ T.length
  vp : ∀ (i : Nat) a, ts[i]? = some a → valV kp (.inl (i : Int)) = some (.ref a)
  vt : ∀ (i : Nat) a, ds[i]? = some a → valV kt (.inl (i : Int)) = some (.ref a)
  ls : LookOk (fun x => valV ks (.inl x)) T false
  lq : LookOk (fun x => valV kq (.inl x)) T true
  th : ∀ (i : Nat) t a, T[i]? = some t → ts[i]? = some a → ∃ dt lv, H a = some (thO cC cS cP dt t i lv) ∧ LkAt H lv t.lk
  du : ∀ (i : Nat) t a, T[i]? = some t → ds[i]? = some a → H a = some (.lst (dueL t))
  ok : ∀ t ∈ T, ThOk H t
section
variable {cH cC cS cP : Addr} {H H' : Hp} {h td p s q : Addr} {kp ks kq kt : List (Key × V)} {T : List Th} {ts ds : List Addr}
theorem exTup (e : Evl.Ex H H') : TupK H H' := fun b xs h => e b _ h
theorem LS.ex (g : LS K cH cC cS cP H h td p s q kp ks kq kt T ts ds) (e : Evl.Ex H H') : LS K cH cC cS cP H' h td p s q kp ks kq kt T ts ds where
  F := g.F.mono e
  st := by obtain ⟨dx, h1⟩ := g.st; exact ⟨dx, e _ _ h1⟩
  atd := e _ _ g.atd
  tp := g.tp
  lt := g.lt
  ld := g.ld
  nt := g.nt
  nd := g.nd
  kkp := g.kkp
  kkt := g.kkt
  lks := g.lks
  lkq := g.lkq
  vp := g.vp
  vt := g.vt
  ls := g.ls
  lq := g.lq
  th := fun i t a h1 h2 => by
    obtain ⟨dt, lv, h3, h4⟩ := g.th i t a h1 h2
    exact ⟨dt, lv, e _ _ h3, h4.keep (exTup e)⟩
  du := fun i t a h1 h2 => e _ _ (g.du i t a h1 h2)
  ok := fun t ht => (g.ok t ht).keep (exTup e)
theorem thO_tup {dt : Addr} {t : Th} {i : Nat} {lv : V} {xs : List V} : thO cC cS cP dt t i lv ≠ .tup xs := fun z => by
  unfold thO at z
  cases hk : t.kd <;> rw [hk] at z <;> cases z
theorem thO_lst {dt : Addr} {t : Th} {i : Nat} {lv : V} {xs : List V} : thO cC cS cP dt t i lv ≠ .lst xs := fun z => by
  unfold thO at z
  cases hk : t.kd <;> rw [hk] at z <;> cases z
theorem thO_dk {dt : Addr} {t : Th} {i : Nat} {lv : V} {xs : List (Key × V)} : thO cC cS cP dt t i lv ≠ .dK xs := fun z => by
  unfold thO at z
  cases hk : t.kd <;> rw [hk] at z <;> cases z
theorem keys_ne {a b : Str} {u v : V} {r r' : List (Str × V)} (hab : a ≠ b) : (a, u) :: r ≠ (b, v) :: r' := fun z => by
  injection z with z _
  injection z with z _
  exact hab z
theorem thO_ph {dt dx : Addr} {t : Th} {i : Nat} {lv a b c : V} : thO cC cS cP dt t i lv ≠ .ins cH dx (fs_PlainHeap a b c) := fun z => by
  unfold thO at z
  have n1 : ("serial" : Str) ≠ ("places" : Str) := by decide +kernel
  cases hk : t.kd <;> rw [hk] at z
  · injection z with _ _ z
    exact keys_ne n1 z
  · injection z with _ _ z
    exact keys_ne n1 z
  · injection z with _ _ z
    exact keys_ne n1 z
theorem key_none {kvs : List (Key × V)} {n : Nat} (hk : kvs.map (·.1) = (List.range n).map fun (i : Nat) => (Sum.inl (i : Int) : Key)) : valV kvs (.inl (n : Int)) = none := by
  unfold valV
  rw [Option.map_eq_none_iff, List.find?_eq_none]
  intro x hx hd
  have hm : x.1 ∈ kvs.map (·.1) := List.mem_map.mpr ⟨x, hx, rfl⟩
  rw [hk] at hm
  obtain ⟨i, hi, e⟩ := List.mem_map.mp hm
  have hd2 : x.1 = Sum.inl (n : Int) := by simpa using hd
  rw [← e] at hd2
  have hd3 : (i : Int) = (n : Int) := by injection hd2
  have := List.mem_range.mp hi
  omega
theorem key_len {kvs : List (Key × V)} {n : Nat} (hk : kvs.map (·.1) = (List.range n).map fun (i : Nat) => (Sum.inl (i : Int) : Key)) : kvs.length = n := by
  have := congrArg List.length hk
  rw [List.length_map, List.length_map, List.length_range] at this
  exact this
theorem key_snoc {kvs : List (Key × V)} {n : Nat} {v : V} (hk : kvs.map (·.1) = (List.range n).map fun (i : Nat) => (Sum.inl (i : Int) : Key)) : (putK kvs (.inl (n : Int)) v).map (·.1) = (List.range (n + 1)).map fun (i : Nat) => (Sum.inl (i : Int) : Key) := by
  rw [putK_new v (key_none hk), List.map_append, hk, List.range_succ, List.map_append]
  rfl
theorem val_snoc {kvs : List (Key × V)} {n : Nat} {as : List Addr} {a : Addr} (hl : as.length = n) (hk : kvs.map (·.1) = (List.range n).map fun (i : Nat) => (Sum.inl (i : Int) : Key)) (hv : ∀ (i : Nat) a, as[i]? = some a → valV kvs (.inl (i : Int)) = some (.ref a)) (i : Nat) (b : Addr) (h : (as ++ [a])[i]? = some b) : valV (putK kvs (.inl (n : Int)) (.ref a)) (.inl (i : Int)) = some (.ref b) := by
  rw [valV_put]
  by_cases hi : i < as.length
  · rw [List.getElem?_append_left hi] at h
    rw [if_neg (fun z => by have z' : (i : Int) = (n : Int) := (by injection z); omega)]
    exact hv i b h
  · have hi2 : i = n := by
      have := (List.getElem?_eq_some_iff.mp h).1
      rw [List.length_append] at this
      simp at this
      omega
    subst hi2
    rw [List.getElem?_append_right (by omega), hl, Nat.sub_self] at h
    cases h
    rw [if_pos rfl]
/-- a new thing -/
theorem LS.make {H1 H2 : Hp} {a d r dt : Addr} {t : Th} {ks' kq' : List (Key × V)} (g : LS K cH cC cS cP H h td p s q kp ks kq kt T ts ds) (hb : T.length ≤ 900) (fr : ∀ u ∈ T, u.num ≠ t.num) (hlk : t.lk = none)
    (m : Made H H1 h a p s q r (T.length : Nat) (thO cC cS cP dt t T.length .non) (putK kp (.inl (T.length : Nat)) (.ref a)) ks' kq') (st : St_PlainHeap cH H1 h p s q (T.length + 1))
    (hks : ∀ x, valV ks' (.inl x) = if x = t.num ∧ isP t.kd = false then some (.int T.length) else valV ks (.inl x)) (hkq : ∀ x, valV kq' (.inl x) = if x = t.num ∧ isP t.kd = true then some (.int T.length) else valV kq (.inl x)) (l1 : ks'.length ≤ T.length + 1) (l2 : kq'.length ≤ T.length + 1)
    (hok : ThOk H1 t) (e : Evl.Ex H1 H2) (nd : H1 d = none) (hd : H2 d = some (.lst (dueL t))) : LS K cH cC cS cP (upd H2 td (.dK (putK kt (.inl (T.length : Nat)) (.ref d)))) h td p s q (putK kp (.inl (T.length : Nat)) (.ref a)) ks' kq' (putK kt (.inl (T.length : Nat)) (.ref d)) (T ++ [t]) (ts ++ [a]) (ds ++ [d]) := by
  obtain ⟨⟨C, dx, fs, f1, f2, f3, f4, f5, f6, f7, f8⟩, Fp, Fs, Fq, ps, pq, sq, _⟩ := id g.F
  obtain ⟨dx0, hh0⟩ := id g.st
  obtain ⟨dx1, hh1⟩ := id st
  have hC : C = cH := by rw [f1] at hh0; injection hh0 with hh0; injection hh0
  subst hC
  obtain ⟨tp1, tp2, tp3⟩ := g.tp
  have htd := g.atd
  have htdh : td ≠ h := ne_of htd f1 (by intro z; cases z)
  have etd1 : H1 td = some (.dK kt) := m.but _ _ (by simp only [List.mem_cons, List.not_mem_nil, or_false, not_or]; exact ⟨htdh, tp1, tp2, tp3⟩) htd
  have htd2 := e _ _ etd1
  have ha_td : a ≠ td := fun z => by rw [← z, m.nt] at htd; cases htd
  -- what is neither a dict nor the heap's object stays
  have stay : ∀ b o, (∀ k, o ≠ .dK k) → b ≠ h → H b = some o → (upd H2 td (.dK (putK kt (.inl (T.length : Nat)) (.ref d)))) b = some o := fun b o hno hbh hbo => by
    have n1 : b ≠ p := fun z => by rw [z, Fp] at hbo; exact hno _ (Option.some.inj hbo).symm
    have n2 : b ≠ s := fun z => by rw [z, Fs] at hbo; exact hno _ (Option.some.inj hbo).symm
    have n3 : b ≠ q := fun z => by rw [z, Fq] at hbo; exact hno _ (Option.some.inj hbo).symm
    have n4 : b ≠ td := fun z => by rw [z, htd] at hbo; exact hno _ (Option.some.inj hbo).symm
    exact (upd_ne n4).trans (e _ _ (m.but _ _ (by simp only [List.mem_cons, List.not_mem_nil, or_false, not_or]; exact ⟨hbh, n1, n2, n3⟩) hbo))
  have htup : TupK H (upd H2 td (.dK (putK kt (.inl (T.length : Nat)) (.ref d)))) := fun b xs hb => stay b _ (fun k z => by cases z) (fun z => by rw [z, f1] at hb; cases hb) hb
  have htup1 : TupK H1 (upd H2 td (.dK (putK kt (.inl (T.length : Nat)) (.ref d)))) := fun b xs hb => (upd_ne (fun z => by rw [z, etd1] at hb; cases hb)).trans (e _ _ hb)
  have hth1 : ∀ b o, (∀ k, o ≠ .dK k) → H1 b = some o → (upd H2 td (.dK (putK kt (.inl (T.length : Nat)) (.ref d)))) b = some o := fun b o hno hb => (upd_ne (fun z => by rw [z, etd1] at hb; exact hno _ (Option.some.inj hb).symm)).trans (e _ _ hb)
  have kpl := key_len g.kkp
  have hats : ∀ b ∈ ts, b ≠ a := fun b hb z => by
    obtain ⟨i, hi⟩ := List.getElem?_of_mem hb
    obtain ⟨tt, hiT⟩ : ∃ tt, T[i]? = some tt := ⟨_, List.getElem?_eq_getElem (by have := (List.getElem?_eq_some_iff.mp hi).1; have := g.lt; omega)⟩
    obtain ⟨dt', lv', h3, _⟩ := g.th i _ b hiT hi
    rw [z, m.nt] at h3
    cases h3
  have hbds : ∀ b ∈ ds, b ≠ d := fun b hb z => by
    obtain ⟨i, hi⟩ := List.getElem?_of_mem hb
    obtain ⟨tt, hiT⟩ : ∃ tt, T[i]? = some tt := ⟨_, List.getElem?_eq_getElem (by have := (List.getElem?_eq_some_iff.mp hi).1; have := g.ld; omega)⟩
    have h3 := g.du i _ b hiT hi
    have h4 : H1 b = some (.lst (dueL tt)) := m.but _ _ (by
      simp only [List.mem_cons, List.not_mem_nil, or_false, not_or]
      exact ⟨ne_of h3 f1 (by intro z; cases z), ne_of h3 Fp (by intro z; cases z), ne_of h3 Fs (by intro z; cases z), ne_of h3 Fq (by intro z; cases z)⟩) h3
    rw [z, nd] at h4
    cases h4
  refine ⟨⟨⟨_, dx1, _, hth1 _ _ (fun k z => by cases z) hh1, f2, f3, f4, f5, by with_reducible exact lk_PlainHeap_places _ _ _, by with_reducible exact lk_PlainHeap_serials _ _ _, by with_reducible exact lk_PlainHeap_proxies _ _ _⟩, (upd_ne (Ne.symm tp1)).trans (e _ _ m.at_p), (upd_ne (Ne.symm tp2)).trans (e _ _ m.at_s), (upd_ne (Ne.symm tp3)).trans (e _ _ m.at_q), ps, pq, sq, ?_, by omega, by omega⟩, ⟨dx1, hth1 _ _ (fun k z => by cases z) hh1⟩, upd_same, g.tp, by rw [List.length_append, List.length_append, g.lt]; rfl, by rw [List.length_append, List.length_append, g.ld]; rfl, ?_, ?_, ?_, ?_, by rw [List.length_append]; exact l1, by rw [List.length_append]; exact l2, val_snoc g.lt g.kkp g.vp, val_snoc g.ld g.kkt g.vt, g.ls.snoc fr hks, g.lq.snoc fr hkq, fun i u b h1 h2 => ?_, fun i u b h1 h2 => ?_, fun u hu => ?_⟩
  · have := length_putK kp (.inl (T.length : Nat) : Key) (.ref a)
    omega
  · rw [List.nodup_append]
    exact ⟨g.nt, by simp, fun x hx y hy z => hats x hx (by rw [z]; exact List.mem_singleton.mp hy)⟩
  · rw [List.nodup_append]
    exact ⟨g.nd, by simp, fun x hx y hy z => hbds x hx (by rw [z]; exact List.mem_singleton.mp hy)⟩
  · rw [List.length_append]; exact key_snoc g.kkp
  · rw [List.length_append]; exact key_snoc g.kkt
  · by_cases hi : i < T.length
    · rw [List.getElem?_append_left hi] at h1
      rw [List.getElem?_append_left (by rw [g.lt]; exact hi)] at h2
      obtain ⟨dt', lv', h3, h4⟩ := g.th i u b h1 h2
      exact ⟨dt', lv', stay b _ (fun k => thO_dk) (fun z => by rw [z, hh0] at h3; exact thO_ph (Option.some.inj h3).symm) h3, h4.keep htup⟩
    · have hi2 : i = T.length := by
        have := (List.getElem?_eq_some_iff.mp h1).1
        rw [List.length_append] at this
        simp at this
        omega
      subst hi2
      rw [List.getElem?_append_right (Nat.le_refl _), Nat.sub_self] at h1
      rw [List.getElem?_append_right (by rw [g.lt]; exact Nat.le_refl _), g.lt, Nat.sub_self] at h2
      cases h1; cases h2
      exact ⟨dt, .non, hth1 _ _ (fun k => thO_dk) m.at_t, by rw [hlk]; rfl⟩
  · by_cases hi : i < T.length
    · rw [List.getElem?_append_left hi] at h1
      rw [List.getElem?_append_left (by rw [g.ld]; exact hi)] at h2
      have h3 := g.du i u b h1 h2
      exact stay b _ (fun k z => by cases z) (ne_of h3 f1 (by intro z; cases z)) h3
    · have hi2 : i = T.length := by
        have := (List.getElem?_eq_some_iff.mp h1).1
        rw [List.length_append] at this
        simp at this
        omega
      subst hi2
      rw [List.getElem?_append_right (Nat.le_refl _), Nat.sub_self] at h1
      rw [List.getElem?_append_right (by rw [g.ld]; exact Nat.le_refl _), g.ld, Nat.sub_self] at h2
      cases h1; cases h2
      exact (upd_ne (ne_of hd htd2 (by intro z; cases z))).trans hd
  · rcases List.mem_append.mp hu with hu | hu
    · exact (g.ok u hu).keep htup
    · cases List.mem_singleton.mp hu
      exact hok.keep htup1
/-- a link is set -/
theorem LS.link {H2 : Hp} {a d dt : Addr} {t : Th} {lv lv0 : V} {j : Nat} {tg : Option Nat} (g : LS K cH cC cS cP H h td p s q kp ks kq kt T ts ds) (hT : T[j]? = some t) (ha : ts[j]? = some a) (hd : ds[j]? = some d) (hk : t.kd ≠ .p) (ht : H a = some (thO cC cS cP dt t j lv0))
    (e : Evl.Ex (upd H d (.lst (dueL { t with lk := tg }))) H2) (hl : LkAt H2 lv tg) : LS K cH cC cS cP (upd H2 a (thO cC cS cP dt { t with lk := tg } j lv)) h td p s q kp ks kq kt (T.set j { t with lk := tg }) ts ds := by
  have hdu := g.du j t d hT hd
  obtain ⟨dx0, hh0⟩ := id g.st
  have htO : ∀ lv', thO cC cS cP dt { t with lk := tg } j lv' = thO cC cS cP dt t j lv' := fun lv' => rfl
  have hjT : j < T.length := (List.getElem?_eq_some_iff.mp hT).1
  have had : a ≠ d := ne_of ht hdu (fun z => thO_lst z)
  have ha2 : H2 a = some (thO cC cS cP dt t j lv0) := e _ _ ((upd_ne had).trans ht)
  -- what is neither a list nor a thing stays
  have stay : ∀ b o, b ≠ d → b ≠ a → H b = some o → (upd H2 a (thO cC cS cP dt { t with lk := tg } j lv)) b = some o := fun b o n1 n2 hb => (upd_ne n2).trans (e _ _ ((upd_ne n1).trans hb))
  have stayN : ∀ b o, (∀ xs, o ≠ .lst xs) → (∀ (i : Nat) u dt' lv', o ≠ thO cC cS cP dt' u i lv') → H b = some o → (upd H2 a (thO cC cS cP dt { t with lk := tg } j lv)) b = some o := fun b o n1 n2 hb => stay b o (fun z => by rw [z, hdu] at hb; exact n1 _ (Option.some.inj hb).symm) (fun z => by rw [z, ht] at hb; exact n2 _ _ _ _ (Option.some.inj hb).symm) hb
  have htup : TupK H (upd H2 a (thO cC cS cP dt { t with lk := tg } j lv)) := fun b xs hb => stayN b _ (fun xs z => by cases z) (fun i u dt' lv' z => thO_tup z.symm) hb
  have htup2 : TupK H2 (upd H2 a (thO cC cS cP dt { t with lk := tg } j lv)) := fun b xs hb => (upd_ne (fun z => by rw [z, ha2] at hb; exact thO_tup (Option.some.inj hb))).trans hb
  have hmap : (T.set j { t with lk := tg }).map (fun t => (t.kd, t.num)) = T.map fun t => (t.kd, t.num) := by
    rw [List.map_set]
    refine List.ext_getElem? fun i => ?_
    rw [List.getElem?_set]
    by_cases hij : j = i
    · subst hij
      rw [if_pos rfl, List.getElem?_map, hT, List.length_map, if_pos hjT]
      rfl
    · rw [if_neg hij]
  have inj : ∀ {l : List Addr} {i : Nat} {b : Addr}, l.Nodup → ∀ {x : Addr}, l[j]? = some x → l[i]? = some b → i ≠ j → b ≠ x := fun {l i b} nd {x} h1 h2 hij z => by
    subst z
    exact hij ((List.getElem?_inj (List.getElem?_eq_some_iff.mp h2).1 nd).mp (h2.trans h1.symm))
  refine ⟨g.F.keep fun b o hb hbo => ?_, ?_, stayN _ _ (fun xs z => by cases z) (fun i u dt' lv' z => thO_dk z.symm) g.atd, g.tp, by rw [List.length_set]; exact g.lt, by rw [List.length_set]; exact g.ld, g.nt, g.nd, by rw [List.length_set]; exact g.kkp, by rw [List.length_set]; exact g.kkt, by rw [List.length_set]; exact g.lks, by rw [List.length_set]; exact g.lkq, g.vp, g.vt, g.ls.same hmap, g.lq.same hmap, fun i u b h1 h2 => ?_, fun i u b h1 h2 => ?_, fun u hu => ?_⟩
  · obtain ⟨⟨C, dx, fs, f1, _⟩, Fp, Fs, Fq, _⟩ := id g.F
    rcases hb with rfl | rfl | rfl | rfl
    · rw [hh0] at hbo
      cases hbo
      exact stayN _ _ (fun xs z => by cases z) (fun i u dt' lv' z => thO_ph z.symm) hh0
    · rw [Fp] at hbo
      cases hbo
      exact stayN _ _ (fun xs z => by cases z) (fun i u dt' lv' z => thO_dk z.symm) Fp
    · rw [Fs] at hbo
      cases hbo
      exact stayN _ _ (fun xs z => by cases z) (fun i u dt' lv' z => thO_dk z.symm) Fs
    · rw [Fq] at hbo
      cases hbo
      exact stayN _ _ (fun xs z => by cases z) (fun i u dt' lv' z => thO_dk z.symm) Fq
  · exact ⟨dx0, stayN _ _ (fun xs z => by cases z) (fun i u dt' lv' z => thO_ph z.symm) hh0⟩
  · rw [List.getElem?_set] at h1
    by_cases hij : j = i
    · subst hij
      rw [if_pos rfl, if_pos hjT] at h1
      cases h1
      rw [ha] at h2
      cases h2
      exact ⟨dt, lv, upd_same, hl.keep htup2⟩
    · rw [if_neg hij] at h1
      obtain ⟨dt', lv', h3, h4⟩ := g.th i u b h1 h2
      exact ⟨dt', lv', stay b _ (ne_of h3 hdu (fun z => thO_lst z)) (inj g.nt ha h2 (Ne.symm hij)) h3, h4.keep htup⟩
  · rw [List.getElem?_set] at h1
    by_cases hij : j = i
    · subst hij
      rw [if_pos rfl, if_pos hjT] at h1
      cases h1
      rw [hd] at h2
      cases h2
      exact (upd_ne (Ne.symm had)).trans (e _ _ upd_same)
    · rw [if_neg hij] at h1
      have h3 := g.du i u b h1 h2
      exact stay b _ (inj g.nd hd h2 (Ne.symm hij)) (fun z => by rw [z, ht] at h3; exact thO_lst (Option.some.inj h3)) h3
  · rcases List.mem_or_eq_of_mem_set hu with hu | rfl
    · exact (g.ok u hu).keep htup
    · have h0 := (g.ok t (List.mem_of_getElem? hT)).keep htup
      exact ⟨h0.1, h0.2.1, h0.2.2.1, fun z => absurd z hk⟩
end
/-! split -/
/-! ### the heap's other methods -/
def spKeep : Sp := fun vs H Q _ => ∃ (h : Addr) (v : V), vs = [.ref h, v] ∧ Q .non H
theorem ok_PlainHeap_keep {ad : Ad} (T : Txt K mg ad) : FnOk P w K mg base CX0 1 ad.a_PlainHeap_keep ad.d_PlainHeap_keep ["self", "reference"] (spKeep) := by
  refine T.F_PlainHeap_keep.ok sc_PlainHeap_keep (fun vs H Q E h => ?_) (fun cdv A outer s H vs Q E hr h => ?_)
  · obtain ⟨h, v, rfl, k⟩ := h
    rfl
  · obtain ⟨h, v, rfl, k⟩ := h
    refine ⟨_, (pss_one (ps_ret pe_non)), ?_⟩
    try dsimp only [L2.cxOf, L2.Cx.nox, L2.Cx.wish]
    change (_ : TS) _ ([some (.ref h), some (v)] : St) _
    walk_at "rd"
    exact k
def spDrop : Sp := fun vs H Q _ => ∃ (h : Addr) (v : V), vs = [.ref h, v] ∧ ∀ l H', Evl.Ex H H' → H' l = some (.lst []) → Q (.ref l) H'
theorem ok_PlainHeap_drop {ad : Ad} (T : Txt K mg ad) : FnOk P w K mg base CX0 1 ad.a_PlainHeap_drop ad.d_PlainHeap_drop ["self", "reference"] (spDrop) := by
  refine T.F_PlainHeap_drop.ok sc_PlainHeap_drop (fun vs H Q E h => ?_) (fun cdv A outer s H vs Q E hr h => ?_)
  · obtain ⟨h, v, rfl, k⟩ := h
    rfl
  · obtain ⟨h, v, rfl, k⟩ := h
    refine ⟨_, (pss_one (ps_ret (pe_lst pa_nil))), ?_⟩
    try dsimp only [L2.cxOf, L2.Cx.nox, L2.Cx.wish]
    change (_ : TS) _ ([some (.ref h), some (v)] : St) _
    walk_at "rd"
    exact Rd.xlst rfl fun l H1 n1 e1 h1 => k l H1 e1 h1
def spChg : Sp := fun vs H Q _ => ∃ (h : Addr) (v u : V), vs = [.ref h, v, u] ∧ ∀ l H', Evl.Ex H H' → H' l = some (.lst []) → Q (.ref l) H'
theorem ok_PlainHeap_change_hold {ad : Ad} (T : Txt K mg ad) : FnOk P w K mg base CX0 1 ad.a_PlainHeap_change_hold ad.d_PlainHeap_change_hold ["self", "serial", "change"] (spChg) := by
  refine T.F_PlainHeap_change_hold.ok sc_PlainHeap_change_hold (fun vs H Q E h => ?_) (fun cdv A outer s H vs Q E hr h => ?_)
  · obtain ⟨h, v, u, rfl, k⟩ := h
    rfl
  · obtain ⟨h, v, u, rfl, k⟩ := h
    refine ⟨_, (pss_one (ps_ret (pe_lst pa_nil))), ?_⟩
    try dsimp only [L2.cxOf, L2.Cx.nox, L2.Cx.wish]
    change (_ : TS) _ ([some (.ref h), some (v), some (u)] : St) _
    walk_at "rd"
    exact Rd.xlst rfl fun l H1 n1 e1 h1 => k l H1 e1 h1
def spColl : Sp := fun vs H Q _ => ∃ (h : Addr) (v u x : V), vs = [.ref h, v, u, x] ∧ ∀ l H', Evl.Ex H H' → H' l = some (.lst []) → Q (.ref l) H'
theorem ok_PlainHeap_collect {ad : Ad} (T : Txt K mg ad) : FnOk P w K mg base CX0 1 ad.a_PlainHeap_collect ad.d_PlainHeap_collect ["self", "registers", "held", "pinned"] (spColl) := by
  refine T.F_PlainHeap_collect.ok sc_PlainHeap_collect (fun vs H Q E h => ?_) (fun cdv A outer s H vs Q E hr h => ?_)
  · obtain ⟨h, v, u, x, rfl, k⟩ := h
    rfl
  · obtain ⟨h, v, u, x, rfl, k⟩ := h
    refine ⟨_, (pss_one (ps_ret (pe_lst pa_nil))), ?_⟩
    try dsimp only [L2.cxOf, L2.Cx.nox, L2.Cx.wish]
    change (_ : TS) _ ([some (.ref h), some (v), some (u), some (x)] : St) _
    walk_at "rd"
    exact Rd.xlst rfl fun l H1 n1 e1 h1 => k l H1 e1 h1
def spSetLink (cC cS cP : Addr) (K : PySem.W.Frag) : Sp := fun vs H Q _ => ∃ (h p s q r a dt : Addr) (j : Nat) (kp ks kq : List (Key × V)) (t : Th) (lv lv0 : V), vs = [.ref h, .ref r, lv] ∧ HeapF K H h p s q kp ks kq ∧ H r = some (.tup [.str "at", .int j]) ∧ valV kp (.inl (j : Int)) = some (.ref a) ∧ H a = some (thO cC cS cP dt t j lv0) ∧
  ∀ l H', Evl.Ex (upd H a (thO cC cS cP dt t j lv)) H' → H' l = some (.lst []) → Q (.ref l) H'
theorem ok_PlainHeap_set_link {ad : Ad} (T : Txt K mg ad) : FnOk P w K mg base CX0 1 ad.a_PlainHeap_set_link ad.d_PlainHeap_set_link ["self", "reference", "target"] (spSetLink ad.c_Cell ad.c_Service ad.c_Proxy K) := by
  refine T.F_PlainHeap_set_link.ok sc_PlainHeap_set_link (fun vs H Q E h => ?_) (fun cdv A outer s H vs Q E hr h => ?_)
  · obtain ⟨h, p, s1, q, r, a, dt, j, kp, ks, kq, t, lv, lv0, rfl, ⟨⟨Ch, dh, fh, hh, hcl, hn1, hn2, hn3, hl1, hl2, hl3⟩, hp, _⟩, hr1, hv, ht, k⟩ := h
    rfl
  · obtain ⟨h, p, s1, q, r, a, dt, j, kp, ks, kq, t, lv, lv0, rfl, ⟨⟨Ch, dh, fh, hh, hcl, hn1, hn2, hn3, hl1, hl2, hl3⟩, hp, _⟩, hr1, hv, ht, k⟩ := h
    refine ⟨_, (pss_cons (ps_fld (pe_dget (hu_of hr) (pe_fld (pv 0) rfl) (pe_ix ix_tup (pv 1) pe_int (fun _ _ => rfl)) (fun _ _ => rfl)) (pv 2) rfl)
      (pss_one (ps_ret (pe_lst pa_nil)))), ?_⟩
    try dsimp only [L2.cxOf, L2.Cx.nox, L2.Cx.wish]
    change (_ : TS) _ ([some (.ref h), some (.ref r), some (lv)] : St) _
    have cl_Cell := T.cl_Cell
    have n_Cell_content := T.n_Cell_content
    have n_Cell_link := T.n_Cell_link
    have n_Cell_maker := T.n_Cell_maker
    have n_Cell_place := T.n_Cell_place
    have n_Cell_references := T.n_Cell_references
    have n_Cell_serial := T.n_Cell_serial
    have cl_PlainHeap := T.cl_PlainHeap
    have n_PlainHeap_places := T.n_PlainHeap_places
    have n_PlainHeap_proxies := T.n_PlainHeap_proxies
    have n_PlainHeap_serials := T.n_PlainHeap_serials
    have cl_Proxy := T.cl_Proxy
    have n_Proxy_entry := T.n_Proxy_entry
    have n_Proxy_link := T.n_Proxy_link
    have n_Proxy_maker := T.n_Proxy_maker
    have n_Proxy_place := T.n_Proxy_place
    have n_Proxy_references := T.n_Proxy_references
    have n_Proxy_serial := T.n_Proxy_serial
    have cl_Service := T.cl_Service
    have n_Service_body := T.n_Service_body
    have n_Service_link := T.n_Service_link
    have n_Service_maker := T.n_Service_maker
    have n_Service_place := T.n_Service_place
    have n_Service_references := T.n_Service_references
    have n_Service_serial := T.n_Service_serial
    walk_at "rd"
    refine Rd.rfld hh hcl hn1 hl1 ?_
    walk_at "rd"
    refine Rd.xdget hp hv ?_
    unfold thO at ht k
    cases hkd : t.kd <;> rw [hkd] at ht k
    · walk_at "rd"
      rw [st_Cell_link]
      exact Rd.xlst rfl fun l H1 n1 e1 h1 => k l H1 e1 h1
    · walk_at "rd"
      rw [st_Service_link]
      exact Rd.xlst rfl fun l H1 n1 e1 h1 => k l H1 e1 h1
    · walk_at "rd"
      rw [st_Proxy_link]
      exact Rd.xlst rfl fun l H1 n1 e1 h1 => k l H1 e1 h1
def spOrder (K : PySem.W.Frag) : Sp := fun vs H Q _ => ∃ (h p s q : Addr) (kp ks kq : List (Key × V)) (ts : List Addr), vs = [.ref h] ∧ HeapF K H h p s q kp ks kq ∧ kp.map (·.1) = ((List.range ts.length).map fun (i : Nat) => (Sum.inl (i : Int) : Key)) ∧ (∀ (i : Nat) a, ts[i]? = some a → valV kp (.inl (i : Int)) = some (.ref a)) ∧
  ∀ l H', Evl.Ex H H' → H' l = some (.lst (ts.map V.ref)) → Q (.ref l) H'
theorem sort_keys {ys : List Int} {n : Nat} (h : ys.Perm ((List.range n).map fun (i : Nat) => (i : Int))) (s : ys.Pairwise (· ≤ ·)) : ys.map V.int = (List.range n).map fun (i : Nat) => V.int (i : Int) := by
  rw [Rd.perm_range h s, List.map_map]
  rfl
theorem ok_in_order {ad : Ad} (T : Txt K mg ad) : FnOk P w K mg base CX0 1 ad.a_in_order ad.d_in_order ["heap"] (spOrder K) := by
  refine T.F_in_order.ok sc_in_order (fun vs H Q E h => ?_) (fun cdv A outer s H vs Q E hr h => ?_)
  · obtain ⟨h, p, s1, q, kp, ks, kq, ts, rfl, ⟨⟨Ch, dh, fh, hh, hcl, hn1, hn2, hn3, hl1, hl2, hl3⟩, hp, hs, hq, ps, pq, sq, lp, _⟩, hkk, hv, k⟩ := h
    rfl
  · obtain ⟨h, p, s1, q, kp, ks, kq, ts, rfl, ⟨⟨Ch, dh, fh, hh, hcl, hn1, hn2, hn3, hl1, hl2, hl3⟩, hp, hs, hq, ps, pq, sq, lp, _⟩, hkk, hv, k⟩ := h
    refine ⟨_, (pss_one (ps_ret (pe_lc (own := [("place", 1)]) (g := gName 1) (tt := tYes) rfl sc_in_order.nd (pi_list (pe_callB (id := "sorted") (Rd.call_sortedDL rfl) (by rfl) T.z_sorted (by decide +kernel) (pa_cons (pe_fld (pv 0) rfl) pa_nil))) (blkOk_by (N := ["heap", "place"]) (sc := defScope s_in_order) (by decide +kernel)) (fun _ _ _ _ _ => (pg_name (i := 1) sc_in_order.nd rfl (Or.inl rfl))) (fun _ _ _ _ _ => pts_nil) (fun _ _ _ _ _ => (pe_dget (hu_of hr) (pe_fld (pv 0) rfl : PE _ _ (tFld K _ _)) (pv 1) (fun _ _ => rfl)))))), ?_⟩
    try dsimp only [L2.cxOf, L2.Cx.nox, L2.Cx.wish]
    change (_ : TS) _ ([some (.ref h), none] : St) _
    have cl_Cell := T.cl_Cell
    have n_Cell_content := T.n_Cell_content
    have n_Cell_link := T.n_Cell_link
    have n_Cell_maker := T.n_Cell_maker
    have n_Cell_place := T.n_Cell_place
    have n_Cell_references := T.n_Cell_references
    have n_Cell_serial := T.n_Cell_serial
    have cl_PlainHeap := T.cl_PlainHeap
    have n_PlainHeap_places := T.n_PlainHeap_places
    have n_PlainHeap_proxies := T.n_PlainHeap_proxies
    have n_PlainHeap_serials := T.n_PlainHeap_serials
    have cl_Proxy := T.cl_Proxy
    have n_Proxy_entry := T.n_Proxy_entry
    have n_Proxy_link := T.n_Proxy_link
    have n_Proxy_maker := T.n_Proxy_maker
    have n_Proxy_place := T.n_Proxy_place
    have n_Proxy_references := T.n_Proxy_references
    have n_Proxy_serial := T.n_Proxy_serial
    have cl_Service := T.cl_Service
    have n_Service_body := T.n_Service_body
    have n_Service_link := T.n_Service_link
    have n_Service_maker := T.n_Service_maker
    have n_Service_place := T.n_Service_place
    have n_Service_references := T.n_Service_references
    have n_Service_serial := T.n_Service_serial
    walk_at "rd"
    have hlen : kp.length = ts.length := key_len hkk
    refine Rd.rfld hh hcl hn1 hl1 ?_
    walk_at "rd"
    refine Rd.sortedDI hp (ks := (List.range ts.length).map fun (i : Nat) => (i : Int)) (by rw [hkk, List.map_map]; rfl) (by rw [List.length_map, List.length_range]; omega) fun ys l H1 hperm hsrt n1 e1 hl => ?_
    rw [sort_keys hperm hsrt] at hl
    walk_at "rd"
    refine Rd.xlcL (fun _ => true) (fun i => .ref (ts.getD i 0)) (SqL.of hl) (by rw [List.length_map, List.length_range]; omega) (fun _ => rfl) (fun i x Hc _ _ => Rd.evYes) (fun i x Hc ec hx _ H' e' Q' q' => ?_) fun l2 H2 n2 e2 hl2 => ?_
    · rw [List.getElem?_map] at hx
      obtain ⟨i', hi', rfl⟩ := Option.map_eq_some_iff.mp hx
      have hil : i < ts.length := by have := (List.getElem?_eq_some_iff.mp hi').1; rw [List.length_range] at this; exact this
      rw [List.getElem?_range hil] at hi'
      cases hi'
      have e0 := (e1.trans ec).trans e'
      have hti : ts[i]? = some (ts[i]'hil) := List.getElem?_eq_getElem hil
      have hg : ts.getD i 0 = ts[i]'hil := by rw [List.getD_eq_getElem?_getD, hti]; rfl
      have q2 := q'
      rw [hg] at q2
      walk_at "rd"
      refine Rd.rfld (e0 _ _ hh) hcl hn1 hl1 ?_
      walk_at "rd"
      exact Rd.xdget (e0 _ _ hp) (hv i _ hti) (q2 _ (Evl.Ex.refl _))
    rw [Rd.given_all, List.length_map, List.length_range] at hl2
    refine k l2 H2 (e1.trans e2) ?_
    rw [hl2]
    congr 2
    refine List.ext_getElem? fun i => ?_
    rw [List.getElem?_map, List.getElem?_map]
    by_cases hi : i < ts.length
    · rw [List.getElem?_range hi, List.getElem?_eq_getElem hi, Option.map_some, Option.map_some, List.getD_eq_getElem?_getD, List.getElem?_eq_getElem hi]
      rfl
    · rw [List.getElem?_eq_none (by rw [List.length_range]; omega), List.getElem?_eq_none (by omega)]
      rfl
theorem ok_PlainHeap_everything {ad : Ad} (T : Txt K mg ad) : FnOk P w K mg base CX0 2 ad.a_PlainHeap_everything ad.d_PlainHeap_everything ["self"] (spOrder K) := by
  refine T.F_PlainHeap_everything.ok sc_PlainHeap_everything (fun vs H Q E h => ?_) (fun cdv A outer s H vs Q E hr h => ?_)
  · obtain ⟨h, p, s1, q, kp, ks, kq, ts, rfl, hF, hkk, hv, k⟩ := h
    rfl
  · obtain ⟨h, p, s1, q, kp, ks, kq, ts, rfl, hF, hkk, hv, k⟩ := h
    refine ⟨_, (pss_one (ps_ret (pe_call (ok_in_order T) (hr.mono (by decide)) rfl T.m_in_order T.F_in_order.kp T.b_in_order .nil pass0 (pa_cons (pv 0) pa_nil)))), ?_⟩
    try dsimp only [L2.cxOf, L2.Cx.nox, L2.Cx.wish]
    change (_ : TS) _ ([some (.ref h)] : St) _
    walk_at "rd"
    exact ⟨h, p, s1, q, kp, ks, kq, ts, rfl, hF, hkk, hv, k⟩
/-! split -/
theorem at_ok : PyData.strOk "at" = true := by decide +kernel
def atD (n : Int) : PyData := .tuple [.str "at", .int n]
theorem shp_at (n : Int) : SeqAt.shaped (atD n) = true := by
  simp [SeqAt.shaped, atD, PyData.canLay0, PyData.canLayAll0, PyData.depth, PyData.depthAll, at_ok]
theorem dp_at {H : Hp} {r : Addr} {n : Int} (h : H r = some (.tup [.str "at", .int n])) : Dp K H (.ref r) (atD n) := Dt.ofT h (.cons (.str _) (.cons (.int _) .nil))
def spSameT (cC cS cP : Addr) : Sp := fun vs H Q _ => ∃ (a d dt : Addr) (i : Nat) (t : Th) (lv : V), vs = [.ref a, .int i, .ref d] ∧ H a = some (thO cC cS cP dt t i lv) ∧ LkAt H lv t.lk ∧ H d = some (.lst (dueL t)) ∧ ThOk H t ∧ ∀ H', Evl.Ex H H' → Q (.bl true) H'
theorem ok_law_same_thing {ad : Ad} (T : Txt K mg ad) : FnOk P w K mg base CX0 2 ad.a_law_same_thing ad.d_law_same_thing ["thing", "place", "due"] (spSameT ad.c_Cell ad.c_Service ad.c_Proxy) := by
  refine T.F_law_same_thing.ok sc_law_same_thing (fun vs H Q E h => ?_) (fun cdv A outer s H vs Q E hr h => ?_)
  · obtain ⟨a, d, dt, i, t, lv, rfl, ht, hl, hd, ⟨hma, hcc, hcs, hcp⟩, k⟩ := h
    rfl
  · obtain ⟨a, d, dt, i, t, lv, rfl, ht, hl, hd, ⟨hma, hcc, hcs, hcp⟩, k⟩ := h
    refine ⟨_, (pss_cons (ps_if (PW.pt (pw_or (pt_not (pt_val (pe_call (ok_law_whole T) (hr.mono (by decide)) rfl T.m_law_whole T.F_law_whole.kp T.b_law_whole .nil pass0 (pa_cons (pe_fld (pv 0) rfl) pa_nil)))) (pw_or1 (pt_cmpR op_ne (pe_fld (pv 0) rfl) (pv 1) (nomark _))))) (pss_one (ps_ret pe_bl)) pss_nil)
      (pss_cons (ps_if (PW.pt (pw_or (pt_not (pt_val (pe_call (ok_law_whole T) (hr.mono (by decide)) rfl T.m_law_whole T.F_law_whole.kp T.b_law_whole .nil pass0 (pa_cons (pe_fld (pv 0) rfl) pa_nil)))) (pw_or1 (pt_cmpR op_ne (pe_fld (pv 0) rfl) (pe_ix ix_list (pv 2) pe_int (fun _ _ => rfl)) (nomark _))))) (pss_one (ps_ret pe_bl)) pss_nil)
      (pss_cons (ps_set (i := 3) sc_law_same_thing.nd rfl (Or.inl rfl) pe_non)
      (pss_cons (ps_if (pt_cmpR op_notN1 (pe_ix ix_list (pv 2) pe_int (fun _ _ => rfl)) pe_non (nomark _)) (pss_one (ps_set (i := 3) sc_law_same_thing.nd rfl (Or.inl rfl) (pe_tup (pa_cons pe_str (pa_cons (pe_ix ix_list (pv 2) pe_int (fun _ _ => rfl)) pa_nil))))) pss_nil)
      (pss_cons (ps_if (PW.pt (pw_or (pt_cmpR (op_neD hr.units) (pe_fld (pv 0) rfl) (pv 3) (nomark _)) (pw_or1 (pt_cmpR op_ne (pe_fld (pv 0) rfl) (pe_ix ix_list (pv 2) pe_int (fun _ _ => rfl)) (nomark _))))) (pss_one (ps_ret pe_bl)) pss_nil)
      (pss_cons (ps_if (pt_cmpR op_eq (pe_ix ix_list (pv 2) pe_int (fun _ _ => rfl)) pe_str (nomark _)) (pss_one (ps_ret (pe_and (pe_callB (id := "isinstance") call_isi (by rfl) T.z_isinstance (by decide +kernel) (pa_cons (pv 0) (pa_cons (pe_glob (v := .ref ad.c_Proxy) rfl T.mg_Proxy rfl) pa_nil))) (pe_and (pe_cmpR op_eq (pe_fld (pv 0) rfl) (pe_ix ix_list (pv 2) pe_int (fun _ _ => rfl)) (nomark _)) (pe_one (pe_cmpR op_isN1 (pe_fld (pv 0) rfl) pe_non (nomark _))))))) pss_nil)
      (pss_cons (ps_if (pt_cmpR op_eq (pe_ix ix_list (pv 2) pe_int (fun _ _ => rfl)) pe_str (nomark _)) (pss_one (ps_ret (pe_and (pe_callB (id := "isinstance") call_isi (by rfl) T.z_isinstance (by decide +kernel) (pa_cons (pv 0) (pa_cons (pe_glob (v := .ref ad.c_Cell) rfl T.mg_Cell rfl) pa_nil))) (pe_and (pe_cmpR op_eq (pe_fld (pv 0) rfl) (pe_ix ix_list (pv 2) pe_int (fun _ _ => rfl)) (nomark _)) (pe_one (pe_cmpR (op_eqD hr.units) (pe_fld (pv 0) rfl) (pe_ix ix_list (pv 2) pe_int (fun _ _ => rfl)) (nomark _))))))) pss_nil)
      (pss_one (ps_ret (pe_and (pe_callB (id := "isinstance") call_isi (by rfl) T.z_isinstance (by decide +kernel) (pa_cons (pv 0) (pa_cons (pe_glob (v := .ref ad.c_Service) rfl T.mg_Service rfl) pa_nil))) (pe_and (pe_cmpR op_eq (pe_fld (pv 0) rfl) (pe_ix ix_list (pv 2) pe_int (fun _ _ => rfl)) (nomark _)) (pe_one (pe_cmpR (op_eqD hr.units) (pe_fld (pv 0) rfl) (pe_ix ix_list (pv 2) pe_int (fun _ _ => rfl)) (nomark _)))))))))))))), ?_⟩
    try dsimp only [L2.cxOf, L2.Cx.nox, L2.Cx.wish]
    change (_ : TS) _ ([some (.ref a), some (.int i), some (.ref d), none] : St) _
    have cl_Cell := T.cl_Cell
    have n_Cell_content := T.n_Cell_content
    have n_Cell_link := T.n_Cell_link
    have n_Cell_maker := T.n_Cell_maker
    have n_Cell_place := T.n_Cell_place
    have n_Cell_references := T.n_Cell_references
    have n_Cell_serial := T.n_Cell_serial
    have cl_PlainHeap := T.cl_PlainHeap
    have n_PlainHeap_places := T.n_PlainHeap_places
    have n_PlainHeap_proxies := T.n_PlainHeap_proxies
    have n_PlainHeap_serials := T.n_PlainHeap_serials
    have cl_Proxy := T.cl_Proxy
    have n_Proxy_entry := T.n_Proxy_entry
    have n_Proxy_link := T.n_Proxy_link
    have n_Proxy_maker := T.n_Proxy_maker
    have n_Proxy_place := T.n_Proxy_place
    have n_Proxy_references := T.n_Proxy_references
    have n_Proxy_serial := T.n_Proxy_serial
    have cl_Service := T.cl_Service
    have n_Service_body := T.n_Service_body
    have n_Service_link := T.n_Service_link
    have n_Service_maker := T.n_Service_maker
    have n_Service_place := T.n_Service_place
    have n_Service_references := T.n_Service_references
    have n_Service_serial := T.n_Service_serial
    obtain ⟨kd, num, ma, ct, lk⟩ := t
    dsimp only at *
    have hmd : ∃ dm, Dp K H ma dm ∧ scal ma ma = true := by
      rcases hma with rfl | ⟨i, rfl⟩
      · exact ⟨.none, .non, rfl⟩
      · exact ⟨.int i, .int i, rfl⟩
    obtain ⟨dm, _, hscal⟩ := hmd
    have hdm : decide (ma = ma) = true := decide_eq_true rfl
    cases kd
    · have ht' : H a = some (.ins ad.c_Cell dt (fs_Cell (.int num) ma ct (.int i) lv (.int 0))) := ht
      obtain ⟨dct, hct, sct⟩ := (hcc rfl).dp (K := K)
      cases lk with
      | none =>
        obtain rfl : lv = .non := hl
        have hd' : H d = some (.lst [.str "cell", .int num, ma, ct, .non, .int 0]) := hd
        walk_at "rd"
        refine ⟨_, rfl, ?_⟩
        walk_at "rd"
        refine ⟨_, rfl, ?_⟩
        walk_at "rd"
        refine Rd.neDr .non .non (by decide) ?_
        walk_at "rd"
        refine Rd.neX hscal ?_
        rw [hdm]
        walk_at "rd"
        refine Rd.isiOwn ht' T.cl_Cell T.is_Cell T.is_get T.is_tk T.io_Cell T.kt_Cell_Cell ?_
        walk_at "rd"
        refine Rd.eqDr hct hct sct ?_
        exact k _ (Evl.Ex.refl _)
      | some j =>
        obtain ⟨r, rfl, hr0⟩ := hl
        have hd' : H d = some (.lst [.str "cell", .int num, ma, ct, .int j, .int 0]) := hd
        walk_at "rd"
        refine ⟨_, rfl, ?_⟩
        walk_at "rd"
        refine ⟨_, rfl, ?_⟩
        walk_at "rd"
        refine Rd.xtup rfl fun r2 H1 n1 e1 hr2 => ?_
        have ht1 := e1 _ _ ht'
        have hd1 := e1 _ _ hd'
        have hct1 := Dt.mn hct e1
        walk_at "rd"
        refine Rd.neDr (dp_at (e1 _ _ hr0)) (dp_at hr2) (shp_at _) ?_
        walk_at "rd"
        refine Rd.neX hscal ?_
        rw [hdm]
        walk_at "rd"
        refine Rd.isiOwn ht1 T.cl_Cell T.is_Cell T.is_get T.is_tk T.io_Cell T.kt_Cell_Cell ?_
        walk_at "rd"
        refine Rd.eqDr hct1 hct1 sct ?_
        exact k _ e1
    · have ht' : H a = some (.ins ad.c_Service dt (fs_Service (.int num) ma ct (.int i) lv (.int 0))) := ht
      obtain ⟨bi, rfl⟩ := hcs rfl
      have hct : Dp K H (.int bi) (.int bi) := .int bi
      have sct : SeqAt.shaped (.int bi) = true := rfl
      cases lk with
      | none =>
        obtain rfl : lv = .non := hl
        have hd' : H d = some (.lst [.str "service", .int num, ma, .int bi, .non, .int 0]) := hd
        walk_at "rd"
        refine ⟨_, rfl, ?_⟩
        walk_at "rd"
        refine ⟨_, rfl, ?_⟩
        walk_at "rd"
        refine Rd.neDr .non .non (by decide) ?_
        walk_at "rd"
        refine Rd.neX hscal ?_
        rw [hdm]
        walk_at "rd"
        refine Rd.isiOwn ht' T.cl_Service T.is_Service T.is_get T.is_tk T.io_Service T.kt_Service_Service ?_
        walk_at "rd"
        refine Rd.eqDr hct hct sct ?_
        exact k _ (Evl.Ex.refl _)
      | some j =>
        obtain ⟨r, rfl, hr0⟩ := hl
        have hd' : H d = some (.lst [.str "service", .int num, ma, .int bi, .int j, .int 0]) := hd
        walk_at "rd"
        refine ⟨_, rfl, ?_⟩
        walk_at "rd"
        refine ⟨_, rfl, ?_⟩
        walk_at "rd"
        refine Rd.xtup rfl fun r2 H1 n1 e1 hr2 => ?_
        have ht1 := e1 _ _ ht'
        have hd1 := e1 _ _ hd'
        have hct1 := Dt.mn hct e1
        walk_at "rd"
        refine Rd.neDr (dp_at (e1 _ _ hr0)) (dp_at hr2) (shp_at _) ?_
        walk_at "rd"
        refine Rd.neX hscal ?_
        rw [hdm]
        walk_at "rd"
        refine Rd.isiOwn ht1 T.cl_Service T.is_Service T.is_get T.is_tk T.io_Service T.kt_Service_Service ?_
        walk_at "rd"
        refine Rd.eqDr hct1 hct1 sct ?_
        exact k _ e1
    · have ht' : H a = some (.ins ad.c_Proxy dt (fs_Proxy .non .non (.int num) (.int i) lv (.int 0))) := ht
      obtain ⟨rfl, rfl, rfl⟩ := hcp rfl
      obtain rfl : lv = .non := hl
      have hd' : H d = some (.lst [.str "proxy", .int num, .non, .non, .non, .int 0]) := hd
      walk_at "rd"
      refine ⟨_, rfl, ?_⟩
      walk_at "rd"
      refine ⟨_, rfl, ?_⟩
      walk_at "rd"
      refine Rd.neDr .non .non (by decide) ?_
      walk_at "rd"
      refine Rd.neX rfl ?_
      rw [decide_eq_true (rfl : V.non = V.non)]
      walk_at "rd"
      refine Rd.isiOwn ht' T.cl_Proxy T.is_Proxy T.is_get T.is_tk T.io_Proxy T.kt_Proxy_Proxy ?_
      walk_at "rd"
      exact k _ (Evl.Ex.refl _)
/-! split -/
def keyW (t : Th) : List Key := [.inl (PpSet.b2 (isP t.kd)), .inl t.num]
theorem kOf_w (b : Bool) (x : Int) : ([V.bl b, V.int x] : List V).map Nk.kOf = ([Sum.inl (PpSet.b2 b), Sum.inl x] : List Key).map some := rfl
theorem kS_isP (k : Kd) : decide (kS k = "proxy") = isP k := by cases k <;> decide +kernel
/-- where the first i things stand, told by number -/
structure WhOk (ps : List Nk.Row3) (T : List Th) (i : Nat) : Prop where
  len : ps.length = i
  at_ : ∀ (j : Nat) t, j < i → T[j]? = some t → Nk.valN ps (keyW t) = some (.int j)
  no : ∀ key, (∀ (j : Nat) t, j < i → T[j]? = some t → keyW t ≠ key) → Nk.valN ps key = none
theorem keyW_inj {t u : Th} (h : keyW t = keyW u) : isP t.kd = isP u.kd ∧ t.num = u.num := by
  unfold keyW at h
  injection h with h1 h2
  injection h2 with h2 _
  exact ⟨Nk.b2_inj (by injection h1), by injection h2⟩
theorem WhOk.look {ps : List Nk.Row3} {T : List Th} (h : WhOk ps T T.length) (b : Bool) : LookOk (fun x => Nk.valN ps [.inl (PpSet.b2 b), .inl x]) T b := by
  refine ⟨fun i t hi hb => ?_, fun x hx => h.no _ fun j t _ hj e => ?_⟩
  · have := h.at_ i t (List.getElem?_eq_some_iff.mp hi).1 hi
    unfold keyW at this
    rw [hb] at this
    exact this
  · unfold keyW at e
    injection e with h1 h2
    injection h2 with h2 _
    exact hx t (List.mem_of_getElem? hj) (Nk.b2_inj (by injection h1)) (by injection h2)
theorem WhOk.snoc {ps : List Nk.Row3} {T : List Th} {i : Nat} {t : Th} {b : Addr} (h : WhOk ps T i) (ht : T[i]? = some t) (nd : (T.map (·.num)).Nodup) : Nk.valN ps (keyW t) = none ∧ WhOk (ps ++ [(keyW t, b, .int i)]) T (i + 1) := by
  have hn : Nk.valN ps (keyW t) = none := h.no _ fun j u hj hu e => by
    obtain ⟨_, e2⟩ := keyW_inj e
    have h1 : (T.map (·.num))[j]? = some u.num := by rw [List.getElem?_map, hu]; rfl
    have h2 : (T.map (·.num))[i]? = some t.num := by rw [List.getElem?_map, ht]; rfl
    have := (List.getElem?_inj (List.getElem?_eq_some_iff.mp h1).1 nd).mp (h1.trans (by rw [e2, h2]))
    omega
  have hv : ∀ key, Nk.valN (ps ++ [(keyW t, b, .int i)]) key = if key = keyW t then some (.int i) else Nk.valN ps key := fun key => Nk.valN_snoc key hn
  refine ⟨hn, by rw [List.length_append, h.len]; rfl, fun j u hj hu => ?_, fun key hk => ?_⟩
  · rw [hv]
    by_cases hji : j = i
    · subst hji
      rw [ht] at hu
      cases hu
      rw [if_pos rfl]
    · have h1 := h.at_ j u (by omega) hu
      rw [if_neg (fun e => by rw [e, hn] at h1; cases h1)]
      exact h1
  · rw [hv, if_neg (fun e => hk i t (by omega) ht e.symm)]
    exact h.no key fun j u hj hu => hk j u (by omega) hu
def spSameH (cH cC cS cP : Addr) (K : PySem.W.Frag) : Sp := fun vs H Q _ => ∃ (h td l p s q : Addr) (kp ks kq kt : List (Key × V)) (T : List Th) (ts ds : List Addr) (ns : List Int), vs = [.ref h, .ref td, .ref l] ∧ LS K cH cC cS cP H h td p s q kp ks kq kt T ts ds ∧ H l = some (.lst (ns.map V.int)) ∧ T.length ≤ 500 ∧ (T.map (·.num)).Nodup ∧ ∀ H', Evl.Ex H H' → Q (.bl true) H'
theorem lk_getD {f : Int → Option V} {T : List Th} {b : Bool} (h : LookOk f T b) (x : Int) : scal ((f x).getD .non) ((f x).getD .non) = true := by
  by_cases h' : ∃ t ∈ T, isP t.kd = b ∧ t.num = x
  · obtain ⟨t, ht, hb, rfl⟩ := h'
    obtain ⟨i, hi⟩ := List.getElem?_of_mem ht
    rw [h.1 i t hi hb]
    rfl
  · rw [h.2 x fun t ht hb e => h' ⟨t, ht, hb, e⟩]
    rfl
theorem ok_law_same_heap {ad : Ad} (T : Txt K mg ad) : FnOk P w K mg base CX0 3 ad.a_law_same_heap ad.d_law_same_heap ["heap", "things", "numbers"] (spSameH ad.c_PlainHeap ad.c_Cell ad.c_Service ad.c_Proxy K) := by
  refine T.F_law_same_heap.ok sc_law_same_heap (fun vs H Q E h => ?_) (fun cdv A outer s H vs Q E hr h => ?_)
  · obtain ⟨h, td, l, p, s1, q, kp, ks, kq, kt, T0, ts, ds, ns, rfl, g, hl, hT, hnd, k⟩ := h
    rfl
  · obtain ⟨h, td, l, p, s1, q, kp, ks, kq, kt, T0, ts, ds, ns, rfl, g, hl, hT, hnd, k⟩ := h
    refine ⟨_, (pss_cons (ps_set (i := 3) sc_law_same_heap.nd rfl (Or.inl rfl) (pe_meth0 (pv 0) T.cl_PlainHeap T.me_PlainHeap_everything (ok_PlainHeap_everything T) (hr.mono (by decide)) T.b_PlainHeap_everything .nil pass0))
      (pss_cons (ps_set (i := 4) sc_law_same_heap.nd rfl (Or.inl rfl) (pe_callB (id := "sorted") (Rd.call_sortedDL rfl) (by rfl) T.z_sorted (by decide +kernel) (pa_cons (pv 1) pa_nil)))
      (pss_cons (ps_if (PW.pt (pw_or (pt_not (pt_val (pe_callB (id := "isinstance") call_isi (by rfl) T.z_isinstance (by decide +kernel) (pa_cons (pv 3) (pa_cons (pe_bltn rfl T.z_list (by decide +kernel) (v := .ty "list") rfl) pa_nil))))) (pw_or1 (pt_cmpR op_ne (pe_callB (id := "len") Rd.c_len (by rfl) T.z_len (by decide +kernel) (pa_cons (pv 3) pa_nil)) (pe_callB (id := "len") Rd.c_len (by rfl) T.z_len (by decide +kernel) (pa_cons (pv 4) pa_nil)) (nomark _))))) (pss_one (ps_ret pe_bl)) pss_nil)
      (pss_cons (ps_set (i := 5) sc_law_same_heap.nd rfl (Or.inl rfl) Nk.pe_nnew)
      (pss_cons (ps_for PassesOwn.never rfl (pi_range1 rfl T.z_range (pa_cons (pe_callB (id := "len") Rd.c_len (by rfl) T.z_len (by decide +kernel) (pa_cons (pv 4) pa_nil)) pa_nil)) (pg_name (i := 6) sc_law_same_heap.nd rfl (Or.inl rfl)) (pss_cons (ps_set (i := 7) sc_law_same_heap.nd rfl (Or.inl rfl) (pe_dget (hu_of hr) (pv 1) (pe_ix ix_list (pv 4) (pv 6) (fun _ _ => rfl)) (fun _ _ => rfl)))
      (pss_cons (ps_if (pt_not (pt_val (pe_call (ok_law_same_thing T) (hr.mono (by decide)) rfl T.m_law_same_thing T.F_law_same_thing.kp T.b_law_same_thing .nil pass0 (pa_cons (pe_ix ix_list (pv 3) (pv 6) (fun _ _ => rfl)) (pa_cons (pe_ix ix_list (pv 4) (pv 6) (fun _ _ => rfl)) (pa_cons (pv 7) pa_nil)))))) (pss_one (ps_ret pe_bl)) pss_nil)
      (pss_cons (ps_if (pt_not (pt_val (pe_call (ok_law_same_thing T) (hr.mono (by decide)) rfl T.m_law_same_thing T.F_law_same_thing.kp T.b_law_same_thing .nil pass0 (pa_cons (pe_meth (pv 0) T.cl_PlainHeap T.me_PlainHeap_thing (ok_PlainHeap_thing T) (hr.mono (by decide)) T.b_PlainHeap_thing .nil pass0 (pa_cons (pe_tup (pa_cons pe_str (pa_cons (pe_ix ix_list (pv 4) (pv 6) (fun _ _ => rfl)) pa_nil))) pa_nil)) (pa_cons (pe_ix ix_list (pv 4) (pv 6) (fun _ _ => rfl)) (pa_cons (pv 7) pa_nil)))))) (pss_one (ps_ret pe_bl)) pss_nil)
      (pss_one (Nk.ps_nput (hu_of hr) (pv 5) (pe_tup (pa_cons (pe_cmpR op_eq (pe_ix ix_list (pv 7) pe_int (fun _ _ => rfl)) pe_str (nomark _)) (pa_cons (pe_ix ix_list (pv 7) pe_int (fun _ _ => rfl)) pa_nil))) (pe_ix ix_list (pv 4) (pv 6) (fun _ _ => rfl)) rfl))))))
      (pss_cons (ps_for PassesOwn.never rfl (pi_list (pv 2)) (pg_name (i := 8) sc_law_same_heap.nd rfl (Or.inl rfl)) (pss_one (ps_if (PW.pt (pw_or (pt_cmpR op_ne (pe_meth (pv 0) T.cl_PlainHeap T.me_PlainHeap_where (ok_PlainHeap_where T) (hr.mono (by decide)) T.b_PlainHeap_where .nil pass0 (pa_cons (pv 8) pa_nil)) (Nk.pe_nget1 (hu_of hr) (pv 5) (pe_tup (pa_cons pe_bl (pa_cons (pv 8) pa_nil))) ⟨by rfl, by rfl, by rfl, by rfl⟩) (nomark _)) (pw_or1 (pt_cmpR op_ne (pe_meth (pv 0) T.cl_PlainHeap T.me_PlainHeap_where_proxy (ok_PlainHeap_where_proxy T) (hr.mono (by decide)) T.b_PlainHeap_where_proxy .nil pass0 (pa_cons (pv 8) pa_nil)) (Nk.pe_nget1 (hu_of hr) (pv 5) (pe_tup (pa_cons pe_bl (pa_cons (pv 8) pa_nil))) ⟨by rfl, by rfl, by rfl, by rfl⟩) (nomark _))))) (pss_one (ps_ret pe_bl)) pss_nil)))
      (pss_one (ps_ret pe_bl)))))))), ?_⟩
    try dsimp only [L2.cxOf, L2.Cx.nox, L2.Cx.wish]
    change (_ : TS) _ ([some (.ref h), some (.ref td), some (.ref l), none, none, none, none, none, none] : St) _
    have cl_Cell := T.cl_Cell
    have n_Cell_content := T.n_Cell_content
    have n_Cell_link := T.n_Cell_link
    have n_Cell_maker := T.n_Cell_maker
    have n_Cell_place := T.n_Cell_place
    have n_Cell_references := T.n_Cell_references
    have n_Cell_serial := T.n_Cell_serial
    have cl_PlainHeap := T.cl_PlainHeap
    have n_PlainHeap_places := T.n_PlainHeap_places
    have n_PlainHeap_proxies := T.n_PlainHeap_proxies
    have n_PlainHeap_serials := T.n_PlainHeap_serials
    have cl_Proxy := T.cl_Proxy
    have n_Proxy_entry := T.n_Proxy_entry
    have n_Proxy_link := T.n_Proxy_link
    have n_Proxy_maker := T.n_Proxy_maker
    have n_Proxy_place := T.n_Proxy_place
    have n_Proxy_references := T.n_Proxy_references
    have n_Proxy_serial := T.n_Proxy_serial
    have cl_Service := T.cl_Service
    have n_Service_body := T.n_Service_body
    have n_Service_link := T.n_Service_link
    have n_Service_maker := T.n_Service_maker
    have n_Service_place := T.n_Service_place
    have n_Service_references := T.n_Service_references
    have n_Service_serial := T.n_Service_serial
    obtain ⟨dx, hh⟩ := id g.st
    walk_at "rd"
    refine ⟨h, p, s1, q, kp, ks, kq, ts, rfl, g.F, by rw [g.lt]; exact g.kkp, g.vp, fun lf H1 e1 hf => ?_⟩
    have g1 := g.ex e1
    walk_at "rd"
    refine Rd.sortedDI g1.atd (ks := (List.range T0.length).map fun (i : Nat) => (i : Int)) (by rw [g1.kkt, List.map_map]; rfl) (by rw [List.length_map, List.length_range]; omega) fun ys lp H2 hperm hsrt n2 e2 hlp => ?_
    rw [sort_keys hperm hsrt] at hlp
    have hf2 := e2 _ _ hf
    walk_at "rd"
    rw [List.length_map, List.length_map, List.length_range, g.lt]
    walk_at "rd"
    refine Nk.nnew fun kd hkd => ?_
    have e3 : Evl.Ex H2 (upd H2 kd (Nk.DN P w kd [])) := Evl.Ex.new hkd
    have hk3 : (upd H2 kd (Nk.DN P w kd [])) kd = some (Nk.DN P w kd []) := upd_same
    have hnk : H kd = none := Evl.fresh_back (e1.trans e2) hkd
    have e03 := (e1.trans e2).trans e3
    generalize upd H2 kd (Nk.DN P w kd []) = H3 at e3 hk3 e03 ⊢
    have hlp3 := e3 _ _ hlp
    have hf3 := e3 _ _ hf2
    have nlp : lp ≠ kd := ne_of_none hlp hkd
    have nlf : lf ≠ kd := ne_of_none hf2 hkd
    walk_at "rd"
    rw [List.length_map, List.length_range]
    refine Rd.xfr1 ⟨by omega, by omega⟩ (fun i σ H' => ∃ (ps : List Nk.Row3) (v6 v7 v8 : Option V), σ = [some (.ref h), some (.ref td), some (.ref l), some (.ref lf), some (.ref lp), some (.ref kd), v6, v7, v8] ∧ Evl.Ex H H' ∧ H' lp = some (.lst ((List.range T0.length).map fun (i : Nat) => V.int (i : Int))) ∧ H' lf = some (.lst (ts.map V.ref)) ∧ H' kd = some (Nk.DN P w kd ps) ∧ Nk.KeysIn K H' ps ∧ WhOk ps T0 i)
      ⟨[], _, _, _, rfl, e03, hlp3, hf3, hk3, Nk.KeysIn.nil, rfl, fun j t hj => (by omega), fun key _ => rfl⟩ ?_ ?_
    · rintro i σ H4 hi ⟨ps, v6, v7, v8, rfl, e4, hlp4, hf4, hk4, hki, hw⟩
      have g4 := g.ex e4
      obtain ⟨t, hti⟩ : ∃ t, T0[i]? = some t := ⟨_, List.getElem?_eq_getElem (by omega)⟩
      obtain ⟨a, hai⟩ : ∃ a, ts[i]? = some a := ⟨_, List.getElem?_eq_getElem (by rw [g.lt]; omega)⟩
      obtain ⟨d, hdi⟩ : ∃ d, ds[i]? = some d := ⟨_, List.getElem?_eq_getElem (by rw [g.ld]; omega)⟩
      have hpi : ((List.range T0.length).map fun (i : Nat) => V.int (i : Int))[i]? = some (.int (i : Int)) := by rw [List.getElem?_map, List.getElem?_range (by omega)]; rfl
      have hfi : (ts.map V.ref)[i]? = some (.ref a) := by rw [List.getElem?_map, hai]; rfl
      obtain ⟨dt, lv, hta, hlv⟩ := g4.th i t a hti hai
      have hdd := g4.du i t d hti hdi
      have hok := g4.ok t (List.mem_of_getElem? hti)
      walk_at "rd"
      refine Rd.ixL (SqL.of hlp4) (atI_nat hpi) ?_
      walk_at "rd"
      refine Rd.xdget g4.atd (g4.vt i d hdi) ?_
      walk_at "rd"
      refine Rd.ixL (SqL.of hf4) (atI_nat hfi) ?_
      walk_at "rd"
      refine Rd.ixL (SqL.of hlp4) (atI_nat hpi) ?_
      walk_at "rd"
      refine ⟨a, d, dt, i, t, lv, rfl, hta, hlv, hdd, hok, fun H5 e5 => ?_⟩
      have hlp5 := e5 _ _ hlp4
      obtain ⟨dx4, hh5⟩ := (g4.ex e5).st
      walk_at "rd"
      refine Rd.ixL (SqL.of hlp5) (atI_nat hpi) ?_
      walk_at "rd"
      refine Rd.xtup rfl fun r H6 n6 e6 hr6 => ?_
      have e46 := e5.trans e6
      have g6 := g4.ex e46
      have hlp6 := e46 _ _ hlp4
      walk_at "rd"
      refine ⟨h, p, s1, q, r, i, kp, ks, kq, .ref a, rfl, g6.F, hr6, g6.vp i a hai, ?_⟩
      walk_at "rd"
      refine Rd.ixL (SqL.of hlp6) (atI_nat hpi) ?_
      walk_at "rd"
      refine ⟨a, d, dt, i, t, lv, rfl, e46 _ _ hta, hlv.keep (exTup e46), e46 _ _ hdd, hok.keep (exTup e46), fun H7 e7 => ?_⟩
      have e47 := e46.trans e7
      have hlp7 := e47 _ _ hlp4
      have hdd7 : H7 d = some (.lst [.str (kS t.kd), .int t.num, t.ma, t.ct, lkV t.lk, .int 0]) := e47 _ _ hdd
      walk_at "rd"
      refine Rd.ixL (SqL.of hlp7) (atI_nat hpi) ?_
      walk_at "rd"
      rw [kS_isP]
      refine Rd.xtup rfl fun kt8 H8 n8 e8 hkt8 => ?_
      have e48 := e47.trans e8
      obtain ⟨hnone, hw'⟩ := hw.snoc (b := kt8) hti hnd
      have hkd8 := e48 _ _ hk4
      refine Nk.xnput (P := P) (w := w) (K := K) hkd8 (hki.mono e48) (SqT.of hkt8) (kOf_w (isP t.kd) t.num) hnone (by rw [hw.len]; omega) ?_
      walk_at "rd"
      refine ⟨ps ++ [(keyW t, kt8, .int i)], _, _, _, rfl, Evl.Ex.mut (e4.trans e48) hnk, (upd_ne nlp).trans (e48 _ _ hlp4), (upd_ne nlf).trans (e48 _ _ hf4), upd_same, ((hki.mono e48).snoc (v := .int i) (SqT.of hkt8) (kOf_w (isP t.kd) t.num)).dn hkd8, hw'⟩
    · rintro σ H4 ⟨ps, v6, v7, v8, rfl, e4, hlp4, hf4, hk4, hki, hw⟩
      have hwT : WhOk ps T0 T0.length := hw
      have hl4 := e4 _ _ hl
      walk_at "rd"
      refine Rd.xfl (SqL.of hl4) (fun i σ H' => ∃ v8, σ = [some (.ref h), some (.ref td), some (.ref l), some (.ref lf), some (.ref lp), some (.ref kd), v6, v7, v8] ∧ Evl.Ex H4 H') ⟨_, rfl, Evl.Ex.refl _⟩ (fun i σ H' _ ⟨_, _, e⟩ => SqL.of (e _ _ hl4)) ?_ ?_
      · rintro i y σ H5 hy ⟨v8', rfl, e5⟩
        rw [List.getElem?_map] at hy
        obtain ⟨x, _, rfl⟩ := Option.map_eq_some_iff.mp hy
        have g5 := g.ex (e4.trans e5)
        obtain ⟨dx5, hh5⟩ := id g5.st
        have hk5 := e5 _ _ hk4
        walk_at "rd"
        refine ⟨h, p, s1, q, x, kp, ks, kq, rfl, g5.F, ?_⟩
        walk_at "rd"
        refine Nk.xisn hk5 ?_
        walk_at "rd"
        refine Rd.xtup rfl fun r6 H6 n6 e6 hr6 => ?_
        refine Nk.xnget1 (e6 _ _ hk5) (hki.mono (e5.trans e6)) (SqT.of hr6) (kOf_w false x) rfl ?_
        have q1 := g5.ls.eq (hwT.look false) x
        have q2 := lk_getD g5.ls x
        try dsimp only at q1 q2
        rw [← q1]
        refine Rd.neX q2 ?_
        rw [decide_eq_true rfl]
        have g6 := g5.ex e6
        obtain ⟨dx6, hh6⟩ := id g6.st
        have hk6 := e6 _ _ hk5
        walk_at "rd"
        refine ⟨h, p, s1, q, x, kp, ks, kq, rfl, g6.F, ?_⟩
        walk_at "rd"
        refine Nk.xisn hk6 ?_
        walk_at "rd"
        refine Rd.xtup rfl fun r7 H7 n7 e7 hr7 => ?_
        refine Nk.xnget1 (e7 _ _ hk6) (hki.mono ((e5.trans e6).trans e7)) (SqT.of hr7) (kOf_w true x) rfl ?_
        have q3 := g6.lq.eq (hwT.look true) x
        have q4 := lk_getD g6.lq x
        try dsimp only at q3 q4
        rw [← q3]
        refine Rd.neX q4 ?_
        rw [decide_eq_true rfl]
        walk_at "rd"
        exact ⟨_, rfl, (e5.trans e6).trans e7⟩
      · rintro σ H5 ⟨v8', rfl, e5⟩
        walk_at "rd"
        exact k _ (e4.trans e5)
/-! split -/
/-- the deck, the heap and the book -/
def Bk (K : PySem.W.Frag) (cH cC cS cP : Addr) (H : Hp) (dk h td : Addr) (T : List Th) : Prop := H dk = some (Dk.DkO dk) ∧ ∃ p s q kp ks kq kt ts ds, LS K cH cC cS cP H h td p s q kp ks kq kt T ts ds
theorem Bk.ex {cH cC cS cP : Addr} {H H' : Hp} {dk h td : Addr} {T : List Th} (b : Bk K cH cC cS cP H dk h td T) (e : Evl.Ex H H') : Bk K cH cC cS cP H' dk h td T := by
  obtain ⟨hD, p, s, q, kp, ks, kq, kt, ts, ds, g⟩ := b
  exact ⟨e _ _ hD, p, s, q, kp, ks, kq, kt, ts, ds, g.ex e⟩
theorem dk_ne {l : Addr} {o : HO} (h : Dk.DkO l = o) (n : ∀ f, o ≠ .ext f) : False := n _ h.symm
theorem dkO_ins {l C dx : Addr} {fs : List (Str × V)} : Dk.DkO l ≠ .ins C dx fs := fun z => by
  have z' : HO.ext _ = HO.ins C dx fs := z
  cases z'
theorem dkO_dk {l : Addr} {kv : List (Key × V)} : Dk.DkO l ≠ .dK kv := fun z => by
  have z' : HO.ext _ = HO.dK kv := z
  cases z'
theorem dkO_lst {l : Addr} {kv : List V} : Dk.DkO l ≠ .lst kv := fun z => by
  have z' : HO.ext _ = HO.lst kv := z
  cases z'
theorem dkO_th {l dt : Addr} {cC cS cP : Addr} {t : Th} {i : Nat} {lv : V} : Dk.DkO l ≠ thO cC cS cP dt t i lv := fun z => by
  unfold thO at z
  cases hk : t.kd <;> rw [hk] at z <;> exact dkO_ins z
def spMk (cH cC cS cP : Addr) (K : PySem.W.Frag) : Sp := fun vs H Q _ => ∃ (dk h td : Addr) (T : List Th) (num : Int), vs = [.ref dk, .ref h, .ref td, .int num, .int T.length] ∧ Bk K cH cC cS cP H dk h td T ∧ T.length ≤ 400 ∧ (∀ u ∈ T, u.num ≠ num) ∧
  ∀ H' t, Bk K cH cC cS cP H' dk h td (T ++ [t]) → t.num = num → Q (.bl true) H'
theorem mk3_at {k : Int} (h0 : 0 ≤ k) (h1 : k < 3) : ∃ v : V, atI [V.non, .int 0, .int 1] k = some v ∧ (v = .non ∨ ∃ i, v = .int i) := by
  rcases (by omega : k = 0 ∨ k = 1 ∨ k = 2) with rfl | rfl | rfl
  · exact ⟨_, rfl, .inl rfl⟩
  · exact ⟨_, rfl, .inr ⟨_, rfl⟩⟩
  · exact ⟨_, rfl, .inr ⟨_, rfl⟩⟩
theorem ct4_at {k : Int} {a b c : Addr} {H : Hp} {n : Int} (h0 : 0 ≤ k) (h1 : k < 4) (ha : H a = some (.tup [.str "number", .int n])) (hb : H b = some (.tup [.str "text", .str "ab"])) (hc : H c = some (.tup [.str "code", .int 3])) : ∃ v : V, atI [V.non, .ref a, .ref b, .ref c] k = some v ∧ CtAt H v := by
  rcases (by omega : k = 0 ∨ k = 1 ∨ k = 2 ∨ k = 3) with rfl | rfl | rfl | rfl
  · exact ⟨_, rfl, .inl rfl⟩
  · exact ⟨_, rfl, .inr ⟨a, _, _, rfl, by decide +kernel, ha, .inl ⟨_, rfl⟩⟩⟩
  · exact ⟨_, rfl, .inr ⟨b, _, _, rfl, by decide +kernel, hb, .inr ⟨_, rfl, by decide +kernel⟩⟩⟩
  · exact ⟨_, rfl, .inr ⟨c, _, _, rfl, by decide +kernel, hc, .inl ⟨_, rfl⟩⟩⟩
theorem ok_law_make {ad : Ad} (T : Txt K mg ad) : FnOk P w K mg base CX0 4 ad.a_law_make ad.d_law_make ["deck", "heap", "things", "number", "place"] (spMk ad.c_PlainHeap ad.c_Cell ad.c_Service ad.c_Proxy K) := by
  refine T.F_law_make.ok sc_law_make (fun vs H Q E h => ?_) (fun cdv A outer s H vs Q E hr h => ?_)
  · obtain ⟨dk, h, td, T0, num, rfl, hB, hT, hfr, k⟩ := h
    rfl
  · obtain ⟨dk, h, td, T0, num, rfl, hB, hT, hfr, k⟩ := h
    refine ⟨_, (pss_cons (ps_set (i := 5) sc_law_make.nd rfl (Or.inl rfl) (pe_call (ok_law_take T) (hr.mono (by decide)) rfl T.m_law_take T.F_law_take.kp T.b_law_take .nil pass0 (pa_cons (pv 0) (pa_cons pe_int pa_nil))))
      (pss_cons (ps_set (i := 6) sc_law_make.nd rfl (Or.inl rfl) (pe_ix ix_list (pe_lst (pa_cons pe_non (pa_cons pe_int (pa_cons pe_int pa_nil)))) (pe_call (ok_law_take T) (hr.mono (by decide)) rfl T.m_law_take T.F_law_take.kp T.b_law_take .nil pass0 (pa_cons (pv 0) (pa_cons pe_int pa_nil))) (fun _ _ => rfl)))
      (pss_cons (ps_set (i := 7) sc_law_make.nd rfl (Or.inl rfl) (pe_ix ix_list (pe_lst (pa_cons pe_non (pa_cons (pe_tup (pa_cons pe_str (pa_cons (pe_op op_sub (pe_call (ok_law_take T) (hr.mono (by decide)) rfl T.m_law_take T.F_law_take.kp T.b_law_take .nil pass0 (pa_cons (pv 0) (pa_cons pe_int pa_nil))) pe_int) pa_nil))) (pa_cons (pe_tup (pa_cons pe_str (pa_cons pe_str pa_nil))) (pa_cons (pe_tup (pa_cons pe_str (pa_cons pe_int pa_nil))) pa_nil))))) (pe_call (ok_law_take T) (hr.mono (by decide)) rfl T.m_law_take T.F_law_take.kp T.b_law_take .nil pass0 (pa_cons (pv 0) (pa_cons pe_int pa_nil))) (fun _ _ => rfl)))
      (pss_cons (ps_set (i := 8) sc_law_make.nd rfl (Or.inl rfl) (pe_call (ok_law_take T) (hr.mono (by decide)) rfl T.m_law_take T.F_law_take.kp T.b_law_take .nil pass0 (pa_cons (pv 0) (pa_cons pe_int pa_nil))))
      (Evl.pss_cut (ps_if (pt_cmpR op_eq (pv 5) pe_int (nomark _)) (pss_cons (ps_set (i := 9) sc_law_make.nd rfl (Or.inl rfl) (pe_meth (pv 1) T.cl_PlainHeap T.me_PlainHeap_make_cell (ok_PlainHeap_make_cell T) (hr.mono (by decide)) T.b_PlainHeap_make_cell .nil pass0 (pa_cons (pv 3) (pa_cons (pv 6) (pa_cons (pv 7) pa_nil)))))
      (pss_one (ps_dput (hu_of hr) (pv 2) (pv 4) (pe_lst (pa_cons pe_str (pa_cons (pv 3) (pa_cons (pv 6) (pa_cons (pv 7) (pa_cons pe_non (pa_cons pe_int pa_nil))))))) rfl))) (pss_one (ps_if (pt_cmpR op_eq (pv 5) pe_int (nomark _)) (pss_cons (ps_set (i := 9) sc_law_make.nd rfl (Or.inl rfl) (pe_meth (pv 1) T.cl_PlainHeap T.me_PlainHeap_make_service (ok_PlainHeap_make_service T) (hr.mono (by decide)) T.b_PlainHeap_make_service .nil pass0 (pa_cons (pv 3) (pa_cons (pv 6) (pa_cons (pv 8) pa_nil)))))
      (pss_one (ps_dput (hu_of hr) (pv 2) (pv 4) (pe_lst (pa_cons pe_str (pa_cons (pv 3) (pa_cons (pv 6) (pa_cons (pv 8) (pa_cons pe_non (pa_cons pe_int pa_nil))))))) rfl))) (pss_cons (ps_set (i := 9) sc_law_make.nd rfl (Or.inl rfl) (pe_meth (pv 1) T.cl_PlainHeap T.me_PlainHeap_make_proxy (ok_PlainHeap_make_proxy T) (hr.mono (by decide)) T.b_PlainHeap_make_proxy .nil pass0 (pa_cons (pv 3) pa_nil)))
      (pss_one (ps_dput (hu_of hr) (pv 2) (pv 4) (pe_lst (pa_cons pe_str (pa_cons (pv 3) (pa_cons pe_non (pa_cons pe_non (pa_cons pe_non (pa_cons pe_int pa_nil))))))) rfl))))))
      (pss_one (ps_ret (pe_and (pe_callB (id := "isinstance") call_isi (by rfl) T.z_isinstance (by decide +kernel) (pa_cons (pv 9) (pa_cons (pe_bltn rfl T.z_tuple (by decide +kernel) (v := .ty "tuple") rfl) pa_nil))) (pe_one (pe_cmpR (op_eqD hr.units) (pv 9) (pe_tup (pa_cons pe_str (pa_cons (pv 4) pa_nil))) (nomark _))))))))))), ?_⟩
    try dsimp only [L2.cxOf, L2.Cx.nox, L2.Cx.wish]
    change (_ : TS) _ ([some (.ref dk), some (.ref h), some (.ref td), some (.int num), some (.int T0.length), none, none, none, none, none] : St) _
    have cl_Cell := T.cl_Cell
    have n_Cell_content := T.n_Cell_content
    have n_Cell_link := T.n_Cell_link
    have n_Cell_maker := T.n_Cell_maker
    have n_Cell_place := T.n_Cell_place
    have n_Cell_references := T.n_Cell_references
    have n_Cell_serial := T.n_Cell_serial
    have cl_PlainHeap := T.cl_PlainHeap
    have n_PlainHeap_places := T.n_PlainHeap_places
    have n_PlainHeap_proxies := T.n_PlainHeap_proxies
    have n_PlainHeap_serials := T.n_PlainHeap_serials
    have cl_Proxy := T.cl_Proxy
    have n_Proxy_entry := T.n_Proxy_entry
    have n_Proxy_link := T.n_Proxy_link
    have n_Proxy_maker := T.n_Proxy_maker
    have n_Proxy_place := T.n_Proxy_place
    have n_Proxy_references := T.n_Proxy_references
    have n_Proxy_serial := T.n_Proxy_serial
    have cl_Service := T.cl_Service
    have n_Service_body := T.n_Service_body
    have n_Service_link := T.n_Service_link
    have n_Service_maker := T.n_Service_maker
    have n_Service_place := T.n_Service_place
    have n_Service_references := T.n_Service_references
    have n_Service_serial := T.n_Service_serial
    have hD := hB.1
    walk_at "rd"
    intro kd kd0 kd1
    walk_at "rd"
    refine Rd.xlst rfl fun l1 H1 n1 e1 h1 => ?_
    have hD1 := e1 _ _ hD
    walk_at "rd"
    intro m m0 m1
    obtain ⟨mv, hmv, hmo⟩ := mk3_at m0 m1
    refine Rd.ixL (SqL.of h1) hmv ?_
    walk_at "rd"
    intro n n0 n1'
    walk_at "rd"
    refine Rd.xtup rfl fun a2 H2 n2 e2 h2 => ?_
    walk_at "rd"
    refine Rd.xtup rfl fun a3 H3 n3 e3 h3 => ?_
    walk_at "rd"
    refine Rd.xtup rfl fun a4 H4 n4 e4 h4 => ?_
    walk_at "rd"
    refine Rd.xlst rfl fun l5 H5 n5 e5 h5 => ?_
    have e15 := ((e2.trans e3).trans e4).trans e5
    have hD5 := e15 _ _ hD1
    walk_at "rd"
    intro c c0 c1
    obtain ⟨cv, hcv, hco⟩ := ct4_at (H := H5) c0 c1 (((e3.trans e4).trans e5) _ _ h2) ((e4.trans e5) _ _ h3) (e5 _ _ h4)
    refine Rd.ixL (SqL.of h5) hcv ?_
    walk_at "rd"
    intro b b0 b1
    have hB5 := hB.ex (e1.trans e15)
    clear hB hD hD1 e1 e2 e3 e4 e5 e15 h1 h2 h3 h4 h5 hmv hcv
    obtain ⟨_, p, s1, q, kp, ks, kq, kt, ts, ds, g⟩ := id hB5
    obtain ⟨dx, hh⟩ := id g.st
    have hA : Ahead K H5 h p s1 q T0.length T0.length kp ks kq := ⟨g.F, key_len g.kkp, key_none g.kkp⟩
    obtain ⟨⟨_, _, _, f1, _⟩, Fp, Fs, Fq, _⟩ := id g.F
    have dkk : ∀ {H6 : Hp} {a r : Addr} {u : HO} {kp' ks' kq' : List (Key × V)}, Made H5 H6 h a p s1 q r (T0.length : Nat) u kp' ks' kq' → H6 dk = some (Dk.DkO dk) := fun m => m.but _ _ (by
      simp only [List.mem_cons, List.not_mem_nil, or_false, not_or]
      exact ⟨fun z => by rw [z, f1] at hD5; exact dkO_ins (Option.some.inj hD5).symm, fun z => by rw [z, Fp] at hD5; exact dkO_dk (Option.some.inj hD5).symm, fun z => by rw [z, Fs] at hD5; exact dkO_dk (Option.some.inj hD5).symm, fun z => by rw [z, Fq] at hD5; exact dkO_dk (Option.some.inj hD5).symm⟩) hD5
    have htd5 := g.atd
    have dktd : dk ≠ td := fun z => by rw [z, htd5] at hD5; exact dkO_dk (Option.some.inj hD5).symm
    have tdm : ∀ {H6 : Hp} {a r : Addr} {u : HO} {kp' ks' kq' : List (Key × V)}, Made H5 H6 h a p s1 q r (T0.length : Nat) u kp' ks' kq' → H6 td = some (.dK kt) := fun m => m.but _ _ (by
      simp only [List.mem_cons, List.not_mem_nil, or_false, not_or]
      exact ⟨ne_of htd5 f1 (by intro z; cases z), g.tp.1, g.tp.2.1, g.tp.2.2⟩) htd5
    have ktl := key_len g.kkt
    have hput : ∀ (x : Int) (kv : List (Key × V)) (y : Int), valV (putK kv (.inl y) (.int T0.length)) (.inl x) = if x = y then some (V.int T0.length) else valV kv (.inl x) := fun x kv y => by
      rw [valV_put]
      by_cases hxy : x = y
      · rw [if_pos hxy, if_pos (by rw [hxy])]
      · rw [if_neg hxy, if_neg (fun z => hxy (by injection z))]
    walk_at "rd"
    refine ⟨fun σ H' => ∃ (r : Addr) (t : Th), σ = [some (.ref dk), some (.ref h), some (.ref td), some (.int num), some (.int T0.length), some (.int kd), some mv, some cv, some (.int b), some (.ref r)] ∧ H' r = some (.tup [.str "at", .int T0.length]) ∧ Bk K ad.c_PlainHeap ad.c_Cell ad.c_Service ad.c_Proxy H' dk h td (T0 ++ [t]) ∧ t.num = num, ?_, ?_⟩
    · walk_at "rd"
      refine Rd.ifd (fun cc => ?_) (fun cc => ?_)
      · walk_at "rd"
        refine ⟨h, p, s1, q, T0.length, kp, ks, kq, num, mv, cv, rfl, hA, g.st, fun a dt r H6 m st' => ?_⟩
        have hct6 : CtAt H6 cv := hco.keep fun b xs hb => m.but _ _ (by
          simp only [List.mem_cons, List.not_mem_nil, or_false, not_or]
          exact ⟨ne_of hb f1 (by intro z; cases z), ne_of hb Fp (by intro z; cases z), ne_of hb Fs (by intro z; cases z), ne_of hb Fq (by intro z; cases z)⟩) hb
        walk_at "rd"
        refine Rd.xlst rfl fun d H7 nd e7 hd => ?_
        have hD7 := e7 _ _ (dkk m)
        have htd7 := e7 _ _ (tdm m)
        walk_at "rd"
        refine Rd.xdput htd7 (by omega) ?_
        walk_at "rd"
        have g8 := g.make (t := ⟨.c, num, mv, cv, none⟩) (by omega) hfr rfl m st' (fun x => by rw [hput]; simp [isP]) (fun x => by simp [isP]) (by have := length_putK ks (.inl num : Key) (.int T0.length); have := g.lks; omega) (by have := g.lkq; omega) ⟨hmo, fun _ => hct6, fun z => (by cases z), fun z => (by cases z)⟩ e7 nd hd
        exact ⟨r, _, rfl, (upd_ne (fun z => by have := e7 _ _ m.at_r; rw [z, htd7] at this; cases this)).trans (e7 _ _ m.at_r), ⟨(upd_ne dktd).trans hD7, _, _, _, _, _, _, _, _, _, g8⟩, rfl⟩
      · walk_at "rd"
        refine Rd.ifd (fun cc2 => ?_) (fun cc2 => ?_)
        · walk_at "rd"
          refine ⟨h, p, s1, q, T0.length, kp, ks, kq, num, mv, .int b, rfl, hA, g.st, fun a dt r H6 m st' => ?_⟩
          walk_at "rd"
          refine Rd.xlst rfl fun d H7 nd e7 hd => ?_
          have hD7 := e7 _ _ (dkk m)
          have htd7 := e7 _ _ (tdm m)
          walk_at "rd"
          refine Rd.xdput htd7 (by omega) ?_
          walk_at "rd"
          have g8 := g.make (t := ⟨.s, num, mv, .int b, none⟩) (by omega) hfr rfl m st' (fun x => by rw [hput]; simp [isP]) (fun x => by simp [isP]) (by have := length_putK ks (.inl num : Key) (.int T0.length); have := g.lks; omega) (by have := g.lkq; omega) ⟨hmo, fun z => (by cases z), fun _ => ⟨b, rfl⟩, fun z => (by cases z)⟩ e7 nd hd
          exact ⟨r, _, rfl, (upd_ne (fun z => by have := e7 _ _ m.at_r; rw [z, htd7] at this; cases this)).trans (e7 _ _ m.at_r), ⟨(upd_ne dktd).trans hD7, _, _, _, _, _, _, _, _, _, g8⟩, rfl⟩
        · walk_at "rd"
          refine ⟨h, p, s1, q, T0.length, kp, ks, kq, num, rfl, hA, g.st, fun a dt r H6 m st' => ?_⟩
          walk_at "rd"
          refine Rd.xlst rfl fun d H7 nd e7 hd => ?_
          have hD7 := e7 _ _ (dkk m)
          have htd7 := e7 _ _ (tdm m)
          walk_at "rd"
          refine Rd.xdput htd7 (by omega) ?_
          walk_at "rd"
          have g8 := g.make (t := ⟨.p, num, .non, .non, none⟩) (by omega) hfr rfl m st' (fun x => by simp [isP]) (fun x => by rw [hput]; simp [isP]) (by have := g.lks; omega) (by have := length_putK kq (.inl num : Key) (.int T0.length); have := g.lkq; omega) ⟨.inl rfl, fun z => (by cases z), fun z => (by cases z), fun _ => ⟨rfl, rfl, rfl⟩⟩ e7 nd hd
          exact ⟨r, _, rfl, (upd_ne (fun z => by have := e7 _ _ m.at_r; rw [z, htd7] at this; cases this)).trans (e7 _ _ m.at_r), ⟨(upd_ne dktd).trans hD7, _, _, _, _, _, _, _, _, _, g8⟩, rfl⟩
    · rintro σ H6 ⟨r, t, rfl, hr6, hB6, htn⟩
      walk_at "rd"
      refine Rd.xtup rfl fun r2 H7 n7 e7 hr7 => ?_
      walk_at "rd"
      refine Rd.eqDr (dp_at (e7 _ _ hr6)) (dp_at hr7) (shp_at _) ?_
      walk_at "rd"
      exact k _ t (hB6.ex e7) htn
/-! split -/
theorem given_at {n : Nat} {f : Nat → Bool} {v : Nat → V} {k : Nat} {y : V} (h : (Evl.given n f v)[k]? = some y) : ∃ i, i < n ∧ f i = true ∧ y = v i := by
  unfold Evl.given at h
  rw [List.getElem?_map] at h
  obtain ⟨i, hi, e⟩ := Option.map_eq_some_iff.mp h
  have m := List.mem_filter.mp (List.mem_of_getElem? hi)
  exact ⟨i, List.mem_range.mp m.1, m.2, e.symm⟩
theorem given_len (n : Nat) (f : Nat → Bool) (v : Nat → V) : (Evl.given n f v).length ≤ n := by
  unfold Evl.given
  rw [List.length_map]
  exact Nat.le_trans (List.length_filter_le ..) (by rw [List.length_range]; exact Nat.le_refl _)
theorem kS_ne (k : Kd) : (!decide (kS k = "proxy")) = !isP k := by rw [kS_isP]
theorem nums_set {T : List Th} {j : Nat} {t : Th} {tg : Option Nat} (h : T[j]? = some t) : (T.set j { t with lk := tg }).map (·.num) = T.map (·.num) := by
  rw [List.map_set]
  refine List.ext_getElem? fun i => ?_
  rw [List.getElem?_set]
  by_cases hij : j = i
  · subst hij
    rw [if_pos rfl, List.getElem?_map, h, List.length_map, if_pos (List.getElem?_eq_some_iff.mp h).1]
    rfl
  · rw [if_neg hij]
theorem shp_e : SeqAt.shaped (.list []) = true := by decide
def spDeed (cH cC cS cP : Addr) (K : PySem.W.Frag) : Sp := fun vs H Q _ => ∃ (dk h td : Addr) (T : List Th) (num : Int), vs = [.ref dk, .ref h, .ref td, .int num] ∧ Bk K cH cC cS cP H dk h td T ∧ T.length ≤ 400 ∧ (∀ u ∈ T, u.num ≠ num) ∧
  ∀ H' T', Bk K cH cC cS cP H' dk h td T' → (T'.map (·.num) = T.map (·.num) ∨ T'.map (·.num) = T.map (·.num) ++ [num]) → Q (.bl true) H'
theorem ok_law_deed {ad : Ad} (T : Txt K mg ad) : FnOk P w K mg base CX0 5 ad.a_law_deed ad.d_law_deed ["deck", "heap", "things", "number"] (spDeed ad.c_PlainHeap ad.c_Cell ad.c_Service ad.c_Proxy K) := by
  refine T.F_law_deed.ok sc_law_deed (fun vs H Q E h => ?_) (fun cdv A outer s H vs Q E hr h => ?_)
  · obtain ⟨dk, h, td, T0, num, rfl, hB, hT, hfr, k⟩ := h
    rfl
  · obtain ⟨dk, h, td, T0, num, rfl, hB, hT, hfr, k⟩ := h
    refine ⟨_, (pss_cons (ps_set (i := 4) sc_law_deed.nd rfl (Or.inl rfl) (pe_call (ok_law_take T) (hr.mono (by decide)) rfl T.m_law_take T.F_law_take.kp T.b_law_take .nil pass0 (pa_cons (pv 0) (pa_cons pe_int pa_nil))))
      (pss_cons (ps_setLc (i := 5) (own := [("place", 6)]) (g := gName 6) rfl sc_law_deed.nd rfl rfl (sw_true rfl rfl rfl (by decide +kernel)) (pi_list (pe_callB (id := "sorted") (Rd.call_sortedDL rfl) (by rfl) T.z_sorted (by decide +kernel) (pa_cons (pv 2) pa_nil))) (blkOk_by (N := ["deck", "heap", "things", "number", "kind", "linked", "place", "file", "passed", "held", "target", "goal"]) (sc := defScope s_law_deed) (by decide +kernel)) (fun _ _ _ _ _ => (pg_name (i := 6) sc_law_deed.nd rfl (Or.inl rfl))) (fun _ _ _ _ _ => (pts_one (pt_cmpR op_ne (pe_ix (ix_list : IxR _ (rIxL K)) (pe_dget (hu_of hr) (pv 2) (pv 6) (fun _ _ => rfl)) pe_int (fun _ _ => rfl)) pe_str (nomark _)))) (fun _ _ _ _ _ => (pv 6)))
      (pss_cons (ps_if (PW.pt (pw_or (pt_cmpR op_lt (pv 4) pe_int (nomark _)) (pw_or1 (pt_cmpR op_eq (pe_callB (id := "len") Rd.c_len (by rfl) T.z_len (by decide +kernel) (pa_cons (pv 5) pa_nil)) pe_int (nomark _))))) (pss_one (ps_ret (pe_call (ok_law_make T) (hr.mono (by decide)) rfl T.m_law_make T.F_law_make.kp T.b_law_make .nil pass0 (pa_cons (pv 0) (pa_cons (pv 1) (pa_cons (pv 2) (pa_cons (pv 3) (pa_cons (pe_callB (id := "len") Rd.c_lenD (by rfl) T.z_len (by decide +kernel) (pa_cons (pv 2) pa_nil)) pa_nil)))))))) pss_nil)
      (pss_cons (ps_set (i := 6) sc_law_deed.nd rfl (Or.inl rfl) (pe_call (ok_law_take T) (hr.mono (by decide)) rfl T.m_law_take T.F_law_take.kp T.b_law_take .nil pass0 (pa_cons (pv 0) (pa_cons (pe_callB (id := "len") Rd.c_lenD (by rfl) T.z_len (by decide +kernel) (pa_cons (pv 2) pa_nil)) pa_nil))))
      (pss_cons (ps_if (pt_cmpR op_eq (pv 4) pe_int (nomark _)) (pss_cons (ps_if (PW.pt (pw_or (pt_cmpR op_notN1 (pe_meth (pv 1) T.cl_PlainHeap T.me_PlainHeap_keep (ok_PlainHeap_keep T) (hr.mono (by decide)) T.b_PlainHeap_keep .nil pass0 (pa_cons (pe_tup (pa_cons pe_str (pa_cons (pv 6) pa_nil))) pa_nil)) pe_non (nomark _)) (pw_or1 (pt_cmpR (op_neD hr.units) (pe_meth (pv 1) T.cl_PlainHeap T.me_PlainHeap_drop (ok_PlainHeap_drop T) (hr.mono (by decide)) T.b_PlainHeap_drop .nil pass0 (pa_cons (pe_tup (pa_cons pe_str (pa_cons (pv 6) pa_nil))) pa_nil)) (pe_lst pa_nil) (nomark _))))) (pss_one (ps_ret pe_bl)) pss_nil)
      (pss_one (ps_ret (pe_cmpR (op_eqD hr.units) (pe_meth (pv 1) T.cl_PlainHeap T.me_PlainHeap_change_hold (ok_PlainHeap_change_hold T) (hr.mono (by decide)) T.b_PlainHeap_change_hold .nil pass0 (pa_cons (pe_ix ix_list (pe_dget (hu_of hr) (pv 2) (pe_ix ix_list (pv 5) pe_int (fun _ _ => rfl)) (fun _ _ => rfl)) pe_int (fun _ _ => rfl)) (pa_cons (pe_op op_sub (pe_call (ok_law_take T) (hr.mono (by decide)) rfl T.m_law_take T.F_law_take.kp T.b_law_take .nil pass0 (pa_cons (pv 0) (pa_cons pe_int pa_nil))) pe_int) pa_nil))) (pe_lst pa_nil) (nomark _))))) pss_nil)
      (pss_cons (ps_if (pt_cmpR op_eq (pv 4) pe_int (nomark _)) (pss_cons (ps_set (i := 7) sc_law_deed.nd rfl (Or.inl rfl) (pe_lst (pa_cons (pe_tup (pa_cons pe_str (pa_cons (pv 6) pa_nil))) (pa_cons pe_non (pa_cons (pe_tup (pa_cons pe_str (pa_cons pe_int pa_nil))) pa_nil)))))
      (pss_cons (ps_set (i := 8) sc_law_deed.nd rfl (Or.inl rfl) (pe_callTy (T := "list") Rd.c_list (by rfl) T.z_list (by decide +kernel) (pa_cons (pv 7) pa_nil)))
      (pss_cons (ps_set (i := 9) sc_law_deed.nd rfl (Or.inl rfl) (pe_lst (pa_cons (pe_ix ix_list (pe_dget (hu_of hr) (pv 2) (pe_ix ix_list (pv 5) (pe_un un_neg pe_int) (fun _ _ => rfl)) (fun _ _ => rfl)) pe_int (fun _ _ => rfl)) pa_nil)))
      (pss_one (ps_ret (pe_and (pe_cmpR (op_eqD hr.units) (pe_meth (pv 1) T.cl_PlainHeap T.me_PlainHeap_collect (ok_PlainHeap_collect T) (hr.mono (by decide)) T.b_PlainHeap_collect .nil pass0 (pa_cons (pe_lst (pa_cons (pv 8) (pa_cons (pe_lst pa_nil) pa_nil))) (pa_cons (pv 9) (pa_cons (pe_callTy (T := "list") Rd.c_list (by rfl) T.z_list (by decide +kernel) (pa_cons (pv 9) pa_nil)) pa_nil)))) (pe_lst pa_nil) (nomark _)) (pe_one (pe_cmpR (op_eqD hr.units) (pv 8) (pv 7) (nomark _))))))))) pss_nil)
      (pss_cons (ps_set (i := 10) sc_law_deed.nd rfl (Or.inl rfl) pe_non)
      (Evl.pss_cut (ps_if (pt_cmpR op_gt (pe_call (ok_law_take T) (hr.mono (by decide)) rfl T.m_law_take T.F_law_take.kp T.b_law_take .nil pass0 (pa_cons (pv 0) (pa_cons pe_int pa_nil))) pe_int (nomark _)) (pss_one (ps_set (i := 10) sc_law_deed.nd rfl (Or.inl rfl) (pv 6))) pss_nil)
      (pss_cons (ps_set (i := 6) sc_law_deed.nd rfl (Or.inl rfl) (pe_ix ix_list (pv 5) (pe_call (ok_law_take T) (hr.mono (by decide)) rfl T.m_law_take T.F_law_take.kp T.b_law_take .nil pass0 (pa_cons (pv 0) (pa_cons (pe_callB (id := "len") Rd.c_len (by rfl) T.z_len (by decide +kernel) (pa_cons (pv 5) pa_nil)) pa_nil))) (fun _ _ => rfl)))
      (pss_cons (ps_asg (pv 10) (pg_sub (pe_dget (hu_of hr) (pv 2) (pv 6) (fun _ _ => rfl)) pe_int set_list))
      (pss_cons (ps_set (i := 11) sc_law_deed.nd rfl (Or.inl rfl) pe_non)
      (Evl.pss_cut (ps_if (pt_cmpR op_notN1 (pv 10) pe_non (nomark _)) (pss_one (ps_set (i := 11) sc_law_deed.nd rfl (Or.inl rfl) (pe_tup (pa_cons pe_str (pa_cons (pv 10) pa_nil))))) pss_nil)
      (pss_one (ps_ret (pe_cmpR (op_eqD hr.units) (pe_meth (pv 1) T.cl_PlainHeap T.me_PlainHeap_set_link (ok_PlainHeap_set_link T) (hr.mono (by decide)) T.b_PlainHeap_set_link .nil pass0 (pa_cons (pe_tup (pa_cons pe_str (pa_cons (pv 6) pa_nil))) (pa_cons (pv 11) pa_nil))) (pe_lst pa_nil) (nomark _)))))))))))))))), ?_⟩
    try dsimp only [L2.cxOf, L2.Cx.nox, L2.Cx.wish]
    change (_ : TS) _ ([some (.ref dk), some (.ref h), some (.ref td), some (.int num), none, none, none, none, none, none, none, none] : St) _
    have cl_Cell := T.cl_Cell
    have n_Cell_content := T.n_Cell_content
    have n_Cell_link := T.n_Cell_link
    have n_Cell_maker := T.n_Cell_maker
    have n_Cell_place := T.n_Cell_place
    have n_Cell_references := T.n_Cell_references
    have n_Cell_serial := T.n_Cell_serial
    have cl_PlainHeap := T.cl_PlainHeap
    have n_PlainHeap_places := T.n_PlainHeap_places
    have n_PlainHeap_proxies := T.n_PlainHeap_proxies
    have n_PlainHeap_serials := T.n_PlainHeap_serials
    have cl_Proxy := T.cl_Proxy
    have n_Proxy_entry := T.n_Proxy_entry
    have n_Proxy_link := T.n_Proxy_link
    have n_Proxy_maker := T.n_Proxy_maker
    have n_Proxy_place := T.n_Proxy_place
    have n_Proxy_references := T.n_Proxy_references
    have n_Proxy_serial := T.n_Proxy_serial
    have cl_Service := T.cl_Service
    have n_Service_body := T.n_Service_body
    have n_Service_link := T.n_Service_link
    have n_Service_maker := T.n_Service_maker
    have n_Service_place := T.n_Service_place
    have n_Service_references := T.n_Service_references
    have n_Service_serial := T.n_Service_serial
    have hD := hB.1
    obtain ⟨_, p, s1, q, kp, ks, kq, kt, ts, ds, g⟩ := id hB
    walk_at "rd"
    intro kd kd0 kd1
    walk_at "rd"
    refine Rd.sortedDI g.atd (ks := (List.range T0.length).map fun (i : Nat) => (i : Int)) (by rw [g.kkt, List.map_map]; rfl) (by rw [List.length_map, List.length_range]; omega) fun ys lp H1 hperm hsrt n1 e1 hlp => ?_
    rw [sort_keys hperm hsrt] at hlp
    have g1 := g.ex e1
    walk_at "rd"
    refine Rd.xlcL (fun i => match T0[i]? with | some t => !isP t.kd | none => false) (fun i => .int (i : Int)) (SqL.of hlp) (by rw [List.length_map, List.length_range]; omega) (fun _ => rfl) ?_ ?_ fun ll H2 n2 e2 hll => ?_
    · intro i x Hc ec hx H' e' Q' q'
      rw [List.getElem?_map] at hx
      obtain ⟨i', hi', rfl⟩ := Option.map_eq_some_iff.mp hx
      have hil : i < T0.length := by have := (List.getElem?_eq_some_iff.mp hi').1; rw [List.length_range] at this; exact this
      rw [List.getElem?_range hil] at hi'
      cases hi'
      obtain ⟨t, hti⟩ : ∃ t, T0[i]? = some t := ⟨_, List.getElem?_eq_getElem hil⟩
      obtain ⟨d, hdi⟩ : ∃ d, ds[i]? = some d := ⟨_, List.getElem?_eq_getElem (by rw [g.ld]; exact hil)⟩
      have gc := g1.ex (ec.trans e')
      have hdd : H' d = some (.lst [.str (kS t.kd), .int t.num, t.ma, t.ct, lkV t.lk, .int 0]) := gc.du i t d hti hdi
      have q2 := q'
      rw [hti] at q2
      dsimp only at q2
      rw [← kS_ne] at q2
      walk_at "rd"
      refine Rd.xdget gc.atd (gc.vt i d hdi) ?_
      walk_at "rd"
      exact q2 _ (Evl.Ex.refl _)
    · intro i x Hc ec hx _ H' e' Q' q'
      rw [List.getElem?_map] at hx
      obtain ⟨i', hi', rfl⟩ := Option.map_eq_some_iff.mp hx
      have hil : i < T0.length := by have := (List.getElem?_eq_some_iff.mp hi').1; rw [List.length_range] at this; exact this
      rw [List.getElem?_range hil] at hi'
      cases hi'
      walk_at "rd"
      exact q' _ (Evl.Ex.refl _)
    rw [List.length_map, List.length_range] at hll
    have hgl := given_len T0.length (fun i => match T0[i]? with | some t => !isP t.kd | none => false) (fun i => V.int (i : Int))
    have hga : ∀ {k : Nat} {y : V}, (Evl.given T0.length (fun i => match T0[i]? with | some t => !isP t.kd | none => false) (fun i => V.int (i : Int)))[k]? = some y → ∃ (i : Nat) (t : Th), y = .int (i : Int) ∧ T0[i]? = some t ∧ t.kd ≠ .p := fun h => by
      obtain ⟨i, a1, a2, rfl⟩ := given_at h
      cases ht : T0[i]? with
      | none => rw [ht] at a2; cases a2
      | some t =>
        rw [ht] at a2
        dsimp only at a2
        exact ⟨i, t, rfl, ht, fun z => by rw [z] at a2; cases a2⟩
    generalize Evl.given T0.length (fun i => match T0[i]? with | some t => !isP t.kd | none => false) (fun i => V.int (i : Int)) = gs at *
    have e02 := e1.trans e2
    have g2 := g.ex e02
    have hD2 := e02 _ _ hD
    have htd2 := g2.atd
    obtain ⟨dx, hh2⟩ := id g2.st
    have ktl := key_len g2.kkt
    have hB2 := hB.ex e02
    clear hlp hD g1 hB g
    have hmake : spMk ad.c_PlainHeap ad.c_Cell ad.c_Service ad.c_Proxy K [.ref dk, .ref h, .ref td, .int num, .int T0.length] H2 Q E := ⟨dk, h, td, T0, num, rfl, hB2, hT, hfr, fun H' t hb hn => k H' _ hb (.inr (by rw [List.map_append]; show _ ++ [t.num] = _; rw [hn]))⟩
    walk_at "rd"
    refine Rd.ifd (fun c0 => ?_) (fun c0 => ?_)
    · walk_at "rd"
      rw [ktl]
      exact hmake
    · walk_at "rd"
      refine Rd.ifd (fun c1 => ?_) (fun c1 => ?_)
      · walk_at "rd"
        rw [ktl]
        exact hmake
      · clear hmake
        have hgp : 0 < gs.length := by omega
        walk_at "rd"
        rw [ktl]
        walk_at "rd"
        intro pl pl0 pl1
        walk_at "rd"
        have at0 : gs[0]? = some (gs[0]'hgp) := List.getElem?_eq_getElem _
        obtain ⟨i0, t0, hv0, hti0, _⟩ := hga at0
        rw [hv0] at at0
        obtain ⟨d0, hdi0⟩ : ∃ d, ds[i0]? = some d := ⟨_, List.getElem?_eq_getElem (by rw [g2.ld]; exact (List.getElem?_eq_some_iff.mp hti0).1)⟩
        have atL : atI gs (-1) = some (gs[gs.length - 1]'(by omega)) := by
          have hne : gs ≠ [] := fun z => by rw [z] at hgp; cases hgp
          have h9 := atI_last gs.dropLast (gs.getLast hne)
          rw [List.dropLast_concat_getLast] at h9
          rw [h9, List.getLast_eq_getElem]
        obtain ⟨iL, tL, hvL, htiL, _⟩ := hga (List.getElem?_eq_getElem (show gs.length - 1 < gs.length by omega))
        rw [hvL] at atL
        obtain ⟨dL, hdiL⟩ : ∃ d, ds[iL]? = some d := ⟨_, List.getElem?_eq_getElem (by rw [g2.ld]; exact (List.getElem?_eq_some_iff.mp htiL).1)⟩
        refine Rd.ifd (fun c4 => ?_) (fun c4 => ?_)
        · walk_at "rd"
          refine Rd.xtup rfl fun r3 H3 n3 e3 hr3 => ?_
          have hh3 := e3 _ _ hh2
          walk_at "rd"
          refine ⟨h, _, rfl, ?_⟩
          walk_at "rd"
          refine Rd.xtup rfl fun r4 H4 n4 e4 hr4 => ?_
          walk_at "rd"
          refine ⟨h, _, rfl, fun l5 H5 e5 hl5 => ?_⟩
          walk_at "rd"
          refine Rd.xlst rfl fun l6 H6 n6 e6 hl6 => ?_
          refine Rd.neDr (Dt.ofL (e6 _ _ hl5) .nil) (Dt.ofL hl6 .nil) shp_e ?_
          have e26 := ((e3.trans e4).trans e5).trans e6
          have g6 := g2.ex e26
          have hh6 := e26 _ _ hh2
          have hll6 := e26 _ _ hll
          have hD6 := e26 _ _ hD2
          have hdd6 : H6 d0 = some (.lst [.str (kS t0.kd), .int t0.num, t0.ma, t0.ct, lkV t0.lk, .int 0]) := g6.du i0 t0 d0 hti0 hdi0
          walk_at "rd"
          refine Rd.ixL (SqL.of hll6) (atI_nat at0) ?_
          walk_at "rd"
          refine Rd.xdget g6.atd (g6.vt i0 d0 hdi0) ?_
          walk_at "rd"
          intro z z0 z1
          walk_at "rd"
          refine ⟨h, _, _, rfl, fun l7 H7 e7 hl7 => ?_⟩
          walk_at "rd"
          refine Rd.xlst rfl fun l8 H8 n8 e8 hl8 => ?_
          refine Rd.eqDr (Dt.ofL (e8 _ _ hl7) .nil) (Dt.ofL hl8 .nil) shp_e ?_
          exact k _ T0 (hB2.ex ((e26.trans e7).trans e8)) (.inl rfl)
        · walk_at "rd"
          refine Rd.ifd (fun c5 => ?_) (fun c5 => ?_)
          · walk_at "rd"
            refine Rd.xtup rfl fun r3 H3 n3 e3 hr3 => ?_
            walk_at "rd"
            refine Rd.xtup rfl fun r4 H4 n4 e4 hr4 => ?_
            walk_at "rd"
            refine Rd.xlst rfl fun lf H5 n5 e5 hlf => ?_
            walk_at "rd"
            refine Rd.listOf (SqL.of hlf) fun lg H6 n6 e6 hlg => ?_
            have e26 := ((e3.trans e4).trans e5).trans e6
            have g6 := g2.ex e26
            have hll6 := e26 _ _ hll
            have hdd6 : H6 dL = some (.lst [.str (kS tL.kd), .int tL.num, tL.ma, tL.ct, lkV tL.lk, .int 0]) := g6.du iL tL dL htiL hdiL
            walk_at "rd"
            refine Rd.ixL (SqL.of hll6) atL ?_
            walk_at "rd"
            refine Rd.xdget g6.atd (g6.vt iL dL hdiL) ?_
            walk_at "rd"
            refine Rd.xlst rfl fun lh H7 n7 e7 hlh => ?_
            have hh7 := (e26.trans e7) _ _ hh2
            walk_at "rd"
            refine Rd.xlst rfl fun l8 H8 n8 e8 hl8 => ?_
            walk_at "rd"
            refine Rd.xlst rfl fun l9 H9 n9 e9 hl9 => ?_
            walk_at "rd"
            refine Rd.listOf (SqL.of (e9 _ _ (e8 _ _ hlh))) fun l10 H10 n10 e10 hl10 => ?_
            refine ⟨h, _, _, _, rfl, fun l11 H11 e11 hl11 => ?_⟩
            walk_at "rd"
            refine Rd.xlst rfl fun l12 H12 n12 e12 hl12 => ?_
            refine Rd.eqDr (Dt.ofL (e12 _ _ hl11) .nil) (Dt.ofL hl12 .nil) shp_e ?_
            have e612 := ((((e7.trans e8).trans e9).trans e10).trans e11).trans e12
            have e512 := e6.trans e612
            have hA : DpAll K H12 [.ref r3, .non, .ref r4] [atD pl, .none, .tuple [.str "code", .int 1]] := .cons (dp_at ((((e4.trans e5).trans e512)) _ _ hr3)) (.cons .non (.cons (Dt.ofT ((e5.trans e512) _ _ hr4) (.cons (.str _) (.cons (.int _) .nil))) .nil))
            walk_at "rd"
            refine Rd.eqDr (Dt.ofL (e612 _ _ hlg) hA) (Dt.ofL (e512 _ _ hlf) hA) (by simp [SeqAt.shaped, atD, PyData.canLay0, PyData.canLayAll0, PyData.depth, PyData.depthAll, at_ok]; decide +kernel) ?_
            exact k _ T0 (hB2.ex (e26.trans e612)) (.inl rfl)
          · walk_at "rd"
            refine ⟨fun σ H' => ∃ tg : Option Nat, σ = [some (.ref dk), some (.ref h), some (.ref td), some (.int num), some (.int kd), some (.ref ll), some (.int pl), none, none, none, some (lkV tg), none] ∧ H2 = H', ?_, ?_⟩
            · walk_at "rd"
              intro z z0 z1
              walk_at "rd"
              refine Rd.ifd (fun c6 => ?_) (fun c6 => ?_)
              · walk_at "rd"
                exact ⟨some pl.toNat, by rw [show lkV (some pl.toNat) = .int ((pl.toNat : Nat) : Int) from rfl, Int.toNat_of_nonneg pl0]; rfl, rfl⟩
              · walk_at "rd"
                exact ⟨none, rfl, rfl⟩
            · rintro σ H' ⟨tg, rfl, rfl⟩
              walk_at "rd"
              intro z z0 z1
              have hgz : gs[z.toNat]? = some (gs[z.toNat]'(by omega)) := List.getElem?_eq_getElem _
              obtain ⟨j, t, hvj, htj, hkj⟩ := hga hgz
              rw [hvj] at hgz
              obtain ⟨d, hdj⟩ : ∃ d, ds[j]? = some d := ⟨_, List.getElem?_eq_getElem (by rw [g2.ld]; exact (List.getElem?_eq_some_iff.mp htj).1)⟩
              obtain ⟨a, haj⟩ : ∃ a, ts[j]? = some a := ⟨_, List.getElem?_eq_getElem (by rw [g2.lt]; exact (List.getElem?_eq_some_iff.mp htj).1)⟩
              obtain ⟨dt, lv0, hta, hlv0⟩ := g2.th j t a htj haj
              have hdd := g2.du j t d htj hdj
              refine Rd.ixL (SqL.of hll) (Rd.atI_i z0 hgz) ?_
              walk_at "rd"
              refine Rd.xdget htd2 (g2.vt j d hdj) ?_
              walk_at "rd"
              refine Rd.setL hdd (n := 4) rfl ?_
              rw [show (dueL t).set 4 (lkV tg) = dueL { t with lk := tg } from rfl]
              have had : a ≠ d := ne_of hta hdd (fun z => thO_lst z)
              have hF3 : HeapF K (upd H2 d (.lst (dueL { t with lk := tg }))) h p s1 q kp ks kq := g2.F.keep fun b o hb hbo => (upd_ne (fun z => by
                obtain ⟨⟨_, _, _, f1, _⟩, Fp, Fs, Fq, _⟩ := g2.F
                rcases hb with rfl | rfl | rfl | rfl
                · rw [z, hdd] at f1; cases f1
                · rw [z, hdd] at Fp; cases Fp
                · rw [z, hdd] at Fs; cases Fs
                · rw [z, hdd] at Fq; cases Fq)).trans hbo
              have hta3 : (upd H2 d (.lst (dueL { t with lk := tg }))) a = some (thO ad.c_Cell ad.c_Service ad.c_Proxy dt t j lv0) := (upd_ne had).trans hta
              have hh3 : (upd H2 d (.lst (dueL { t with lk := tg }))) h = some (.ins ad.c_PlainHeap dx (fs_PlainHeap (.ref p) (.ref s1) (.ref q))) := (upd_ne (ne_of hh2 hdd (by intro z; cases z))).trans hh2
              have hD3 : (upd H2 d (.lst (dueL { t with lk := tg }))) dk = some (Dk.DkO dk) := (upd_ne (fun z => by rw [z, hdd] at hD2; exact dkO_lst (Option.some.inj hD2).symm)).trans hD2
              obtain ⟨H3, hH3⟩ : ∃ H3, upd H2 d (.lst (dueL { t with lk := tg })) = H3 := ⟨_, rfl⟩
              rw [hH3] at hF3 hta3 hh3 hD3 ⊢
              walk_at "rd"
              refine ⟨fun σ H' => ∃ lv : V, σ = [some (.ref dk), some (.ref h), some (.ref td), some (.int num), some (.int kd), some (.ref ll), some (.int j), none, none, none, some (lkV tg), some lv] ∧ Evl.Ex H3 H' ∧ LkAt H' lv tg, ?_, ?_⟩
              · cases tg with
                | none =>
                  rw [show lkV none = V.non from rfl]
                  walk_at "rd"
                  exact ⟨_, rfl, Evl.Ex.refl _, rfl⟩
                | some m =>
                  rw [show lkV (some m) = V.int (m : Int) from rfl]
                  walk_at "rd"
                  refine Rd.xtup rfl fun r4 H4 n4 e4 hr4 => ?_
                  walk_at "rd"
                  exact ⟨_, rfl, e4, r4, rfl, hr4⟩
              · rintro σ H4 ⟨lv, rfl, e4, hlv⟩
                have hh4 := e4 _ _ hh3
                walk_at "rd"
                refine Rd.xtup rfl fun r5 H5 n5 e5 hr5 => ?_
                have e35 := e4.trans e5
                walk_at "rd"
                refine ⟨h, p, s1, q, r5, a, dt, j, kp, ks, kq, t, lv, lv0, rfl, hF3.mono e35, hr5, g2.vp j a haj, e35 _ _ hta3, fun l6 H6 e6 hl6 => ?_⟩
                have gF := (g2.link (tg := tg) htj haj hdj hkj hta (by rw [hH3]; exact e35) (hlv.keep (exTup e5))).ex e6
                walk_at "rd"
                refine Rd.xlst rfl fun l7 H7 n7 e7 hl7 => ?_
                refine Rd.eqDr (Dt.ofL (e7 _ _ hl6) .nil) (Dt.ofL hl7 .nil) shp_e ?_
                have hD5 := e35 _ _ hD3
                have hD6 : H6 dk = some (Dk.DkO dk) := e6 _ _ ((upd_ne (fun z => by have := e35 _ _ hta3; rw [← z, hD5] at this; exact dkO_th (Option.some.inj this))).trans hD5)
                exact k _ _ (Bk.ex ⟨hD6, _, _, _, _, _, _, _, _, _, gF⟩ e7) (.inl (nums_set htj))
/-! split -/
def spLaw (K : PySem.W.Frag) : Sp := fun vs H Q _ => ∃ (a : Addr) (ns : List Int), vs = [.ref a] ∧ SqL K H a (ns.map V.int) ∧ ns.length ≤ 63 ∧ ∀ H', Q (.bl true) H'
/-- the numbers so far: below m, or some of 100 and more -/
structure Nums (T : List Th) (m c : Nat) : Prop where
  nd : (T.map (·.num)).Nodup
  bd : ∀ x : Int, x ∈ T.map (·.num) → (0 ≤ x ∧ x < (m : Int)) ∨ (100 ≤ x ∧ x < 100 + (c : Int))
theorem nums_add {T T' : List Th} {m c m' c' : Nat} {x : Int} (h : Nums T m c) (hn : ∀ u ∈ T, u.num ≠ x) (hx : (0 ≤ x ∧ x < m') ∨ (100 ≤ x ∧ x < 100 + c')) (hm : m ≤ m') (hc : c ≤ c') (e : T'.map (·.num) = T.map (·.num) ∨ T'.map (·.num) = T.map (·.num) ++ [x]) : Nums T' m' c' := by
  rcases e with e | e
  · exact ⟨by rw [e]; exact h.nd, fun y hy => by rw [e] at hy; have := h.bd y hy; omega⟩
  · refine ⟨?_, fun y hy => ?_⟩
    · rw [e, List.nodup_append]
      exact ⟨h.nd, by simp, fun y hy z hz hyz => by
        obtain ⟨u, hu, rfl⟩ := List.mem_map.mp hy
        exact hn u hu (hyz.trans (List.mem_singleton.mp hz))⟩
    · rw [e] at hy
      rcases List.mem_append.mp hy with hy | hy
      · have := h.bd y hy; omega
      · rw [List.mem_singleton.mp hy]; exact hx
theorem nums_len {T T' : List Th} {x : Int} {n : Nat} (h : T.length ≤ n) (e : T'.map (·.num) = T.map (·.num) ∨ T'.map (·.num) = T.map (·.num) ++ [x]) : T'.length ≤ n + 1 := by
  rcases e with e | e
  · have := congrArg List.length e
    rw [List.length_map, List.length_map] at this
    omega
  · have := congrArg List.length e
    rw [List.length_map, List.length_append, List.length_map] at this
    simp at this
    omega
theorem ok_law {ad : Ad} (T : Txt K mg ad) : FnOk P w K mg base CX0 6 ad.a_law ad.d_law ["script"] (spLaw K) := by
  refine T.F_law.ok sc_law (fun vs H Q E h => ?_) (fun cdv A outer s H vs Q E hr h => ?_)
  · obtain ⟨a, ns, rfl, hS, hn, k⟩ := h
    rfl
  · obtain ⟨a, ns, rfl, hS, hn, k⟩ := h
    refine ⟨_, (pss_cons (ps_set (i := 1) sc_law.nd rfl (Or.inl rfl) (pe_call (ok_law_deck T) (hr.mono (by decide)) rfl T.m_law_deck T.F_law_deck.kp T.b_law_deck .nil pass0 (pa_cons (pv 0) (pa_cons pe_int (pa_cons pe_int pa_nil)))))
      (pss_cons (ps_set (i := 2) sc_law.nd rfl (Or.inl rfl) (pe_make0 T.mk_PlainHeap (ok_PlainHeap_init_ T) (hr.mono (by decide)) rfl T.mg_PlainHeap T.b_PlainHeap_init_ .nil pass0))
      (pss_cons (ps_set (i := 3) sc_law.nd rfl (Or.inl rfl) pe_dnewK)
      (Evl.pss_cut (ps_if (pt_cmpR op_eq (pe_call (ok_law_take T) (hr.mono (by decide)) rfl T.m_law_take T.F_law_take.kp T.b_law_take .nil pass0 (pa_cons (pv 1) (pa_cons pe_int pa_nil))) pe_int (nomark _)) (pss_one (ps_for PassesOwn.never rfl (pi_range1 rfl T.z_range (pa_cons pe_int pa_nil)) (pg_name (i := 4) sc_law.nd rfl (Or.inl rfl)) (pss_one (ps_if (pt_not (pt_val (pe_call (ok_law_make T) (hr.mono (by decide)) rfl T.m_law_make T.F_law_make.kp T.b_law_make .nil pass0 (pa_cons (pv 1) (pa_cons (pv 2) (pa_cons (pv 3) (pa_cons (pe_op op_add pe_int (pv 4)) (pa_cons (pv 4) pa_nil)))))))) (pss_one (ps_ret pe_bl)) pss_nil)))) pss_nil)
      (pss_cons (ps_for PassesOwn.never rfl (pi_range1 rfl T.z_range (pa_cons pe_int pa_nil)) (pg_name (i := 4) sc_law.nd rfl (Or.inl rfl)) (pss_cons (ps_if (pt_not (pt_val (pe_call (ok_law_deed T) (hr.mono (by decide)) rfl T.m_law_deed T.F_law_deed.kp T.b_law_deed .nil pass0 (pa_cons (pv 1) (pa_cons (pv 2) (pa_cons (pv 3) (pa_cons (pe_op op_add (pe_op op_mul pe_int (pv 4)) (pe_callTy (T := "int") Rd.c_int (by rfl) T.z_int (by decide +kernel) (pa_cons (pe_cmpR op_gt (pv 4) pe_int (nomark _)) pa_nil))) pa_nil))))))) (pss_one (ps_ret pe_bl)) pss_nil)
      (pss_one (ps_if (pt_not (pt_val (pe_call (ok_law_same_heap T) (hr.mono (by decide)) rfl T.m_law_same_heap T.F_law_same_heap.kp T.b_law_same_heap .nil pass0 (pa_cons (pv 2) (pa_cons (pv 3) (pa_cons (pe_op op_cat (pe_listRg rfl (by rfl) T.z_list (prg_1 rfl T.z_range pe_int)) (pe_listRg rfl (by rfl) T.z_list (prg_2 rfl T.z_range pe_int pe_int))) pa_nil)))))) (pss_one (ps_ret pe_bl)) pss_nil))))
      (pss_one (ps_ret pe_bl))))))), ?_⟩
    try dsimp only [L2.cxOf, L2.Cx.nox, L2.Cx.wish]
    change (_ : TS) _ ([some (.ref a), none, none, none, none] : St) _
    walk_at "rd"
    refine ⟨a, ns, 60, 9, rfl, hS, hn, by decide, by decide, by decide, by decide, fun l hl => ?_⟩
    have hD : (upd H l (Dk.DkO l)) l = some (Dk.DkO l) := upd_same
    generalize upd H l (Dk.DkO l) = H0 at *
    walk_at "rd"
    refine Rd.xmk fun x dx H1 e1 nx hx => ?_
    refine ⟨x, dx, rfl, hx, fun p s1 q H2 np nsx nq ps pq sq hx2 hp2 hs2 hq2 but => ⟨rfl, ?_⟩⟩
    have e2 : Evl.Ex H0 H2 := Rd.exBut e1 nx fun b o hb hbo => but b o (by simp only [List.mem_cons, List.not_mem_nil, or_false]; exact hb) hbo
    walk_at "rd"
    refine Rd.dnewE fun td H3 ntd e3 htd => ?_
    have hF : HeapF K H3 x p s1 q [] [] [] := ⟨⟨_, dx, _, e3 _ _ hx2, T.cl_PlainHeap, T.n_PlainHeap_places, T.n_PlainHeap_serials, T.n_PlainHeap_proxies, by with_reducible exact lk_PlainHeap_places _ _ _, by with_reducible exact lk_PlainHeap_serials _ _ _, by with_reducible exact lk_PlainHeap_proxies _ _ _⟩, e3 _ _ hp2, e3 _ _ hs2, e3 _ _ hq2, ps, pq, sq, by decide, by decide, by decide⟩
    have g0 : LS K ad.c_PlainHeap ad.c_Cell ad.c_Service ad.c_Proxy H3 x td p s1 q [] [] [] [] [] [] [] := ⟨hF, ⟨dx, e3 _ _ hx2⟩, htd, ⟨fun z => (by rw [z, hp2] at ntd; cases ntd), fun z => (by rw [z, hs2] at ntd; cases ntd), fun z => (by rw [z, hq2] at ntd; cases ntd)⟩, rfl, rfl, List.nodup_nil, List.nodup_nil, rfl, rfl, Nat.le_refl _, Nat.le_refl _, fun i a h => (by cases h), fun i a h => (by cases h), ⟨fun i t h => (by cases h), fun x _ => rfl⟩, ⟨fun i t h => (by cases h), fun x _ => rfl⟩, fun i t a h => (by cases h), fun i t a h => (by cases h), fun t h => (by cases h)⟩
    have hB0 : Bk K ad.c_PlainHeap ad.c_Cell ad.c_Service ad.c_Proxy H3 l x td [] := ⟨e3 _ _ (e2 _ _ hD), _, _, _, _, _, _, _, _, _, g0⟩
    have hD3 := hB0.1
    clear hx hx2 hp2 hs2 hq2 but hF g0 htd
    walk_at "rd"
    refine ⟨fun σ H' => ∃ (T0 : List Th) (v4 : Option V), σ = [some (.ref a), some (.ref l), some (.ref x), some (.ref td), v4] ∧ Bk K ad.c_PlainHeap ad.c_Cell ad.c_Service ad.c_Proxy H' l x td T0 ∧ Nums T0 0 70 ∧ T0.length ≤ 70, ?_, ?_⟩
    · walk_at "rd"
      intro z z0 z1
      walk_at "rd"
      refine Rd.ifd (fun c0 => ?_) (fun c0 => ?_)
      · walk_at "rd"
        refine Rd.xfr1 ⟨by decide, by decide⟩ (fun i σ H' => ∃ (T0 : List Th) (v4 : Option V), σ = [some (.ref a), some (.ref l), some (.ref x), some (.ref td), v4] ∧ Bk K ad.c_PlainHeap ad.c_Cell ad.c_Service ad.c_Proxy H' l x td T0 ∧ Nums T0 0 i ∧ T0.length = i)
          ⟨[], _, rfl, hB0, ⟨List.nodup_nil, fun y hy => (by cases hy)⟩, rfl⟩ ?_ ?_
        · rintro i σ H4 hi ⟨T0, v4, rfl, hB4, hN4, rfl⟩
          have hfr : ∀ u ∈ T0, u.num ≠ 100 + (T0.length : Int) := fun u hu e => by
            have := hN4.bd _ (List.mem_map.mpr ⟨u, hu, rfl⟩)
            omega
          walk_at "rd"
          refine ⟨l, x, td, T0, 100 + (T0.length : Int), rfl, hB4, by omega, hfr, fun H' t hb ht => ?_⟩
          walk_at "rd"
          exact ⟨T0 ++ [t], _, rfl, hb, nums_add hN4 hfr (.inr ⟨by omega, by omega⟩) (Nat.le_refl _) (by omega) (.inr (by rw [List.map_append]; show _ ++ [t.num] = _; rw [ht])), by rw [List.length_append]; rfl⟩
        · rintro σ H4 ⟨T0, v4, rfl, hB4, hN4, hl4⟩
          exact ⟨T0, v4, rfl, hB4, hN4, by rw [hl4]; decide⟩
      · walk_at "rd"
        exact ⟨[], _, rfl, hB0, ⟨List.nodup_nil, fun y hy => (by cases hy)⟩, by decide⟩
    · rintro σ H4 ⟨T0, v4, rfl, hB4, hN4, hl4⟩
      walk_at "rd"
      refine Rd.xfr1 ⟨by decide, by decide⟩ (fun i σ H' => ∃ (T0 : List Th) (v4 : Option V), σ = [some (.ref a), some (.ref l), some (.ref x), some (.ref td), v4] ∧ Bk K ad.c_PlainHeap ad.c_Cell ad.c_Service ad.c_Proxy H' l x td T0 ∧ Nums T0 (2 * i + (if i > 5 then 1 else 0)) 70 ∧ T0.length ≤ 70 + i)
        ⟨T0, _, rfl, hB4, hN4, by omega⟩ ?_ ?_
      · rintro i σ H5 hi ⟨T0, v4, rfl, hB5, hN5, hl5⟩
        have hnum : (2 * (i : Int) + (if decide ((i : Int) > 4) = true then 1 else 0)) = ((2 * i + (if i > 4 then 1 else 0) : Nat) : Int) := by
          by_cases hi4 : i > 4
          · rw [if_pos (decide_eq_true (by omega)), if_pos hi4]; omega
          · rw [if_neg (fun z => hi4 (by have := of_decide_eq_true z; omega)), if_neg hi4]; omega
        have hfr : ∀ u ∈ T0, u.num ≠ ((2 * i + (if i > 4 then 1 else 0) : Nat) : Int) := fun u hu e => by
          have := hN5.bd _ (List.mem_map.mpr ⟨u, hu, rfl⟩)
          rw [e] at this
          split at this <;> split at this <;> omega
        walk_at "rd"
        rw [hnum]
        refine ⟨l, x, td, T0, _, rfl, hB5, by omega, hfr, fun H6 T6 hB6 hT6 => ?_⟩
        have hN6 : Nums T6 (2 * (i + 1) + (if i + 1 > 5 then 1 else 0)) 70 := nums_add hN5 hfr (.inl ⟨by omega, by split <;> split <;> omega⟩) (by split <;> split <;> omega) (Nat.le_refl _) hT6
        have hl6 := nums_len hl5 hT6
        walk_at "rd"
        refine Rd.xr1 ⟨by decide, by decide⟩ fun l1 H7 n7 e7 h7 => ?_
        walk_at "rd"
        refine Rd.xr2 ⟨by decide, by decide, by decide, by decide⟩ fun l2 H8 n8 e8 h8 => ?_
        refine Rd.cat (e8 _ _ h7) h8 (Nat.le_of_ble_eq_true rfl) fun l3 H9 n9 e9 h9 => ?_
        have hB9 := hB6.ex ((e7.trans e8).trans e9)
        obtain ⟨_, p', s', q', kp, ks, kq, kt, ts, ds, g9⟩ := id hB9
        have h9' : H9 l3 = some (.lst (((List.range 62).map (fun (i : Nat) => (i : Int)) ++ (List.range 72).map (fun (i : Nat) => 100 + (i : Int))).map V.int)) := by
          rw [h9, List.map_append, List.map_map, List.map_map]
          rfl
        refine ⟨x, td, l3, p', s', q', kp, ks, kq, kt, T6, ts, ds, _, rfl, g9, h9', by omega, hN6.nd, fun H10 e10 => ?_⟩
        walk_at "rd"
        exact ⟨T6, _, rfl, hB9.ex e10, hN6, by omega⟩
      · rintro σ H5 ⟨T0, v4, rfl, hB5, hN5, hl5⟩
        walk_at "rd"
        exact k _

/-! split -/
end
theorem all_mk {K : PySem.W.Frag} {h : Heap} {mg : Str → Option Value} {fa : Addr} (X : K.In h) (G : h.Ns mainGlobals mg) (hfa : mg "law" = some (.ref fa))
    {c_Cell : Addr}
    {c_PlainHeap : Addr}
    {c_Proxy : Addr}
    {c_Service : Addr}
    {f_law_take : Addr} {oc_law_take kV_law_take dc_law_take pm_law_take cd_law_take ct_law_take : Value} {od_law_take an_law_take : Option Addr} {sl_law_take : Array (Option Value)}
    {f_law_deck : Addr} {oc_law_deck kV_law_deck dc_law_deck pm_law_deck cd_law_deck ct_law_deck : Value} {od_law_deck an_law_deck : Option Addr} {sl_law_deck : Array (Option Value)}
    {f_law_whole : Addr} {oc_law_whole kV_law_whole dc_law_whole pm_law_whole cd_law_whole ct_law_whole : Value} {od_law_whole an_law_whole : Option Addr} {sl_law_whole : Array (Option Value)}
    {f_Cell_init_ : Addr} {oc_Cell_init_ kV_Cell_init_ dc_Cell_init_ pm_Cell_init_ cd_Cell_init_ ct_Cell_init_ : Value} {od_Cell_init_ an_Cell_init_ : Option Addr} {sl_Cell_init_ : Array (Option Value)}
    {f_Service_init_ : Addr} {oc_Service_init_ kV_Service_init_ dc_Service_init_ pm_Service_init_ cd_Service_init_ ct_Service_init_ : Value} {od_Service_init_ an_Service_init_ : Option Addr} {sl_Service_init_ : Array (Option Value)}
    {f_Proxy_init_ : Addr} {oc_Proxy_init_ kV_Proxy_init_ dc_Proxy_init_ pm_Proxy_init_ cd_Proxy_init_ ct_Proxy_init_ : Value} {od_Proxy_init_ an_Proxy_init_ : Option Addr} {sl_Proxy_init_ : Array (Option Value)}
    {f_put_in : Addr} {oc_put_in kV_put_in dc_put_in pm_put_in cd_put_in ct_put_in : Value} {od_put_in an_put_in : Option Addr} {sl_put_in : Array (Option Value)}
    {f_PlainHeap_init_ : Addr} {oc_PlainHeap_init_ kV_PlainHeap_init_ dc_PlainHeap_init_ pm_PlainHeap_init_ cd_PlainHeap_init_ ct_PlainHeap_init_ : Value} {od_PlainHeap_init_ an_PlainHeap_init_ : Option Addr} {sl_PlainHeap_init_ : Array (Option Value)}
    {f_PlainHeap_thing : Addr} {oc_PlainHeap_thing kV_PlainHeap_thing dc_PlainHeap_thing pm_PlainHeap_thing cd_PlainHeap_thing ct_PlainHeap_thing : Value} {od_PlainHeap_thing an_PlainHeap_thing : Option Addr} {sl_PlainHeap_thing : Array (Option Value)}
    {f_PlainHeap_where : Addr} {oc_PlainHeap_where kV_PlainHeap_where dc_PlainHeap_where pm_PlainHeap_where cd_PlainHeap_where ct_PlainHeap_where : Value} {od_PlainHeap_where an_PlainHeap_where : Option Addr} {sl_PlainHeap_where : Array (Option Value)}
    {f_PlainHeap_where_proxy : Addr} {oc_PlainHeap_where_proxy kV_PlainHeap_where_proxy dc_PlainHeap_where_proxy pm_PlainHeap_where_proxy cd_PlainHeap_where_proxy ct_PlainHeap_where_proxy : Value} {od_PlainHeap_where_proxy an_PlainHeap_where_proxy : Option Addr} {sl_PlainHeap_where_proxy : Array (Option Value)}
    {f_PlainHeap_make_cell : Addr} {oc_PlainHeap_make_cell kV_PlainHeap_make_cell dc_PlainHeap_make_cell pm_PlainHeap_make_cell cd_PlainHeap_make_cell ct_PlainHeap_make_cell : Value} {od_PlainHeap_make_cell an_PlainHeap_make_cell : Option Addr} {sl_PlainHeap_make_cell : Array (Option Value)}
    {f_PlainHeap_make_service : Addr} {oc_PlainHeap_make_service kV_PlainHeap_make_service dc_PlainHeap_make_service pm_PlainHeap_make_service cd_PlainHeap_make_service ct_PlainHeap_make_service : Value} {od_PlainHeap_make_service an_PlainHeap_make_service : Option Addr} {sl_PlainHeap_make_service : Array (Option Value)}
    {f_PlainHeap_make_proxy : Addr} {oc_PlainHeap_make_proxy kV_PlainHeap_make_proxy dc_PlainHeap_make_proxy pm_PlainHeap_make_proxy cd_PlainHeap_make_proxy ct_PlainHeap_make_proxy : Value} {od_PlainHeap_make_proxy an_PlainHeap_make_proxy : Option Addr} {sl_PlainHeap_make_proxy : Array (Option Value)}
    {f_PlainHeap_keep : Addr} {oc_PlainHeap_keep kV_PlainHeap_keep dc_PlainHeap_keep pm_PlainHeap_keep cd_PlainHeap_keep ct_PlainHeap_keep : Value} {od_PlainHeap_keep an_PlainHeap_keep : Option Addr} {sl_PlainHeap_keep : Array (Option Value)}
    {f_PlainHeap_drop : Addr} {oc_PlainHeap_drop kV_PlainHeap_drop dc_PlainHeap_drop pm_PlainHeap_drop cd_PlainHeap_drop ct_PlainHeap_drop : Value} {od_PlainHeap_drop an_PlainHeap_drop : Option Addr} {sl_PlainHeap_drop : Array (Option Value)}
    {f_PlainHeap_change_hold : Addr} {oc_PlainHeap_change_hold kV_PlainHeap_change_hold dc_PlainHeap_change_hold pm_PlainHeap_change_hold cd_PlainHeap_change_hold ct_PlainHeap_change_hold : Value} {od_PlainHeap_change_hold an_PlainHeap_change_hold : Option Addr} {sl_PlainHeap_change_hold : Array (Option Value)}
    {f_PlainHeap_collect : Addr} {oc_PlainHeap_collect kV_PlainHeap_collect dc_PlainHeap_collect pm_PlainHeap_collect cd_PlainHeap_collect ct_PlainHeap_collect : Value} {od_PlainHeap_collect an_PlainHeap_collect : Option Addr} {sl_PlainHeap_collect : Array (Option Value)}
    {f_PlainHeap_set_link : Addr} {oc_PlainHeap_set_link kV_PlainHeap_set_link dc_PlainHeap_set_link pm_PlainHeap_set_link cd_PlainHeap_set_link ct_PlainHeap_set_link : Value} {od_PlainHeap_set_link an_PlainHeap_set_link : Option Addr} {sl_PlainHeap_set_link : Array (Option Value)}
    {f_in_order : Addr} {oc_in_order kV_in_order dc_in_order pm_in_order cd_in_order ct_in_order : Value} {od_in_order an_in_order : Option Addr} {sl_in_order : Array (Option Value)}
    {f_PlainHeap_everything : Addr} {oc_PlainHeap_everything kV_PlainHeap_everything dc_PlainHeap_everything pm_PlainHeap_everything cd_PlainHeap_everything ct_PlainHeap_everything : Value} {od_PlainHeap_everything an_PlainHeap_everything : Option Addr} {sl_PlainHeap_everything : Array (Option Value)}
    {f_law_same_thing : Addr} {oc_law_same_thing kV_law_same_thing dc_law_same_thing pm_law_same_thing cd_law_same_thing ct_law_same_thing : Value} {od_law_same_thing an_law_same_thing : Option Addr} {sl_law_same_thing : Array (Option Value)}
    {f_law_same_heap : Addr} {oc_law_same_heap kV_law_same_heap dc_law_same_heap pm_law_same_heap cd_law_same_heap ct_law_same_heap : Value} {od_law_same_heap an_law_same_heap : Option Addr} {sl_law_same_heap : Array (Option Value)}
    {f_law_make : Addr} {oc_law_make kV_law_make dc_law_make pm_law_make cd_law_make ct_law_make : Value} {od_law_make an_law_make : Option Addr} {sl_law_make : Array (Option Value)}
    {f_law_deed : Addr} {oc_law_deed kV_law_deed dc_law_deed pm_law_deed cd_law_deed ct_law_deed : Value} {od_law_deed an_law_deed : Option Addr} {sl_law_deed : Array (Option Value)}
    {f_law : Addr} {oc_law kV_law dc_law pm_law cd_law ct_law : Value} {od_law an_law : Option Addr} {sl_law : Array (Option Value)}
    (A_Cell : PySem.W.nsIn K mainGlobals "Cell" = some (some (.ref c_Cell)))
    (A_PlainHeap : PySem.W.nsIn K mainGlobals "PlainHeap" = some (some (.ref c_PlainHeap)))
    (A_Proxy : PySem.W.nsIn K mainGlobals "Proxy" = some (some (.ref c_Proxy)))
    (A_Service : PySem.W.nsIn K mainGlobals "Service" = some (some (.ref c_Service)))
    (a_law_take : PySem.W.nsIn K mainGlobals "_law_take" = some (some (.ref f_law_take)))
    (l_law_take : K.lookup f_law_take = some ⟨oc_law_take, od_law_take, .func (PySem.W.fnOf "_law_take" "_law_take" (defArgs s_law_take) (defBody s_law_take) (defScope s_law_take) .none kV_law_take dc_law_take pm_law_take an_law_take cd_law_take ct_law_take), sl_law_take⟩)
    (c_law_take : PySem.W.codeIn K cd_law_take "_law_take" = true)
    (k_law_take : PySem.W.keepIn K (.ref f_law_take) = true)
    (a_law_deck : PySem.W.nsIn K mainGlobals "_law_deck" = some (some (.ref f_law_deck)))
    (l_law_deck : K.lookup f_law_deck = some ⟨oc_law_deck, od_law_deck, .func (PySem.W.fnOf "_law_deck" "_law_deck" (defArgs s_law_deck) (defBody s_law_deck) (defScope s_law_deck) .none kV_law_deck dc_law_deck pm_law_deck an_law_deck cd_law_deck ct_law_deck), sl_law_deck⟩)
    (c_law_deck : PySem.W.codeIn K cd_law_deck "_law_deck" = true)
    (k_law_deck : PySem.W.keepIn K (.ref f_law_deck) = true)
    (a_law_whole : PySem.W.nsIn K mainGlobals "_law_whole" = some (some (.ref f_law_whole)))
    (l_law_whole : K.lookup f_law_whole = some ⟨oc_law_whole, od_law_whole, .func (PySem.W.fnOf "_law_whole" "_law_whole" (defArgs s_law_whole) (defBody s_law_whole) (defScope s_law_whole) .none kV_law_whole dc_law_whole pm_law_whole an_law_whole cd_law_whole ct_law_whole), sl_law_whole⟩)
    (c_law_whole : PySem.W.codeIn K cd_law_whole "_law_whole" = true)
    (k_law_whole : PySem.W.keepIn K (.ref f_law_whole) = true)
    (a_Cell_init_ : PySem.W.findIn K (.ref c_Cell) "__init__" = some (some (.ref f_Cell_init_)))
    (i_Cell_init_ : PySem.W.isFn K (.ref f_Cell_init_) = true)
    (l_Cell_init_ : K.lookup f_Cell_init_ = some ⟨oc_Cell_init_, od_Cell_init_, .func (PySem.W.fnOf "__init__" "Cell.__init__" (defArgs s_Cell_init_) (defBody s_Cell_init_) (defScope s_Cell_init_) .none kV_Cell_init_ dc_Cell_init_ pm_Cell_init_ an_Cell_init_ cd_Cell_init_ ct_Cell_init_), sl_Cell_init_⟩)
    (c_Cell_init_ : PySem.W.codeIn K cd_Cell_init_ "Cell.__init__" = true)
    (k_Cell_init_ : PySem.W.keepIn K (.ref f_Cell_init_) = true)
    (a_Service_init_ : PySem.W.findIn K (.ref c_Service) "__init__" = some (some (.ref f_Service_init_)))
    (i_Service_init_ : PySem.W.isFn K (.ref f_Service_init_) = true)
    (l_Service_init_ : K.lookup f_Service_init_ = some ⟨oc_Service_init_, od_Service_init_, .func (PySem.W.fnOf "__init__" "Service.__init__" (defArgs s_Service_init_) (defBody s_Service_init_) (defScope s_Service_init_) .none kV_Service_init_ dc_Service_init_ pm_Service_init_ an_Service_init_ cd_Service_init_ ct_Service_init_), sl_Service_init_⟩)
    (c_Service_init_ : PySem.W.codeIn K cd_Service_init_ "Service.__init__" = true)
    (k_Service_init_ : PySem.W.keepIn K (.ref f_Service_init_) = true)
    (a_Proxy_init_ : PySem.W.findIn K (.ref c_Proxy) "__init__" = some (some (.ref f_Proxy_init_)))
    (i_Proxy_init_ : PySem.W.isFn K (.ref f_Proxy_init_) = true)
    (l_Proxy_init_ : K.lookup f_Proxy_init_ = some ⟨oc_Proxy_init_, od_Proxy_init_, .func (PySem.W.fnOf "__init__" "Proxy.__init__" (defArgs s_Proxy_init_) (defBody s_Proxy_init_) (defScope s_Proxy_init_) .none kV_Proxy_init_ dc_Proxy_init_ pm_Proxy_init_ an_Proxy_init_ cd_Proxy_init_ ct_Proxy_init_), sl_Proxy_init_⟩)
    (c_Proxy_init_ : PySem.W.codeIn K cd_Proxy_init_ "Proxy.__init__" = true)
    (k_Proxy_init_ : PySem.W.keepIn K (.ref f_Proxy_init_) = true)
    (a_put_in : PySem.W.nsIn K mainGlobals "put_in" = some (some (.ref f_put_in)))
    (l_put_in : K.lookup f_put_in = some ⟨oc_put_in, od_put_in, .func (PySem.W.fnOf "put_in" "put_in" (defArgs s_put_in) (defBody s_put_in) (defScope s_put_in) .none kV_put_in dc_put_in pm_put_in an_put_in cd_put_in ct_put_in), sl_put_in⟩)
    (c_put_in : PySem.W.codeIn K cd_put_in "put_in" = true)
    (k_put_in : PySem.W.keepIn K (.ref f_put_in) = true)
    (a_PlainHeap_init_ : PySem.W.findIn K (.ref c_PlainHeap) "__init__" = some (some (.ref f_PlainHeap_init_)))
    (i_PlainHeap_init_ : PySem.W.isFn K (.ref f_PlainHeap_init_) = true)
    (l_PlainHeap_init_ : K.lookup f_PlainHeap_init_ = some ⟨oc_PlainHeap_init_, od_PlainHeap_init_, .func (PySem.W.fnOf "__init__" "PlainHeap.__init__" (defArgs s_PlainHeap_init_) (defBody s_PlainHeap_init_) (defScope s_PlainHeap_init_) .none kV_PlainHeap_init_ dc_PlainHeap_init_ pm_PlainHeap_init_ an_PlainHeap_init_ cd_PlainHeap_init_ ct_PlainHeap_init_), sl_PlainHeap_init_⟩)
    (c_PlainHeap_init_ : PySem.W.codeIn K cd_PlainHeap_init_ "PlainHeap.__init__" = true)
    (k_PlainHeap_init_ : PySem.W.keepIn K (.ref f_PlainHeap_init_) = true)
    (a_PlainHeap_thing : PySem.W.findIn K (.ref c_PlainHeap) "thing" = some (some (.ref f_PlainHeap_thing)))
    (i_PlainHeap_thing : PySem.W.isFn K (.ref f_PlainHeap_thing) = true)
    (l_PlainHeap_thing : K.lookup f_PlainHeap_thing = some ⟨oc_PlainHeap_thing, od_PlainHeap_thing, .func (PySem.W.fnOf "thing" "PlainHeap.thing" (defArgs s_PlainHeap_thing) (defBody s_PlainHeap_thing) (defScope s_PlainHeap_thing) .none kV_PlainHeap_thing dc_PlainHeap_thing pm_PlainHeap_thing an_PlainHeap_thing cd_PlainHeap_thing ct_PlainHeap_thing), sl_PlainHeap_thing⟩)
    (c_PlainHeap_thing : PySem.W.codeIn K cd_PlainHeap_thing "PlainHeap.thing" = true)
    (k_PlainHeap_thing : PySem.W.keepIn K (.ref f_PlainHeap_thing) = true)
    (a_PlainHeap_where : PySem.W.findIn K (.ref c_PlainHeap) "where" = some (some (.ref f_PlainHeap_where)))
    (i_PlainHeap_where : PySem.W.isFn K (.ref f_PlainHeap_where) = true)
    (l_PlainHeap_where : K.lookup f_PlainHeap_where = some ⟨oc_PlainHeap_where, od_PlainHeap_where, .func (PySem.W.fnOf "where" "PlainHeap.where" (defArgs s_PlainHeap_where) (defBody s_PlainHeap_where) (defScope s_PlainHeap_where) .none kV_PlainHeap_where dc_PlainHeap_where pm_PlainHeap_where an_PlainHeap_where cd_PlainHeap_where ct_PlainHeap_where), sl_PlainHeap_where⟩)
    (c_PlainHeap_where : PySem.W.codeIn K cd_PlainHeap_where "PlainHeap.where" = true)
    (k_PlainHeap_where : PySem.W.keepIn K (.ref f_PlainHeap_where) = true)
    (a_PlainHeap_where_proxy : PySem.W.findIn K (.ref c_PlainHeap) "where_proxy" = some (some (.ref f_PlainHeap_where_proxy)))
    (i_PlainHeap_where_proxy : PySem.W.isFn K (.ref f_PlainHeap_where_proxy) = true)
    (l_PlainHeap_where_proxy : K.lookup f_PlainHeap_where_proxy = some ⟨oc_PlainHeap_where_proxy, od_PlainHeap_where_proxy, .func (PySem.W.fnOf "where_proxy" "PlainHeap.where_proxy" (defArgs s_PlainHeap_where_proxy) (defBody s_PlainHeap_where_proxy) (defScope s_PlainHeap_where_proxy) .none kV_PlainHeap_where_proxy dc_PlainHeap_where_proxy pm_PlainHeap_where_proxy an_PlainHeap_where_proxy cd_PlainHeap_where_proxy ct_PlainHeap_where_proxy), sl_PlainHeap_where_proxy⟩)
    (c_PlainHeap_where_proxy : PySem.W.codeIn K cd_PlainHeap_where_proxy "PlainHeap.where_proxy" = true)
    (k_PlainHeap_where_proxy : PySem.W.keepIn K (.ref f_PlainHeap_where_proxy) = true)
    (a_PlainHeap_make_cell : PySem.W.findIn K (.ref c_PlainHeap) "make_cell" = some (some (.ref f_PlainHeap_make_cell)))
    (i_PlainHeap_make_cell : PySem.W.isFn K (.ref f_PlainHeap_make_cell) = true)
    (l_PlainHeap_make_cell : K.lookup f_PlainHeap_make_cell = some ⟨oc_PlainHeap_make_cell, od_PlainHeap_make_cell, .func (PySem.W.fnOf "make_cell" "PlainHeap.make_cell" (defArgs s_PlainHeap_make_cell) (defBody s_PlainHeap_make_cell) (defScope s_PlainHeap_make_cell) .none kV_PlainHeap_make_cell dc_PlainHeap_make_cell pm_PlainHeap_make_cell an_PlainHeap_make_cell cd_PlainHeap_make_cell ct_PlainHeap_make_cell), sl_PlainHeap_make_cell⟩)
    (c_PlainHeap_make_cell : PySem.W.codeIn K cd_PlainHeap_make_cell "PlainHeap.make_cell" = true)
    (k_PlainHeap_make_cell : PySem.W.keepIn K (.ref f_PlainHeap_make_cell) = true)
    (a_PlainHeap_make_service : PySem.W.findIn K (.ref c_PlainHeap) "make_service" = some (some (.ref f_PlainHeap_make_service)))
    (i_PlainHeap_make_service : PySem.W.isFn K (.ref f_PlainHeap_make_service) = true)
    (l_PlainHeap_make_service : K.lookup f_PlainHeap_make_service = some ⟨oc_PlainHeap_make_service, od_PlainHeap_make_service, .func (PySem.W.fnOf "make_service" "PlainHeap.make_service" (defArgs s_PlainHeap_make_service) (defBody s_PlainHeap_make_service) (defScope s_PlainHeap_make_service) .none kV_PlainHeap_make_service dc_PlainHeap_make_service pm_PlainHeap_make_service an_PlainHeap_make_service cd_PlainHeap_make_service ct_PlainHeap_make_service), sl_PlainHeap_make_service⟩)
    (c_PlainHeap_make_service : PySem.W.codeIn K cd_PlainHeap_make_service "PlainHeap.make_service" = true)
    (k_PlainHeap_make_service : PySem.W.keepIn K (.ref f_PlainHeap_make_service) = true)
    (a_PlainHeap_make_proxy : PySem.W.findIn K (.ref c_PlainHeap) "make_proxy" = some (some (.ref f_PlainHeap_make_proxy)))
    (i_PlainHeap_make_proxy : PySem.W.isFn K (.ref f_PlainHeap_make_proxy) = true)
    (l_PlainHeap_make_proxy : K.lookup f_PlainHeap_make_proxy = some ⟨oc_PlainHeap_make_proxy, od_PlainHeap_make_proxy, .func (PySem.W.fnOf "make_proxy" "PlainHeap.make_proxy" (defArgs s_PlainHeap_make_proxy) (defBody s_PlainHeap_make_proxy) (defScope s_PlainHeap_make_proxy) .none kV_PlainHeap_make_proxy dc_PlainHeap_make_proxy pm_PlainHeap_make_proxy an_PlainHeap_make_proxy cd_PlainHeap_make_proxy ct_PlainHeap_make_proxy), sl_PlainHeap_make_proxy⟩)
    (c_PlainHeap_make_proxy : PySem.W.codeIn K cd_PlainHeap_make_proxy "PlainHeap.make_proxy" = true)
    (k_PlainHeap_make_proxy : PySem.W.keepIn K (.ref f_PlainHeap_make_proxy) = true)
    (a_PlainHeap_keep : PySem.W.findIn K (.ref c_PlainHeap) "keep" = some (some (.ref f_PlainHeap_keep)))
    (i_PlainHeap_keep : PySem.W.isFn K (.ref f_PlainHeap_keep) = true)
    (l_PlainHeap_keep : K.lookup f_PlainHeap_keep = some ⟨oc_PlainHeap_keep, od_PlainHeap_keep, .func (PySem.W.fnOf "keep" "PlainHeap.keep" (defArgs s_PlainHeap_keep) (defBody s_PlainHeap_keep) (defScope s_PlainHeap_keep) .none kV_PlainHeap_keep dc_PlainHeap_keep pm_PlainHeap_keep an_PlainHeap_keep cd_PlainHeap_keep ct_PlainHeap_keep), sl_PlainHeap_keep⟩)
    (c_PlainHeap_keep : PySem.W.codeIn K cd_PlainHeap_keep "PlainHeap.keep" = true)
    (k_PlainHeap_keep : PySem.W.keepIn K (.ref f_PlainHeap_keep) = true)
    (a_PlainHeap_drop : PySem.W.findIn K (.ref c_PlainHeap) "drop" = some (some (.ref f_PlainHeap_drop)))
    (i_PlainHeap_drop : PySem.W.isFn K (.ref f_PlainHeap_drop) = true)
    (l_PlainHeap_drop : K.lookup f_PlainHeap_drop = some ⟨oc_PlainHeap_drop, od_PlainHeap_drop, .func (PySem.W.fnOf "drop" "PlainHeap.drop" (defArgs s_PlainHeap_drop) (defBody s_PlainHeap_drop) (defScope s_PlainHeap_drop) .none kV_PlainHeap_drop dc_PlainHeap_drop pm_PlainHeap_drop an_PlainHeap_drop cd_PlainHeap_drop ct_PlainHeap_drop), sl_PlainHeap_drop⟩)
    (c_PlainHeap_drop : PySem.W.codeIn K cd_PlainHeap_drop "PlainHeap.drop" = true)
    (k_PlainHeap_drop : PySem.W.keepIn K (.ref f_PlainHeap_drop) = true)
    (a_PlainHeap_change_hold : PySem.W.findIn K (.ref c_PlainHeap) "change_hold" = some (some (.ref f_PlainHeap_change_hold)))
    (i_PlainHeap_change_hold : PySem.W.isFn K (.ref f_PlainHeap_change_hold) = true)
    (l_PlainHeap_change_hold : K.lookup f_PlainHeap_change_hold = some ⟨oc_PlainHeap_change_hold, od_PlainHeap_change_hold, .func (PySem.W.fnOf "change_hold" "PlainHeap.change_hold" (defArgs s_PlainHeap_change_hold) (defBody s_PlainHeap_change_hold) (defScope s_PlainHeap_change_hold) .none kV_PlainHeap_change_hold dc_PlainHeap_change_hold pm_PlainHeap_change_hold an_PlainHeap_change_hold cd_PlainHeap_change_hold ct_PlainHeap_change_hold), sl_PlainHeap_change_hold⟩)
    (c_PlainHeap_change_hold : PySem.W.codeIn K cd_PlainHeap_change_hold "PlainHeap.change_hold" = true)
    (k_PlainHeap_change_hold : PySem.W.keepIn K (.ref f_PlainHeap_change_hold) = true)
    (a_PlainHeap_collect : PySem.W.findIn K (.ref c_PlainHeap) "collect" = some (some (.ref f_PlainHeap_collect)))
    (i_PlainHeap_collect : PySem.W.isFn K (.ref f_PlainHeap_collect) = true)
    (l_PlainHeap_collect : K.lookup f_PlainHeap_collect = some ⟨oc_PlainHeap_collect, od_PlainHeap_collect, .func (PySem.W.fnOf "collect" "PlainHeap.collect" (defArgs s_PlainHeap_collect) (defBody s_PlainHeap_collect) (defScope s_PlainHeap_collect) .none kV_PlainHeap_collect dc_PlainHeap_collect pm_PlainHeap_collect an_PlainHeap_collect cd_PlainHeap_collect ct_PlainHeap_collect), sl_PlainHeap_collect⟩)
    (c_PlainHeap_collect : PySem.W.codeIn K cd_PlainHeap_collect "PlainHeap.collect" = true)
    (k_PlainHeap_collect : PySem.W.keepIn K (.ref f_PlainHeap_collect) = true)
    (a_PlainHeap_set_link : PySem.W.findIn K (.ref c_PlainHeap) "set_link" = some (some (.ref f_PlainHeap_set_link)))
    (i_PlainHeap_set_link : PySem.W.isFn K (.ref f_PlainHeap_set_link) = true)
    (l_PlainHeap_set_link : K.lookup f_PlainHeap_set_link = some ⟨oc_PlainHeap_set_link, od_PlainHeap_set_link, .func (PySem.W.fnOf "set_link" "PlainHeap.set_link" (defArgs s_PlainHeap_set_link) (defBody s_PlainHeap_set_link) (defScope s_PlainHeap_set_link) .none kV_PlainHeap_set_link dc_PlainHeap_set_link pm_PlainHeap_set_link an_PlainHeap_set_link cd_PlainHeap_set_link ct_PlainHeap_set_link), sl_PlainHeap_set_link⟩)
    (c_PlainHeap_set_link : PySem.W.codeIn K cd_PlainHeap_set_link "PlainHeap.set_link" = true)
    (k_PlainHeap_set_link : PySem.W.keepIn K (.ref f_PlainHeap_set_link) = true)
    (a_in_order : PySem.W.nsIn K mainGlobals "in_order" = some (some (.ref f_in_order)))
    (l_in_order : K.lookup f_in_order = some ⟨oc_in_order, od_in_order, .func (PySem.W.fnOf "in_order" "in_order" (defArgs s_in_order) (defBody s_in_order) (defScope s_in_order) .none kV_in_order dc_in_order pm_in_order an_in_order cd_in_order ct_in_order), sl_in_order⟩)
    (c_in_order : PySem.W.codeIn K cd_in_order "in_order" = true)
    (k_in_order : PySem.W.keepIn K (.ref f_in_order) = true)
    (a_PlainHeap_everything : PySem.W.findIn K (.ref c_PlainHeap) "everything" = some (some (.ref f_PlainHeap_everything)))
    (i_PlainHeap_everything : PySem.W.isFn K (.ref f_PlainHeap_everything) = true)
    (l_PlainHeap_everything : K.lookup f_PlainHeap_everything = some ⟨oc_PlainHeap_everything, od_PlainHeap_everything, .func (PySem.W.fnOf "everything" "PlainHeap.everything" (defArgs s_PlainHeap_everything) (defBody s_PlainHeap_everything) (defScope s_PlainHeap_everything) .none kV_PlainHeap_everything dc_PlainHeap_everything pm_PlainHeap_everything an_PlainHeap_everything cd_PlainHeap_everything ct_PlainHeap_everything), sl_PlainHeap_everything⟩)
    (c_PlainHeap_everything : PySem.W.codeIn K cd_PlainHeap_everything "PlainHeap.everything" = true)
    (k_PlainHeap_everything : PySem.W.keepIn K (.ref f_PlainHeap_everything) = true)
    (a_law_same_thing : PySem.W.nsIn K mainGlobals "_law_same_thing" = some (some (.ref f_law_same_thing)))
    (l_law_same_thing : K.lookup f_law_same_thing = some ⟨oc_law_same_thing, od_law_same_thing, .func (PySem.W.fnOf "_law_same_thing" "_law_same_thing" (defArgs s_law_same_thing) (defBody s_law_same_thing) (defScope s_law_same_thing) .none kV_law_same_thing dc_law_same_thing pm_law_same_thing an_law_same_thing cd_law_same_thing ct_law_same_thing), sl_law_same_thing⟩)
    (c_law_same_thing : PySem.W.codeIn K cd_law_same_thing "_law_same_thing" = true)
    (k_law_same_thing : PySem.W.keepIn K (.ref f_law_same_thing) = true)
    (a_law_same_heap : PySem.W.nsIn K mainGlobals "_law_same_heap" = some (some (.ref f_law_same_heap)))
    (l_law_same_heap : K.lookup f_law_same_heap = some ⟨oc_law_same_heap, od_law_same_heap, .func (PySem.W.fnOf "_law_same_heap" "_law_same_heap" (defArgs s_law_same_heap) (defBody s_law_same_heap) (defScope s_law_same_heap) .none kV_law_same_heap dc_law_same_heap pm_law_same_heap an_law_same_heap cd_law_same_heap ct_law_same_heap), sl_law_same_heap⟩)
    (c_law_same_heap : PySem.W.codeIn K cd_law_same_heap "_law_same_heap" = true)
    (k_law_same_heap : PySem.W.keepIn K (.ref f_law_same_heap) = true)
    (a_law_make : PySem.W.nsIn K mainGlobals "_law_make" = some (some (.ref f_law_make)))
    (l_law_make : K.lookup f_law_make = some ⟨oc_law_make, od_law_make, .func (PySem.W.fnOf "_law_make" "_law_make" (defArgs s_law_make) (defBody s_law_make) (defScope s_law_make) .none kV_law_make dc_law_make pm_law_make an_law_make cd_law_make ct_law_make), sl_law_make⟩)
    (c_law_make : PySem.W.codeIn K cd_law_make "_law_make" = true)
    (k_law_make : PySem.W.keepIn K (.ref f_law_make) = true)
    (a_law_deed : PySem.W.nsIn K mainGlobals "_law_deed" = some (some (.ref f_law_deed)))
    (l_law_deed : K.lookup f_law_deed = some ⟨oc_law_deed, od_law_deed, .func (PySem.W.fnOf "_law_deed" "_law_deed" (defArgs s_law_deed) (defBody s_law_deed) (defScope s_law_deed) .none kV_law_deed dc_law_deed pm_law_deed an_law_deed cd_law_deed ct_law_deed), sl_law_deed⟩)
    (c_law_deed : PySem.W.codeIn K cd_law_deed "_law_deed" = true)
    (k_law_deed : PySem.W.keepIn K (.ref f_law_deed) = true)
    (a_law : PySem.W.nsIn K mainGlobals "law" = some (some (.ref f_law)))
    (l_law : K.lookup f_law = some ⟨oc_law, od_law, .func (PySem.W.fnOf "law" "law" (defArgs s_law) (defBody s_law) (defScope s_law) .none kV_law dc_law pm_law an_law cd_law ct_law), sl_law⟩)
    (c_law : PySem.W.codeIn K cd_law "law" = true)
    (k_law : PySem.W.keepIn K (.ref f_law) = true)
    (pg_Cell : PySem.W.plainGet K c_Cell Str.empty = true)
    (hd_Cell : PySem.W.hasDictIn K c_Cell = true)
    (po_Cell : PySem.W.plainOver K c_Cell = true)
    (sa_Cell : PySem.W.findIn K (.ref c_Cell) "__setattr__" = some (some (.builtin "object.__setattr__")))
    (mk_Cell : PySem.W.makesIn K c_Cell = true)
    (kc_Cell : PySem.W.keepIn K (.ref c_Cell) = true)
    (n_Cell_content : PySem.W.findIn K (.ref c_Cell) "content" = some none)
    (n_Cell_link : PySem.W.findIn K (.ref c_Cell) "link" = some none)
    (n_Cell_maker : PySem.W.findIn K (.ref c_Cell) "maker" = some none)
    (n_Cell_place : PySem.W.findIn K (.ref c_Cell) "place" = some none)
    (n_Cell_references : PySem.W.findIn K (.ref c_Cell) "references" = some none)
    (n_Cell_serial : PySem.W.findIn K (.ref c_Cell) "serial" = some none)
    (pg_PlainHeap : PySem.W.plainGet K c_PlainHeap Str.empty = true)
    (hd_PlainHeap : PySem.W.hasDictIn K c_PlainHeap = true)
    (po_PlainHeap : PySem.W.plainOver K c_PlainHeap = true)
    (sa_PlainHeap : PySem.W.findIn K (.ref c_PlainHeap) "__setattr__" = some (some (.builtin "object.__setattr__")))
    (mk_PlainHeap : PySem.W.makesIn K c_PlainHeap = true)
    (kc_PlainHeap : PySem.W.keepIn K (.ref c_PlainHeap) = true)
    (n_PlainHeap_places : PySem.W.findIn K (.ref c_PlainHeap) "places" = some none)
    (n_PlainHeap_proxies : PySem.W.findIn K (.ref c_PlainHeap) "proxies" = some none)
    (n_PlainHeap_serials : PySem.W.findIn K (.ref c_PlainHeap) "serials" = some none)
    (pg_Proxy : PySem.W.plainGet K c_Proxy Str.empty = true)
    (hd_Proxy : PySem.W.hasDictIn K c_Proxy = true)
    (po_Proxy : PySem.W.plainOver K c_Proxy = true)
    (sa_Proxy : PySem.W.findIn K (.ref c_Proxy) "__setattr__" = some (some (.builtin "object.__setattr__")))
    (mk_Proxy : PySem.W.makesIn K c_Proxy = true)
    (kc_Proxy : PySem.W.keepIn K (.ref c_Proxy) = true)
    (n_Proxy_entry : PySem.W.findIn K (.ref c_Proxy) "entry" = some none)
    (n_Proxy_link : PySem.W.findIn K (.ref c_Proxy) "link" = some none)
    (n_Proxy_maker : PySem.W.findIn K (.ref c_Proxy) "maker" = some none)
    (n_Proxy_place : PySem.W.findIn K (.ref c_Proxy) "place" = some none)
    (n_Proxy_references : PySem.W.findIn K (.ref c_Proxy) "references" = some none)
    (n_Proxy_serial : PySem.W.findIn K (.ref c_Proxy) "serial" = some none)
    (pg_Service : PySem.W.plainGet K c_Service Str.empty = true)
    (hd_Service : PySem.W.hasDictIn K c_Service = true)
    (po_Service : PySem.W.plainOver K c_Service = true)
    (sa_Service : PySem.W.findIn K (.ref c_Service) "__setattr__" = some (some (.builtin "object.__setattr__")))
    (mk_Service : PySem.W.makesIn K c_Service = true)
    (kc_Service : PySem.W.keepIn K (.ref c_Service) = true)
    (n_Service_body : PySem.W.findIn K (.ref c_Service) "body" = some none)
    (n_Service_link : PySem.W.findIn K (.ref c_Service) "link" = some none)
    (n_Service_maker : PySem.W.findIn K (.ref c_Service) "maker" = some none)
    (n_Service_place : PySem.W.findIn K (.ref c_Service) "place" = some none)
    (n_Service_references : PySem.W.findIn K (.ref c_Service) "references" = some none)
    (n_Service_serial : PySem.W.findIn K (.ref c_Service) "serial" = some none)
    (kt_Cell_Cell : PySem.W.kitOne K (.ref c_Cell) (.ref c_Cell) = some true)
    (kt_Cell_Service : PySem.W.kitOne K (.ref c_Cell) (.ref c_Service) = some false)
    (kt_Cell_Proxy : PySem.W.kitOne K (.ref c_Cell) (.ref c_Proxy) = some false)
    (kt_Service_Cell : PySem.W.kitOne K (.ref c_Service) (.ref c_Cell) = some false)
    (kt_Service_Service : PySem.W.kitOne K (.ref c_Service) (.ref c_Service) = some true)
    (kt_Service_Proxy : PySem.W.kitOne K (.ref c_Service) (.ref c_Proxy) = some false)
    (kt_Proxy_Cell : PySem.W.kitOne K (.ref c_Proxy) (.ref c_Cell) = some false)
    (kt_Proxy_Service : PySem.W.kitOne K (.ref c_Proxy) (.ref c_Service) = some false)
    (kt_Proxy_Proxy : PySem.W.kitOne K (.ref c_Proxy) (.ref c_Proxy) = some true)
    (is_Cell : PySem.W.findIn K (.ref c_Cell) "__class__" = some (some (.builtin "object.__class__")))
    (io_Cell : PySem.W.mroIn K c_Cell (.type "object") = some true)
    (is_Service : PySem.W.findIn K (.ref c_Service) "__class__" = some (some (.builtin "object.__class__")))
    (io_Service : PySem.W.mroIn K c_Service (.type "object") = some true)
    (is_Proxy : PySem.W.findIn K (.ref c_Proxy) "__class__" = some (some (.builtin "object.__class__")))
    (io_Proxy : PySem.W.mroIn K c_Proxy (.type "object") = some true)
    (is_get : PySem.W.specialIn K (.builtin "object.__class__") "__get__" = some (some (.builtin "getset_descriptor.__get__")))
    (is_tk : PySem.W.takesIn K (.builtin "object.__class__") = some true)
    (z_abs : PySem.W.nsIn K mainGlobals "abs" = some none)
    (z_bool : PySem.W.nsIn K mainGlobals "bool" = some none)
    (z_int : PySem.W.nsIn K mainGlobals "int" = some none)
    (z_isinstance : PySem.W.nsIn K mainGlobals "isinstance" = some none)
    (z_len : PySem.W.nsIn K mainGlobals "len" = some none)
    (z_list : PySem.W.nsIn K mainGlobals "list" = some none)
    (z_range : PySem.W.nsIn K mainGlobals "range" = some none)
    (z_sorted : PySem.W.nsIn K mainGlobals "sorted" = some none)
    (z_tuple : PySem.W.nsIn K mainGlobals "tuple" = some none)
    : ∃ ad : Ad, Txt K mg ad ∧ fa = ad.a_law ∧ ∀ (s : Shared) (v : Value), BindsTo s ad.d_law ⟨[v], []⟩ [("script", v)] := by
  have e := hfa.symm.trans (PySem.W.mg_of X G a_law)
  cases e
  have F_law_take := fun_mk (st := s_law_take) l_law_take c_law_take k_law_take
  have b_law_take := F_law_take.binds (ps := ["deck", "many"]) fun _ _ _ _ _ _ us hl => match us, hl with | [_, _], _ => rfl
  have F_law_deck := fun_mk (st := s_law_deck) l_law_deck c_law_deck k_law_deck
  have b_law_deck := F_law_deck.binds (ps := ["script", "cells", "each"]) fun _ _ _ _ _ _ us hl => match us, hl with | [_, _, _], _ => rfl
  have F_law_whole := fun_mk (st := s_law_whole) l_law_whole c_law_whole k_law_whole
  have b_law_whole := F_law_whole.binds (ps := ["value"]) fun _ _ _ _ _ _ us hl => match us, hl with | [_], _ => rfl
  have F_Cell_init_ := fun_mk (st := s_Cell_init_) l_Cell_init_ c_Cell_init_ k_Cell_init_
  have b_Cell_init_ := F_Cell_init_.binds (ps := ["self", "serial", "maker", "content"]) fun _ _ _ _ _ _ us hl => match us, hl with | [_, _, _, _], _ => rfl
  have F_Service_init_ := fun_mk (st := s_Service_init_) l_Service_init_ c_Service_init_ k_Service_init_
  have b_Service_init_ := F_Service_init_.binds (ps := ["self", "serial", "maker", "body"]) fun _ _ _ _ _ _ us hl => match us, hl with | [_, _, _, _], _ => rfl
  have F_Proxy_init_ := fun_mk (st := s_Proxy_init_) l_Proxy_init_ c_Proxy_init_ k_Proxy_init_
  have b_Proxy_init_ := F_Proxy_init_.binds (ps := ["self", "entry"]) fun _ _ _ _ _ _ us hl => match us, hl with | [_, _], _ => rfl
  have F_put_in := fun_mk (st := s_put_in) l_put_in c_put_in k_put_in
  have b_put_in := F_put_in.binds (ps := ["heap", "thing", "place"]) fun _ _ _ _ _ _ us hl => match us, hl with | [_, _, _], _ => rfl
  have F_PlainHeap_init_ := fun_mk (st := s_PlainHeap_init_) l_PlainHeap_init_ c_PlainHeap_init_ k_PlainHeap_init_
  have b_PlainHeap_init_ := F_PlainHeap_init_.binds (ps := ["self"]) fun _ _ _ _ _ _ us hl => match us, hl with | [_], _ => rfl
  have F_PlainHeap_thing := fun_mk (st := s_PlainHeap_thing) l_PlainHeap_thing c_PlainHeap_thing k_PlainHeap_thing
  have b_PlainHeap_thing := F_PlainHeap_thing.binds (ps := ["self", "reference"]) fun _ _ _ _ _ _ us hl => match us, hl with | [_, _], _ => rfl
  have F_PlainHeap_where := fun_mk (st := s_PlainHeap_where) l_PlainHeap_where c_PlainHeap_where k_PlainHeap_where
  have b_PlainHeap_where := F_PlainHeap_where.binds (ps := ["self", "serial"]) fun _ _ _ _ _ _ us hl => match us, hl with | [_, _], _ => rfl
  have F_PlainHeap_where_proxy := fun_mk (st := s_PlainHeap_where_proxy) l_PlainHeap_where_proxy c_PlainHeap_where_proxy k_PlainHeap_where_proxy
  have b_PlainHeap_where_proxy := F_PlainHeap_where_proxy.binds (ps := ["self", "entry"]) fun _ _ _ _ _ _ us hl => match us, hl with | [_, _], _ => rfl
  have F_PlainHeap_make_cell := fun_mk (st := s_PlainHeap_make_cell) l_PlainHeap_make_cell c_PlainHeap_make_cell k_PlainHeap_make_cell
  have b_PlainHeap_make_cell := F_PlainHeap_make_cell.binds (ps := ["self", "serial", "maker", "content"]) fun _ _ _ _ _ _ us hl => match us, hl with | [_, _, _, _], _ => rfl
  have F_PlainHeap_make_service := fun_mk (st := s_PlainHeap_make_service) l_PlainHeap_make_service c_PlainHeap_make_service k_PlainHeap_make_service
  have b_PlainHeap_make_service := F_PlainHeap_make_service.binds (ps := ["self", "serial", "maker", "body"]) fun _ _ _ _ _ _ us hl => match us, hl with | [_, _, _, _], _ => rfl
  have F_PlainHeap_make_proxy := fun_mk (st := s_PlainHeap_make_proxy) l_PlainHeap_make_proxy c_PlainHeap_make_proxy k_PlainHeap_make_proxy
  have b_PlainHeap_make_proxy := F_PlainHeap_make_proxy.binds (ps := ["self", "entry"]) fun _ _ _ _ _ _ us hl => match us, hl with | [_, _], _ => rfl
  have F_PlainHeap_keep := fun_mk (st := s_PlainHeap_keep) l_PlainHeap_keep c_PlainHeap_keep k_PlainHeap_keep
  have b_PlainHeap_keep := F_PlainHeap_keep.binds (ps := ["self", "reference"]) fun _ _ _ _ _ _ us hl => match us, hl with | [_, _], _ => rfl
  have F_PlainHeap_drop := fun_mk (st := s_PlainHeap_drop) l_PlainHeap_drop c_PlainHeap_drop k_PlainHeap_drop
  have b_PlainHeap_drop := F_PlainHeap_drop.binds (ps := ["self", "reference"]) fun _ _ _ _ _ _ us hl => match us, hl with | [_, _], _ => rfl
  have F_PlainHeap_change_hold := fun_mk (st := s_PlainHeap_change_hold) l_PlainHeap_change_hold c_PlainHeap_change_hold k_PlainHeap_change_hold
  have b_PlainHeap_change_hold := F_PlainHeap_change_hold.binds (ps := ["self", "serial", "change"]) fun _ _ _ _ _ _ us hl => match us, hl with | [_, _, _], _ => rfl
  have F_PlainHeap_collect := fun_mk (st := s_PlainHeap_collect) l_PlainHeap_collect c_PlainHeap_collect k_PlainHeap_collect
  have b_PlainHeap_collect := F_PlainHeap_collect.binds (ps := ["self", "registers", "held", "pinned"]) fun _ _ _ _ _ _ us hl => match us, hl with | [_, _, _, _], _ => rfl
  have F_PlainHeap_set_link := fun_mk (st := s_PlainHeap_set_link) l_PlainHeap_set_link c_PlainHeap_set_link k_PlainHeap_set_link
  have b_PlainHeap_set_link := F_PlainHeap_set_link.binds (ps := ["self", "reference", "target"]) fun _ _ _ _ _ _ us hl => match us, hl with | [_, _, _], _ => rfl
  have F_in_order := fun_mk (st := s_in_order) l_in_order c_in_order k_in_order
  have b_in_order := F_in_order.binds (ps := ["heap"]) fun _ _ _ _ _ _ us hl => match us, hl with | [_], _ => rfl
  have F_PlainHeap_everything := fun_mk (st := s_PlainHeap_everything) l_PlainHeap_everything c_PlainHeap_everything k_PlainHeap_everything
  have b_PlainHeap_everything := F_PlainHeap_everything.binds (ps := ["self"]) fun _ _ _ _ _ _ us hl => match us, hl with | [_], _ => rfl
  have F_law_same_thing := fun_mk (st := s_law_same_thing) l_law_same_thing c_law_same_thing k_law_same_thing
  have b_law_same_thing := F_law_same_thing.binds (ps := ["thing", "place", "due"]) fun _ _ _ _ _ _ us hl => match us, hl with | [_, _, _], _ => rfl
  have F_law_same_heap := fun_mk (st := s_law_same_heap) l_law_same_heap c_law_same_heap k_law_same_heap
  have b_law_same_heap := F_law_same_heap.binds (ps := ["heap", "things", "numbers"]) fun _ _ _ _ _ _ us hl => match us, hl with | [_, _, _], _ => rfl
  have F_law_make := fun_mk (st := s_law_make) l_law_make c_law_make k_law_make
  have b_law_make := F_law_make.binds (ps := ["deck", "heap", "things", "number", "place"]) fun _ _ _ _ _ _ us hl => match us, hl with | [_, _, _, _, _], _ => rfl
  have F_law_deed := fun_mk (st := s_law_deed) l_law_deed c_law_deed k_law_deed
  have b_law_deed := F_law_deed.binds (ps := ["deck", "heap", "things", "number"]) fun _ _ _ _ _ _ us hl => match us, hl with | [_, _, _, _], _ => rfl
  have F_law := fun_mk (st := s_law) l_law c_law k_law
  have b_law := F_law.binds (ps := ["script"]) fun _ _ _ _ _ _ us hl => match us, hl with | [_], _ => rfl
  refine ⟨⟨f_law_take, (PySem.W.fnOf "_law_take" "_law_take" (defArgs s_law_take) (defBody s_law_take) (defScope s_law_take) .none kV_law_take dc_law_take pm_law_take an_law_take cd_law_take ct_law_take), f_law_deck, (PySem.W.fnOf "_law_deck" "_law_deck" (defArgs s_law_deck) (defBody s_law_deck) (defScope s_law_deck) .none kV_law_deck dc_law_deck pm_law_deck an_law_deck cd_law_deck ct_law_deck), f_law_whole, (PySem.W.fnOf "_law_whole" "_law_whole" (defArgs s_law_whole) (defBody s_law_whole) (defScope s_law_whole) .none kV_law_whole dc_law_whole pm_law_whole an_law_whole cd_law_whole ct_law_whole), f_Cell_init_, (PySem.W.fnOf "__init__" "Cell.__init__" (defArgs s_Cell_init_) (defBody s_Cell_init_) (defScope s_Cell_init_) .none kV_Cell_init_ dc_Cell_init_ pm_Cell_init_ an_Cell_init_ cd_Cell_init_ ct_Cell_init_), f_Service_init_, (PySem.W.fnOf "__init__" "Service.__init__" (defArgs s_Service_init_) (defBody s_Service_init_) (defScope s_Service_init_) .none kV_Service_init_ dc_Service_init_ pm_Service_init_ an_Service_init_ cd_Service_init_ ct_Service_init_), f_Proxy_init_, (PySem.W.fnOf "__init__" "Proxy.__init__" (defArgs s_Proxy_init_) (defBody s_Proxy_init_) (defScope s_Proxy_init_) .none kV_Proxy_init_ dc_Proxy_init_ pm_Proxy_init_ an_Proxy_init_ cd_Proxy_init_ ct_Proxy_init_), f_put_in, (PySem.W.fnOf "put_in" "put_in" (defArgs s_put_in) (defBody s_put_in) (defScope s_put_in) .none kV_put_in dc_put_in pm_put_in an_put_in cd_put_in ct_put_in), f_PlainHeap_init_, (PySem.W.fnOf "__init__" "PlainHeap.__init__" (defArgs s_PlainHeap_init_) (defBody s_PlainHeap_init_) (defScope s_PlainHeap_init_) .none kV_PlainHeap_init_ dc_PlainHeap_init_ pm_PlainHeap_init_ an_PlainHeap_init_ cd_PlainHeap_init_ ct_PlainHeap_init_), f_PlainHeap_thing, (PySem.W.fnOf "thing" "PlainHeap.thing" (defArgs s_PlainHeap_thing) (defBody s_PlainHeap_thing) (defScope s_PlainHeap_thing) .none kV_PlainHeap_thing dc_PlainHeap_thing pm_PlainHeap_thing an_PlainHeap_thing cd_PlainHeap_thing ct_PlainHeap_thing), f_PlainHeap_where, (PySem.W.fnOf "where" "PlainHeap.where" (defArgs s_PlainHeap_where) (defBody s_PlainHeap_where) (defScope s_PlainHeap_where) .none kV_PlainHeap_where dc_PlainHeap_where pm_PlainHeap_where an_PlainHeap_where cd_PlainHeap_where ct_PlainHeap_where), f_PlainHeap_where_proxy, (PySem.W.fnOf "where_proxy" "PlainHeap.where_proxy" (defArgs s_PlainHeap_where_proxy) (defBody s_PlainHeap_where_proxy) (defScope s_PlainHeap_where_proxy) .none kV_PlainHeap_where_proxy dc_PlainHeap_where_proxy pm_PlainHeap_where_proxy an_PlainHeap_where_proxy cd_PlainHeap_where_proxy ct_PlainHeap_where_proxy), f_PlainHeap_make_cell, (PySem.W.fnOf "make_cell" "PlainHeap.make_cell" (defArgs s_PlainHeap_make_cell) (defBody s_PlainHeap_make_cell) (defScope s_PlainHeap_make_cell) .none kV_PlainHeap_make_cell dc_PlainHeap_make_cell pm_PlainHeap_make_cell an_PlainHeap_make_cell cd_PlainHeap_make_cell ct_PlainHeap_make_cell), f_PlainHeap_make_service, (PySem.W.fnOf "make_service" "PlainHeap.make_service" (defArgs s_PlainHeap_make_service) (defBody s_PlainHeap_make_service) (defScope s_PlainHeap_make_service) .none kV_PlainHeap_make_service dc_PlainHeap_make_service pm_PlainHeap_make_service an_PlainHeap_make_service cd_PlainHeap_make_service ct_PlainHeap_make_service), f_PlainHeap_make_proxy, (PySem.W.fnOf "make_proxy" "PlainHeap.make_proxy" (defArgs s_PlainHeap_make_proxy) (defBody s_PlainHeap_make_proxy) (defScope s_PlainHeap_make_proxy) .none kV_PlainHeap_make_proxy dc_PlainHeap_make_proxy pm_PlainHeap_make_proxy an_PlainHeap_make_proxy cd_PlainHeap_make_proxy ct_PlainHeap_make_proxy), f_PlainHeap_keep, (PySem.W.fnOf "keep" "PlainHeap.keep" (defArgs s_PlainHeap_keep) (defBody s_PlainHeap_keep) (defScope s_PlainHeap_keep) .none kV_PlainHeap_keep dc_PlainHeap_keep pm_PlainHeap_keep an_PlainHeap_keep cd_PlainHeap_keep ct_PlainHeap_keep), f_PlainHeap_drop, (PySem.W.fnOf "drop" "PlainHeap.drop" (defArgs s_PlainHeap_drop) (defBody s_PlainHeap_drop) (defScope s_PlainHeap_drop) .none kV_PlainHeap_drop dc_PlainHeap_drop pm_PlainHeap_drop an_PlainHeap_drop cd_PlainHeap_drop ct_PlainHeap_drop), f_PlainHeap_change_hold, (PySem.W.fnOf "change_hold" "PlainHeap.change_hold" (defArgs s_PlainHeap_change_hold) (defBody s_PlainHeap_change_hold) (defScope s_PlainHeap_change_hold) .none kV_PlainHeap_change_hold dc_PlainHeap_change_hold pm_PlainHeap_change_hold an_PlainHeap_change_hold cd_PlainHeap_change_hold ct_PlainHeap_change_hold), f_PlainHeap_collect, (PySem.W.fnOf "collect" "PlainHeap.collect" (defArgs s_PlainHeap_collect) (defBody s_PlainHeap_collect) (defScope s_PlainHeap_collect) .none kV_PlainHeap_collect dc_PlainHeap_collect pm_PlainHeap_collect an_PlainHeap_collect cd_PlainHeap_collect ct_PlainHeap_collect), f_PlainHeap_set_link, (PySem.W.fnOf "set_link" "PlainHeap.set_link" (defArgs s_PlainHeap_set_link) (defBody s_PlainHeap_set_link) (defScope s_PlainHeap_set_link) .none kV_PlainHeap_set_link dc_PlainHeap_set_link pm_PlainHeap_set_link an_PlainHeap_set_link cd_PlainHeap_set_link ct_PlainHeap_set_link), f_in_order, (PySem.W.fnOf "in_order" "in_order" (defArgs s_in_order) (defBody s_in_order) (defScope s_in_order) .none kV_in_order dc_in_order pm_in_order an_in_order cd_in_order ct_in_order), f_PlainHeap_everything, (PySem.W.fnOf "everything" "PlainHeap.everything" (defArgs s_PlainHeap_everything) (defBody s_PlainHeap_everything) (defScope s_PlainHeap_everything) .none kV_PlainHeap_everything dc_PlainHeap_everything pm_PlainHeap_everything an_PlainHeap_everything cd_PlainHeap_everything ct_PlainHeap_everything), f_law_same_thing, (PySem.W.fnOf "_law_same_thing" "_law_same_thing" (defArgs s_law_same_thing) (defBody s_law_same_thing) (defScope s_law_same_thing) .none kV_law_same_thing dc_law_same_thing pm_law_same_thing an_law_same_thing cd_law_same_thing ct_law_same_thing), f_law_same_heap, (PySem.W.fnOf "_law_same_heap" "_law_same_heap" (defArgs s_law_same_heap) (defBody s_law_same_heap) (defScope s_law_same_heap) .none kV_law_same_heap dc_law_same_heap pm_law_same_heap an_law_same_heap cd_law_same_heap ct_law_same_heap), f_law_make, (PySem.W.fnOf "_law_make" "_law_make" (defArgs s_law_make) (defBody s_law_make) (defScope s_law_make) .none kV_law_make dc_law_make pm_law_make an_law_make cd_law_make ct_law_make), f_law_deed, (PySem.W.fnOf "_law_deed" "_law_deed" (defArgs s_law_deed) (defBody s_law_deed) (defScope s_law_deed) .none kV_law_deed dc_law_deed pm_law_deed an_law_deed cd_law_deed ct_law_deed), fa, (PySem.W.fnOf "law" "law" (defArgs s_law) (defBody s_law) (defScope s_law) .none kV_law dc_law pm_law an_law cd_law ct_law), c_Cell, c_PlainHeap, c_Proxy, c_Service⟩, ?_, rfl, fun s v => .of_eq rfl⟩
  exact {
    F_law_take := F_law_take
    b_law_take := b_law_take
    m_law_take := PySem.W.mg_of X G a_law_take
    F_law_deck := F_law_deck
    b_law_deck := b_law_deck
    m_law_deck := PySem.W.mg_of X G a_law_deck
    F_law_whole := F_law_whole
    b_law_whole := b_law_whole
    m_law_whole := PySem.W.mg_of X G a_law_whole
    F_Cell_init_ := F_Cell_init_
    b_Cell_init_ := b_Cell_init_
    F_Service_init_ := F_Service_init_
    b_Service_init_ := b_Service_init_
    F_Proxy_init_ := F_Proxy_init_
    b_Proxy_init_ := b_Proxy_init_
    F_put_in := F_put_in
    b_put_in := b_put_in
    m_put_in := PySem.W.mg_of X G a_put_in
    F_PlainHeap_init_ := F_PlainHeap_init_
    b_PlainHeap_init_ := b_PlainHeap_init_
    F_PlainHeap_thing := F_PlainHeap_thing
    b_PlainHeap_thing := b_PlainHeap_thing
    me_PlainHeap_thing := ⟨a_PlainHeap_thing, i_PlainHeap_thing, k_PlainHeap_thing⟩
    F_PlainHeap_where := F_PlainHeap_where
    b_PlainHeap_where := b_PlainHeap_where
    me_PlainHeap_where := ⟨a_PlainHeap_where, i_PlainHeap_where, k_PlainHeap_where⟩
    F_PlainHeap_where_proxy := F_PlainHeap_where_proxy
    b_PlainHeap_where_proxy := b_PlainHeap_where_proxy
    me_PlainHeap_where_proxy := ⟨a_PlainHeap_where_proxy, i_PlainHeap_where_proxy, k_PlainHeap_where_proxy⟩
    F_PlainHeap_make_cell := F_PlainHeap_make_cell
    b_PlainHeap_make_cell := b_PlainHeap_make_cell
    me_PlainHeap_make_cell := ⟨a_PlainHeap_make_cell, i_PlainHeap_make_cell, k_PlainHeap_make_cell⟩
    F_PlainHeap_make_service := F_PlainHeap_make_service
    b_PlainHeap_make_service := b_PlainHeap_make_service
    me_PlainHeap_make_service := ⟨a_PlainHeap_make_service, i_PlainHeap_make_service, k_PlainHeap_make_service⟩
    F_PlainHeap_make_proxy := F_PlainHeap_make_proxy
    b_PlainHeap_make_proxy := b_PlainHeap_make_proxy
    me_PlainHeap_make_proxy := ⟨a_PlainHeap_make_proxy, i_PlainHeap_make_proxy, k_PlainHeap_make_proxy⟩
    F_PlainHeap_keep := F_PlainHeap_keep
    b_PlainHeap_keep := b_PlainHeap_keep
    me_PlainHeap_keep := ⟨a_PlainHeap_keep, i_PlainHeap_keep, k_PlainHeap_keep⟩
    F_PlainHeap_drop := F_PlainHeap_drop
    b_PlainHeap_drop := b_PlainHeap_drop
    me_PlainHeap_drop := ⟨a_PlainHeap_drop, i_PlainHeap_drop, k_PlainHeap_drop⟩
    F_PlainHeap_change_hold := F_PlainHeap_change_hold
    b_PlainHeap_change_hold := b_PlainHeap_change_hold
    me_PlainHeap_change_hold := ⟨a_PlainHeap_change_hold, i_PlainHeap_change_hold, k_PlainHeap_change_hold⟩
    F_PlainHeap_collect := F_PlainHeap_collect
    b_PlainHeap_collect := b_PlainHeap_collect
    me_PlainHeap_collect := ⟨a_PlainHeap_collect, i_PlainHeap_collect, k_PlainHeap_collect⟩
    F_PlainHeap_set_link := F_PlainHeap_set_link
    b_PlainHeap_set_link := b_PlainHeap_set_link
    me_PlainHeap_set_link := ⟨a_PlainHeap_set_link, i_PlainHeap_set_link, k_PlainHeap_set_link⟩
    F_in_order := F_in_order
    b_in_order := b_in_order
    m_in_order := PySem.W.mg_of X G a_in_order
    F_PlainHeap_everything := F_PlainHeap_everything
    b_PlainHeap_everything := b_PlainHeap_everything
    me_PlainHeap_everything := ⟨a_PlainHeap_everything, i_PlainHeap_everything, k_PlainHeap_everything⟩
    F_law_same_thing := F_law_same_thing
    b_law_same_thing := b_law_same_thing
    m_law_same_thing := PySem.W.mg_of X G a_law_same_thing
    F_law_same_heap := F_law_same_heap
    b_law_same_heap := b_law_same_heap
    m_law_same_heap := PySem.W.mg_of X G a_law_same_heap
    F_law_make := F_law_make
    b_law_make := b_law_make
    m_law_make := PySem.W.mg_of X G a_law_make
    F_law_deed := F_law_deed
    b_law_deed := b_law_deed
    m_law_deed := PySem.W.mg_of X G a_law_deed
    F_law := F_law
    b_law := b_law
    m_law := PySem.W.mg_of X G a_law
    cl_Cell := ⟨pg_Cell, hd_Cell, po_Cell, sa_Cell⟩
    mg_Cell := PySem.W.mg_of X G A_Cell
    mk_Cell := ⟨mk_Cell, a_Cell_init_, i_Cell_init_, kc_Cell⟩
    n_Cell_content := n_Cell_content
    n_Cell_link := n_Cell_link
    n_Cell_maker := n_Cell_maker
    n_Cell_place := n_Cell_place
    n_Cell_references := n_Cell_references
    n_Cell_serial := n_Cell_serial
    cl_PlainHeap := ⟨pg_PlainHeap, hd_PlainHeap, po_PlainHeap, sa_PlainHeap⟩
    mg_PlainHeap := PySem.W.mg_of X G A_PlainHeap
    mk_PlainHeap := ⟨mk_PlainHeap, a_PlainHeap_init_, i_PlainHeap_init_, kc_PlainHeap⟩
    n_PlainHeap_places := n_PlainHeap_places
    n_PlainHeap_proxies := n_PlainHeap_proxies
    n_PlainHeap_serials := n_PlainHeap_serials
    cl_Proxy := ⟨pg_Proxy, hd_Proxy, po_Proxy, sa_Proxy⟩
    mg_Proxy := PySem.W.mg_of X G A_Proxy
    mk_Proxy := ⟨mk_Proxy, a_Proxy_init_, i_Proxy_init_, kc_Proxy⟩
    n_Proxy_entry := n_Proxy_entry
    n_Proxy_link := n_Proxy_link
    n_Proxy_maker := n_Proxy_maker
    n_Proxy_place := n_Proxy_place
    n_Proxy_references := n_Proxy_references
    n_Proxy_serial := n_Proxy_serial
    cl_Service := ⟨pg_Service, hd_Service, po_Service, sa_Service⟩
    mg_Service := PySem.W.mg_of X G A_Service
    mk_Service := ⟨mk_Service, a_Service_init_, i_Service_init_, kc_Service⟩
    n_Service_body := n_Service_body
    n_Service_link := n_Service_link
    n_Service_maker := n_Service_maker
    n_Service_place := n_Service_place
    n_Service_references := n_Service_references
    n_Service_serial := n_Service_serial
    kt_Cell_Cell := kt_Cell_Cell
    kt_Cell_Service := kt_Cell_Service
    kt_Cell_Proxy := kt_Cell_Proxy
    kt_Service_Cell := kt_Service_Cell
    kt_Service_Service := kt_Service_Service
    kt_Service_Proxy := kt_Service_Proxy
    kt_Proxy_Cell := kt_Proxy_Cell
    kt_Proxy_Service := kt_Proxy_Service
    kt_Proxy_Proxy := kt_Proxy_Proxy
    is_Cell := is_Cell
    io_Cell := io_Cell
    is_Service := is_Service
    io_Service := io_Service
    is_Proxy := is_Proxy
    io_Proxy := io_Proxy
    is_get := is_get
    is_tk := is_tk
    z_abs := PySem.W.mg_none_of X G z_abs
    z_bool := PySem.W.mg_none_of X G z_bool
    z_int := PySem.W.mg_none_of X G z_int
    z_isinstance := PySem.W.mg_none_of X G z_isinstance
    z_len := PySem.W.mg_none_of X G z_len
    z_list := PySem.W.mg_none_of X G z_list
    z_range := PySem.W.mg_none_of X G z_range
    z_sorted := PySem.W.mg_none_of X G z_sorted
    z_tuple := PySem.W.mg_none_of X G z_tuple
  }
theorem walk {l : PySem.W.OpenLaw} {q : Program} {loose : List Str} {XP : (Str → Option Value) → Heap → Prop} {YP : World → Heap → Prop} {d : DefRec} {K : Params → PySem.W.Frag} (hn : l.most = some 63) (hdf : d.params.defaults = [])
    (hY : ∀ (w : World) (h : Heap), YP w h → (K w.params).In h)
    (F : ∀ (w : World) (mg : Str → Option Value) (fa : Addr) (h : Heap), (K w.params).In h → h.Ns mainGlobals mg → mg d.name = some (.ref fa) →
      ∃ ad : Ad, Txt (K w.params) mg ad ∧ fa = ad.a_law ∧ ∀ (s : Shared) (v : Value), BindsTo s ad.d_law ⟨[v], []⟩ [("script", v)]) :
    PySem.W.WalkO q loose XP YP l.row.toRowW d [] (fun f vs => PySem.call f vs) := by
  refine L2.walk_of (n := 63) (k := 6) (x := "script") (CX := fun _ => CX0) (sp := fun w => spLaw (K w.params)) hn (by decide) hdf ⟨rfl, by decide, by decide⟩ hY (fun w mg fa h KX G hmg => ?_) (fun _ _ a ns hl _ hS => ⟨a, ns, rfl, hS, hl, fun _ => rfl⟩) fun _ _ _ _ _ z => z
  obtain ⟨ad, T, rfl, hb⟩ := F w mg fa h KX G hmg
  exact ⟨ad.d_law, hb, fun base _ _ => ok_law T⟩
end Toy
open PySem PySem.W PyProof.Rows
set_option maxRecDepth 100000 in
set_option maxHeartbeats 0 in
theorem PySem.Challenge.cw_surebridge_k45_plain_heap_holds : PySem.Challenge.rw_surebridge_k45_plain_heap.Holds := by
  w_on; o_law; k_head; (case hw => w_witness2)
  k_fill
  refine Toy.walk (l := PySem.Challenge.rw_surebridge_k45_plain_heap) rfl rfl (fun w h Y => PySem.W.kIn_of Y) ?F
  case F =>
    intro w mg fa h KX G hmg
    refine' Toy.all_mk KX G hmg ?A_Cell ?A_PlainHeap ?A_Proxy ?A_Service ?a_law_take ?l_law_take ?c_law_take ?k_law_take ?a_law_deck ?l_law_deck ?c_law_deck ?k_law_deck ?a_law_whole ?l_law_whole ?c_law_whole ?k_law_whole ?a_Cell_init_ ?i_Cell_init_ ?l_Cell_init_ ?c_Cell_init_ ?k_Cell_init_ ?a_Service_init_ ?i_Service_init_ ?l_Service_init_ ?c_Service_init_ ?k_Service_init_ ?a_Proxy_init_ ?i_Proxy_init_ ?l_Proxy_init_ ?c_Proxy_init_ ?k_Proxy_init_ ?a_put_in ?l_put_in ?c_put_in ?k_put_in ?a_PlainHeap_init_ ?i_PlainHeap_init_ ?l_PlainHeap_init_ ?c_PlainHeap_init_ ?k_PlainHeap_init_ ?a_PlainHeap_thing ?i_PlainHeap_thing ?l_PlainHeap_thing ?c_PlainHeap_thing ?k_PlainHeap_thing ?a_PlainHeap_where ?i_PlainHeap_where ?l_PlainHeap_where ?c_PlainHeap_where ?k_PlainHeap_where ?a_PlainHeap_where_proxy ?i_PlainHeap_where_proxy ?l_PlainHeap_where_proxy ?c_PlainHeap_where_proxy ?k_PlainHeap_where_proxy ?a_PlainHeap_make_cell ?i_PlainHeap_make_cell ?l_PlainHeap_make_cell ?c_PlainHeap_make_cell ?k_PlainHeap_make_cell ?a_PlainHeap_make_service ?i_PlainHeap_make_service ?l_PlainHeap_make_service ?c_PlainHeap_make_service ?k_PlainHeap_make_service ?a_PlainHeap_make_proxy ?i_PlainHeap_make_proxy ?l_PlainHeap_make_proxy ?c_PlainHeap_make_proxy ?k_PlainHeap_make_proxy ?a_PlainHeap_keep ?i_PlainHeap_keep ?l_PlainHeap_keep ?c_PlainHeap_keep ?k_PlainHeap_keep ?a_PlainHeap_drop ?i_PlainHeap_drop ?l_PlainHeap_drop ?c_PlainHeap_drop ?k_PlainHeap_drop ?a_PlainHeap_change_hold ?i_PlainHeap_change_hold ?l_PlainHeap_change_hold ?c_PlainHeap_change_hold ?k_PlainHeap_change_hold ?a_PlainHeap_collect ?i_PlainHeap_collect ?l_PlainHeap_collect ?c_PlainHeap_collect ?k_PlainHeap_collect ?a_PlainHeap_set_link ?i_PlainHeap_set_link ?l_PlainHeap_set_link ?c_PlainHeap_set_link ?k_PlainHeap_set_link ?a_in_order ?l_in_order ?c_in_order ?k_in_order ?a_PlainHeap_everything ?i_PlainHeap_everything ?l_PlainHeap_everything ?c_PlainHeap_everything ?k_PlainHeap_everything ?a_law_same_thing ?l_law_same_thing ?c_law_same_thing ?k_law_same_thing ?a_law_same_heap ?l_law_same_heap ?c_law_same_heap ?k_law_same_heap ?a_law_make ?l_law_make ?c_law_make ?k_law_make ?a_law_deed ?l_law_deed ?c_law_deed ?k_law_deed ?a_law ?l_law ?c_law ?k_law ?pg_Cell ?hd_Cell ?po_Cell ?sa_Cell ?mk_Cell ?kc_Cell ?n_Cell_content ?n_Cell_link ?n_Cell_maker ?n_Cell_place ?n_Cell_references ?n_Cell_serial ?pg_PlainHeap ?hd_PlainHeap ?po_PlainHeap ?sa_PlainHeap ?mk_PlainHeap ?kc_PlainHeap ?n_PlainHeap_places ?n_PlainHeap_proxies ?n_PlainHeap_serials ?pg_Proxy ?hd_Proxy ?po_Proxy ?sa_Proxy ?mk_Proxy ?kc_Proxy ?n_Proxy_entry ?n_Proxy_link ?n_Proxy_maker ?n_Proxy_place ?n_Proxy_references ?n_Proxy_serial ?pg_Service ?hd_Service ?po_Service ?sa_Service ?mk_Service ?kc_Service ?n_Service_body ?n_Service_link ?n_Service_maker ?n_Service_place ?n_Service_references ?n_Service_serial ?kt_Cell_Cell ?kt_Cell_Service ?kt_Cell_Proxy ?kt_Service_Cell ?kt_Service_Service ?kt_Service_Proxy ?kt_Proxy_Cell ?kt_Proxy_Service ?kt_Proxy_Proxy ?is_Cell ?io_Cell ?is_Service ?io_Service ?is_Proxy ?io_Proxy ?is_get ?is_tk ?z_abs ?z_bool ?z_int ?z_isinstance ?z_len ?z_list ?z_range ?z_sorted ?z_tuple
    (case A_Cell => k_is)
    (case A_PlainHeap => k_is)
    (case A_Proxy => k_is)
    (case A_Service => k_is)
    (case a_law_take => k_is)
    (case l_law_take => k_is)
    (case c_law_take => k_is)
    (case k_law_take => k_is)
    (case a_law_deck => k_is)
    (case l_law_deck => k_is)
    (case c_law_deck => k_is)
    (case k_law_deck => k_is)
    (case a_law_whole => k_is)
    (case l_law_whole => k_is)
    (case c_law_whole => k_is)
    (case k_law_whole => k_is)
    (case a_Cell_init_ => k_is)
    (case i_Cell_init_ => k_is)
    (case l_Cell_init_ => k_is)
    (case c_Cell_init_ => k_is)
    (case k_Cell_init_ => k_is)
    (case a_Service_init_ => k_is)
    (case i_Service_init_ => k_is)
    (case l_Service_init_ => k_is)
    (case c_Service_init_ => k_is)
    (case k_Service_init_ => k_is)
    (case a_Proxy_init_ => k_is)
    (case i_Proxy_init_ => k_is)
    (case l_Proxy_init_ => k_is)
    (case c_Proxy_init_ => k_is)
    (case k_Proxy_init_ => k_is)
    (case a_put_in => k_is)
    (case l_put_in => k_is)
    (case c_put_in => k_is)
    (case k_put_in => k_is)
    (case a_PlainHeap_init_ => k_is)
    (case i_PlainHeap_init_ => k_is)
    (case l_PlainHeap_init_ => k_is)
    (case c_PlainHeap_init_ => k_is)
    (case k_PlainHeap_init_ => k_is)
    (case a_PlainHeap_thing => k_is)
    (case i_PlainHeap_thing => k_is)
    (case l_PlainHeap_thing => k_is)
    (case c_PlainHeap_thing => k_is)
    (case k_PlainHeap_thing => k_is)
    (case a_PlainHeap_where => k_is)
    (case i_PlainHeap_where => k_is)
    (case l_PlainHeap_where => k_is)
    (case c_PlainHeap_where => k_is)
    (case k_PlainHeap_where => k_is)
    (case a_PlainHeap_where_proxy => k_is)
    (case i_PlainHeap_where_proxy => k_is)
    (case l_PlainHeap_where_proxy => k_is)
    (case c_PlainHeap_where_proxy => k_is)
    (case k_PlainHeap_where_proxy => k_is)
    (case a_PlainHeap_make_cell => k_is)
    (case i_PlainHeap_make_cell => k_is)
    (case l_PlainHeap_make_cell => k_is)
    (case c_PlainHeap_make_cell => k_is)
    (case k_PlainHeap_make_cell => k_is)
    (case a_PlainHeap_make_service => k_is)
    (case i_PlainHeap_make_service => k_is)
    (case l_PlainHeap_make_service => k_is)
    (case c_PlainHeap_make_service => k_is)
    (case k_PlainHeap_make_service => k_is)
    (case a_PlainHeap_make_proxy => k_is)
    (case i_PlainHeap_make_proxy => k_is)
    (case l_PlainHeap_make_proxy => k_is)
    (case c_PlainHeap_make_proxy => k_is)
    (case k_PlainHeap_make_proxy => k_is)
    (case a_PlainHeap_keep => k_is)
    (case i_PlainHeap_keep => k_is)
    (case l_PlainHeap_keep => k_is)
    (case c_PlainHeap_keep => k_is)
    (case k_PlainHeap_keep => k_is)
    (case a_PlainHeap_drop => k_is)
    (case i_PlainHeap_drop => k_is)
    (case l_PlainHeap_drop => k_is)
    (case c_PlainHeap_drop => k_is)
    (case k_PlainHeap_drop => k_is)
    (case a_PlainHeap_change_hold => k_is)
    (case i_PlainHeap_change_hold => k_is)
    (case l_PlainHeap_change_hold => k_is)
    (case c_PlainHeap_change_hold => k_is)
    (case k_PlainHeap_change_hold => k_is)
    (case a_PlainHeap_collect => k_is)
    (case i_PlainHeap_collect => k_is)
    (case l_PlainHeap_collect => k_is)
    (case c_PlainHeap_collect => k_is)
    (case k_PlainHeap_collect => k_is)
    (case a_PlainHeap_set_link => k_is)
    (case i_PlainHeap_set_link => k_is)
    (case l_PlainHeap_set_link => k_is)
    (case c_PlainHeap_set_link => k_is)
    (case k_PlainHeap_set_link => k_is)
    (case a_in_order => k_is)
    (case l_in_order => k_is)
    (case c_in_order => k_is)
    (case k_in_order => k_is)
    (case a_PlainHeap_everything => k_is)
    (case i_PlainHeap_everything => k_is)
    (case l_PlainHeap_everything => k_is)
    (case c_PlainHeap_everything => k_is)
    (case k_PlainHeap_everything => k_is)
    (case a_law_same_thing => k_is)
    (case l_law_same_thing => k_is)
    (case c_law_same_thing => k_is)
    (case k_law_same_thing => k_is)
    (case a_law_same_heap => k_is)
    (case l_law_same_heap => k_is)
    (case c_law_same_heap => k_is)
    (case k_law_same_heap => k_is)
    (case a_law_make => k_is)
    (case l_law_make => k_is)
    (case c_law_make => k_is)
    (case k_law_make => k_is)
    (case a_law_deed => k_is)
    (case l_law_deed => k_is)
    (case c_law_deed => k_is)
    (case k_law_deed => k_is)
    (case a_law => k_is)
    (case l_law => k_is)
    (case c_law => k_is)
    (case k_law => k_is)
    (case pg_Cell => k_is)
    (case hd_Cell => k_is)
    (case po_Cell => k_is)
    (case sa_Cell => k_is)
    (case mk_Cell => k_is)
    (case kc_Cell => k_is)
    (case n_Cell_content => k_is)
    (case n_Cell_link => k_is)
    (case n_Cell_maker => k_is)
    (case n_Cell_place => k_is)
    (case n_Cell_references => k_is)
    (case n_Cell_serial => k_is)
    (case pg_PlainHeap => k_is)
    (case hd_PlainHeap => k_is)
    (case po_PlainHeap => k_is)
    (case sa_PlainHeap => k_is)
    (case mk_PlainHeap => k_is)
    (case kc_PlainHeap => k_is)
    (case n_PlainHeap_places => k_is)
    (case n_PlainHeap_proxies => k_is)
    (case n_PlainHeap_serials => k_is)
    (case pg_Proxy => k_is)
    (case hd_Proxy => k_is)
    (case po_Proxy => k_is)
    (case sa_Proxy => k_is)
    (case mk_Proxy => k_is)
    (case kc_Proxy => k_is)
    (case n_Proxy_entry => k_is)
    (case n_Proxy_link => k_is)
    (case n_Proxy_maker => k_is)
    (case n_Proxy_place => k_is)
    (case n_Proxy_references => k_is)
    (case n_Proxy_serial => k_is)
    (case pg_Service => k_is)
    (case hd_Service => k_is)
    (case po_Service => k_is)
    (case sa_Service => k_is)
    (case mk_Service => k_is)
    (case kc_Service => k_is)
    (case n_Service_body => k_is)
    (case n_Service_link => k_is)
    (case n_Service_maker => k_is)
    (case n_Service_place => k_is)
    (case n_Service_references => k_is)
    (case n_Service_serial => k_is)
    (case kt_Cell_Cell => kit_is)
    (case kt_Cell_Service => kit_is)
    (case kt_Cell_Proxy => kit_is)
    (case kt_Service_Cell => kit_is)
    (case kt_Service_Service => kit_is)
    (case kt_Service_Proxy => kit_is)
    (case kt_Proxy_Cell => kit_is)
    (case kt_Proxy_Service => kit_is)
    (case kt_Proxy_Proxy => kit_is)
    (case is_Cell => k_is)
    (case io_Cell => k_is)
    (case is_Service => k_is)
    (case io_Service => k_is)
    (case is_Proxy => k_is)
    (case io_Proxy => k_is)
    (case is_get => k_is)
    (case is_tk => k_is)
    (case z_abs => k_is)
    (case z_bool => k_is)
    (case z_int => k_is)
    (case z_isinstance => k_is)
    (case z_len => k_is)
    (case z_list => k_is)
    (case z_range => k_is)
    (case z_sorted => k_is)
    (case z_tuple => k_is)
#print axioms PySem.Challenge.cw_surebridge_k45_plain_heap_holds

