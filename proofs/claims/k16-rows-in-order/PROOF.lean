import PyProof.Rows.All
import Wide.All
import OpenK.AllK
import Wide.FinOn
import HandS.ForMost
import HandS.Wide
import HandS.Evl
import HandS.IsInst
import HandS.Steps
import HandS.Flow
import HandS.Conv
import HandS.Codes
import HandS.More
import HandS.Replace

import HandS.ForExc
import HandS.ExcInit
import HandS.ExcIs
import HandS.ExcField
import HandS.ClsMeth
import HandS.TryOnly
import KE.KExcIs
import HandS.HotCalls
import HandS.FStr
import PySem.Challenge.RW_surebridge_k16_rows_in_order
set_option Elab.async false
set_option linter.all false
set_option maxRecDepth 100000
set_option maxHeartbeats 4000000
/-! a list of ints whose content is not told: the law's deck -/
namespace Dk
open PySem PySem.Spec PyProof.Rows L2

def Ints (l : Addr) (h : Heap) : Prop := ∃ ns : List Int, ns.length ≤ 100000 ∧ ∃ (its : List Value) (n : Nat), Vals (ns.map V.int) its ∧ h.get? l = some { cls := .type "list", data := .seq its.toArray n }
def DkO (l : Addr) : HO := .ext (Ints l)
theorem sz5 {n : Nat} (h : n ≤ 100000) : n ≤ sizeLine := Nat.le_trans h (by decide)
section
variable {P : Program} {w : World} {H H' : Hp} {h h' : Heap} {l : Addr} {o o' : HO} {fs ex : List Addr}
/-- another word for what stands at x -/
theorem retag (ok : HOk P w H h) (hx : H l = some o) (n1 : ∀ y, o ≠ .own y) (n2 : ∀ xs, o ≠ .tup xs) (new : ObjOk P w (upd H l o') h l o') : HOk P w (upd H l o') h := fun b u e => by
  by_cases hb : b = l
  · subst hb; rw [upd_same] at e; cases e; exact new
  · rw [upd_ne hb] at e
    refine (ok b u e).stay (fun c v _ q => q) (fun c q => ?_) fun c xs q => ?_
    · rw [upd_ne (fun z => by subst z; rw [hx] at q; exact n1 _ (Option.some.inj q))]; exact q
    · rw [upd_ne (fun z => by subst z; rw [hx] at q; exact n2 _ (Option.some.inj q))]; exact q
theorem upd_id (hx : H l = some o) : upd H l o = H := by
  funext b
  by_cases hb : b = l
  · rw [hb, upd_same, hx]
  · rw [upd_ne hb]
theorem dk_open (ok : HOk P w H h) (hx : H l = some (DkO l)) : ∃ ns : List Int, ns.length ≤ 100000 ∧ HOk P w (upd H l (.lst (ns.map V.int))) h := by
  have x : ObjOk P w H h l (.ext (Ints l)) := ok l _ hx
  obtain ⟨⟨ns, hn, its, n, r, e⟩, _, _⟩ := x
  refine ⟨ns, hn, retag ok hx (fun y z => by cases z) (fun y z => by cases z) ?_⟩
  exact ⟨by rw [List.length_map]; exact sz5 hn, its, n, r, e⟩
theorem dk_close {ns : List Int} (ok : HOk P w H h) (hx : H l = some (.lst (ns.map V.int))) (hn : ns.length ≤ 100000) : HOk P w (upd H l (DkO l)) h := by
  have x : ObjOk P w H h l (.lst (ns.map V.int)) := ok l _ hx
  obtain ⟨_, its, n, r, e⟩ := x
  refine retag ok hx (fun y z => by cases z) (fun y z => by cases z) ?_
  exact ⟨⟨ns, hn, its, n, r, e⟩, ⟨_, e⟩, fun h1 h2 z k => by
    obtain ⟨ms, hm, its', n', r', e'⟩ := z
    exact ⟨ms, hm, its', n', r', k _ e'⟩⟩
/-- untouched: another word at l on either side -/
theorem un_left {o1 : HO} (u : Un fs ex (upd H l o1) H' h h') (hx : H l = some o) (n2 : ∀ xs, o ≠ .tup xs) (n3 : ∀ o' v, o ≠ .frz o' v) (n4 : ∀ ps, o ≠ .tbl ps) : Un fs ex H H' h h' where
  keep := fun b q e n hb he => u.keep b q e (by rw [upd_ne (fun z => by subst z; rw [hx] at n; cases n)]; exact n) hb he
  slot := fun b q e n hb he => u.slot b q e (by rw [upd_ne (fun z => by subst z; rw [hx] at n; cases n)]; exact n) hb he
  free := fun b q e n he => u.free b q e (by rw [upd_ne (fun z => by subst z; rw [hx] at n; cases n)]; exact n) he
  there := u.there
  tups := fun b xs q => u.tups b xs (by rw [upd_ne (fun z => by subst z; rw [hx] at q; exact n2 _ (Option.some.inj q))]; exact q)
  frzs := fun b o v q => u.frzs b o v (by rw [upd_ne (fun z => by subst z; rw [hx] at q; exact n3 _ _ (Option.some.inj q))]; exact q)
  tbls := fun b ps q => u.tbls b ps (by rw [upd_ne (fun z => by subst z; rw [hx] at q; exact n4 _ (Option.some.inj q))]; exact q)
theorem un_right {o1 : HO} (u : Un fs ex H H' h h') (hx : H' l = some o) (n2 : ∀ xs, o ≠ .tup xs) (n3 : ∀ o' v, o ≠ .frz o' v) (n4 : ∀ ps, o ≠ .tbl ps) : Un fs ex H (upd H' l o1) h h' where
  keep := u.keep
  slot := u.slot
  free := fun b q e n he => by
    have z := u.free b q e n he
    rw [upd_ne (fun y => by subst y; rw [hx] at z; cases z)]; exact z
  there := u.there
  tups := fun b xs q => by
    have z := u.tups b xs q
    rw [upd_ne (fun y => by subst y; rw [hx] at z; exact n2 _ (Option.some.inj z))]; exact z
  frzs := fun b o v q => by
    have z := u.frzs b o v q
    rw [upd_ne (fun y => by subst y; rw [hx] at z; exact n3 _ _ (Option.some.inj z))]; exact z
  tbls := fun b ps q => by
    obtain ⟨m, z⟩ := u.tbls b ps q
    exact ⟨m, by rw [upd_ne (fun y => by subst y; rw [hx] at z; exact n4 _ (Option.some.inj z))]; exact z⟩
end
/-- take(deck, many), told of the list | of a deck -/
def spTakeC : Sp := fun vs H Q _ => ∃ (l : Addr) (ns : List Int) (m : Int), vs = [.ref l, .int m] ∧ H l = some (.lst (ns.map V.int)) ∧ ns.length ≤ 100000 ∧ 0 < m ∧
  ∀ (k : Int) (ns' : List Int), 0 ≤ k → k < m → ns'.length ≤ 100000 → Q (.int k) (upd H l (.lst (ns'.map V.int)))
def spTake : Sp := fun vs H Q _ => ∃ (l : Addr) (m : Int), vs = [.ref l, .int m] ∧ H l = some (DkO l) ∧ 0 < m ∧ ∀ k : Int, 0 ≤ k → k < m → Q (.int k) H
/-- deck(script, cells, each), told of the list | of a deck -/
def spDeckC (K : PySem.W.Frag) : Sp := fun vs H Q _ => ∃ (a : Addr) (ns : List Int) (c e : Int), vs = [.ref a, .int c, .int e] ∧ SqL K H a (ns.map V.int) ∧ ns.length ≤ 63 ∧ 0 ≤ c ∧ 0 ≤ e ∧ c ≤ 64 ∧ e ≤ 64 ∧
  ∀ (l : Addr) (ms : List Int) (H' : Hp), H l = none → H' = upd H l (.lst (ms.map V.int)) → ms.length ≤ 100000 → Q (.ref l) H'
def spDeck (K : PySem.W.Frag) : Sp := fun vs H Q _ => ∃ (a : Addr) (ns : List Int) (c e : Int), vs = [.ref a, .int c, .int e] ∧ SqL K H a (ns.map V.int) ∧ ns.length ≤ 63 ∧ 0 ≤ c ∧ 0 ≤ e ∧ c ≤ 64 ∧ e ≤ 64 ∧
  ∀ (l : Addr), H l = none → Q (.ref l) (upd H l (DkO l))
section
variable {P : Program} {w : World} {K : PySem.W.Frag} {mg : Str → Option Value} {base : Heap} {k : Nat} {f : Addr} {fd : FuncData} {ps : List Str}
theorem dk_tup {l : Addr} (xs : List V) : DkO l ≠ .tup xs := fun z => by
  have z' : HO.ext _ = HO.tup xs := z
  cases z'
theorem dk_frz {l : Addr} (o : Obj) (v : HO) : DkO l ≠ .frz o v := fun z => by
  have z' : HO.ext _ = HO.frz o v := z
  cases z'
theorem dk_tbl {l : Addr} (xs : Array Value) : DkO l ≠ .tbl xs := fun z => by
  have z' : HO.ext _ = HO.tbl xs := z
  cases z'
theorem ok_take (F : FnOk P w K mg base CX0 k f fd ps spTakeC) : FnOk P w K mg base CX0 k f fd ps spTake where
  len := fun vs H Q E h => by
    obtain ⟨l, m, e, h1, h2, h3⟩ := h
    exact F.len vs (upd H l (.lst (([] : List Int).map V.int))) (fun _ _ => True) E ⟨l, [], m, e, upd_same, by decide, h2, fun _ _ _ _ _ => trivial⟩
  run := fun A outer s H args us vs Q E hr he hb hv h => by
    obtain ⟨l, m, e, h1, h2, h3⟩ := h
    obtain ⟨ns, hn, ok⟩ := dk_open he.hok h1
    have nb : ∀ b, H b = none → b ≠ l := fun b n z => by rw [z, h1] at n; cases n
    have he1 : Env0 P w K mg base A outer s (upd H l (.lst (ns.map V.int))) := ⟨he.frames, he.mod, fun b o q => ⟨(he.bs b o q).1, by rw [upd_ne (nb b (he.bs b o q).2)]; exact (he.bs b o q).2⟩, he.bsz, he.funs, fun b q => by rw [upd_ne (nb b (he.frf b q))]; exact he.frf b q, ok, he.bare⟩
    refine codeAny_mono (F.run A outer s _ args us vs (fun v H1 => ∃ ns' : List Int, ns'.length ≤ 100000 ∧ H1 = upd H l (.lst (ns'.map V.int)) ∧ Q v H) E hr he1 hb hv ⟨l, ns, m, e, upd_same, hn, h2, fun k ns' k0 k1 hl => ⟨ns', hl, by rw [upd_upd], h3 k k0 k1⟩⟩) fun r s' q => ?_
    cases r with
    | error e => exact q
    | ok fl =>
      cases fl with
      | ret u =>
        obtain ⟨v, H1, os, bare, un, hok, rv, ns', hl, e1, q⟩ := q
        subst e1
        have g : upd (upd H l (.lst (ns'.map V.int))) l (DkO l) = H := by rw [upd_upd]; exact upd_id h1
        have hok' := dk_close hok upd_same hl
        have un1 := un_left un h1 dk_tup dk_frz dk_tbl
        have un2 := un_right (o1 := DkO l) un1 upd_same (fun _ z => by cases z) (fun _ _ z => by cases z) (fun _ z => by cases z)
        rw [g] at hok' un2
        exact ⟨v, H, os, bare, un2, hok', rv, q⟩
      | next => exact q
      | brk => exact q
      | cont => exact q
theorem ok_deck (F : FnOk P w K mg base CX0 k f fd ps (spDeckC K)) : FnOk P w K mg base CX0 k f fd ps (spDeck K) where
  len := fun vs H Q E h => by
    obtain ⟨a, ns, c, e, h1, h2, h3, h4, h5, h6, h7, h8⟩ := h
    exact F.len vs H (fun _ _ => True) E ⟨a, ns, c, e, h1, h2, h3, h4, h5, h6, h7, fun _ _ _ _ _ _ => trivial⟩
  run := fun A outer s H args us vs Q E hr he hb hv h => by
    obtain ⟨a, ns, c, e, h1, h2, h3, h4, h5, h6, h7, h8⟩ := h
    refine codeAny_mono (F.run A outer s _ args us vs (fun v H1 => ∃ (l : Addr) (ms : List Int), ms.length ≤ 100000 ∧ H l = none ∧ H1 = upd H l (.lst (ms.map V.int)) ∧ v = .ref l) E hr he hb hv ⟨a, ns, c, e, h1, h2, h3, h4, h5, h6, h7, fun l ms H' n e q => ⟨l, ms, q, n, e, rfl⟩⟩) fun r s' q => ?_
    cases r with
    | error e => exact q
    | ok fl =>
      cases fl with
      | ret u =>
        obtain ⟨v, H1, os, bare, un, hok, rv, l, ms, hl, n, e1, ev⟩ := q
        subst e1
        subst ev
        have hok' := dk_close hok upd_same hl
        have un2 := un_right (o1 := DkO l) un upd_same (fun _ z => by cases z) (fun _ _ z => by cases z) (fun _ z => by cases z)
        rw [upd_upd] at hok' un2
        exact ⟨.ref l, _, os, bare, un2, hok', rv, h8 l n⟩
      | next => exact q
      | brk => exact q
      | cont => exact q
end
end Dk

/-! readings, one rule a construct, for a walk by `first` -/
namespace Rd
open PySem PySem.Spec PyProof.Rows L2 Evl Dk
section
variable {σ σ' : L2.St} {H H' H1 : Hp} {Q : VK} {v x y z : V} {ta tb te tc : TE} {K : PySem.W.Frag} {i j : Int} {D : Ends} {t u : TS} {ct cu : TT} {QB : Bool → Hp → Prop} {QA : List V → Hp → Prop} {al bl : TA} {xs ys : List V} {a l C dx : Addr} {fs : List (Str × V)} {A B : Prop} {r : R2}
theorem var {n : Nat} (h : σ[n]? = some (some v)) (q : Q v H) : tVar n σ H Q := ⟨v, h, q⟩
theorem c (q : Q v H) : tC v σ H Q := q
theorem op (h : ta σ H fun x H1 => tb σ H1 fun y H2 => r x y H2 Q) : tOp r ta tb σ H Q := h
theorem un {r : V → Hp → VK → Prop} (h : ta σ H fun x H1 => r x H1 Q) : tUn r ta σ H Q := h
theorem i0 {g : Int → Int → V} (q : Q (g i j) H) : rI0 g (.int i) (.int j) H Q := ⟨i, j, rfl, rfl, q⟩
theorem i1 {C : Int → Int → Prop} {g : Int → Int → V} (c : C i j) (q : Q (g i j) H) : rI C g (.int i) (.int j) H Q := ⟨i, j, rfl, rfl, c, q⟩
theorem u0 {g : Int → V} (q : Q (g i) H) : rU g (.int i) H Q := ⟨i, rfl, q⟩
theorem dI : decide (V.int i = V.int j) = decide (i = j) := decide_eq_decide.mpr ⟨V.int.inj, congrArg V.int⟩
theorem dS {s t : Str} : decide (V.str s = V.str t) = decide (s = t) := decide_eq_decide.mpr ⟨V.str.inj, congrArg V.str⟩
theorem dB {s t : Bool} : decide (V.bl s = V.bl t) = decide (s = t) := decide_eq_decide.mpr ⟨V.bl.inj, congrArg V.bl⟩
theorem eqI (q : Q (.bl (decide (i = j))) H) : rEq (.int i) (.int j) H Q := ⟨rfl, by rw [dI]; exact q⟩
theorem neI (q : Q (.bl (!decide (i = j))) H) : rNe (.int i) (.int j) H Q := ⟨rfl, by rw [dI]; exact q⟩
theorem eqS {s t : Str} (q : Q (.bl (decide (s = t))) H) : rEq (.str s) (.str t) H Q := ⟨rfl, by rw [dS]; exact q⟩
theorem neS {s t : Str} (q : Q (.bl (!decide (s = t))) H) : rNe (.str s) (.str t) H Q := ⟨rfl, by rw [dS]; exact q⟩
theorem eqX (h : scal x y = true) (q : Q (.bl (decide (x = y))) H) : rEq x y H Q := ⟨h, q⟩
theorem neX (h : scal x y = true) (q : Q (.bl (!decide (x = y))) H) : rNe x y H Q := ⟨h, q⟩
theorem isN (q : Q (.bl (decide (x = .non))) H) : rIsN x .non H Q := ⟨rfl, q⟩
theorem notN (q : Q (.bl (!decide (x = .non))) H) : rNotN x .non H Q := ⟨rfl, q⟩
theorem isN_non (q : Q (.bl true) H) : rIsN .non .non H Q := ⟨rfl, q⟩
theorem notN_non (q : Q (.bl false) H) : rNotN .non .non H Q := ⟨rfl, q⟩
theorem isN_int (q : Q (.bl false) H) : rIsN (.int i) .non H Q := ⟨rfl, q⟩
theorem notN_int (q : Q (.bl true) H) : rNotN (.int i) .non H Q := ⟨rfl, q⟩
theorem isN_ref (q : Q (.bl false) H) : rIsN (.ref a) .non H Q := ⟨rfl, q⟩
theorem notN_ref (q : Q (.bl true) H) : rNotN (.ref a) .non H Q := ⟨rfl, q⟩
theorem isN_str {s : Str} (q : Q (.bl false) H) : rIsN (.str s) .non H Q := ⟨rfl, q⟩
theorem notN_str {s : Str} (q : Q (.bl true) H) : rNotN (.str s) .non H Q := ⟨rfl, q⟩
/-- a value that must be a truth value -/
def xT (x : V) (H : Hp) (Q : Bool → Hp → Prop) : Prop := ∃ k, x = .bl k ∧ Q k H
theorem xt {b : Bool} (q : QB b H) : xT (.bl b) H QB := ⟨b, rfl, q⟩
theorem test (h : te σ H fun x H' => xT x H' QB) : tTest te σ H QB := h
theorem tbv (h : te σ H fun x H' => xT x H' QB) : tB te σ H QB := h
theorem andT (h : ct σ H fun c H1 => if c = true then cu σ H1 QB else QB false H1) : tAnd ct cu σ H QB := h
theorem orT (h : ct σ H fun c H1 => if c = true then QB true H1 else cu σ H1 QB) : tOr ct cu σ H QB := h
theorem notT (h : ct σ H fun c H1 => QB (!c) H1) : tNot ct σ H QB := h
theorem andV (h : ta σ H fun x H1 => xT x H1 fun c H1 => if c = true then te σ H1 Q else Q (.bl false) H1) : tAndV ta te σ H Q := h
theorem orV (h : ta σ H fun x H1 => xT x H1 fun c H1 => if c = true then Q (.bl true) H1 else te σ H1 Q) : tOrV ta te σ H Q := h
theorem notV (h : ta σ H fun x H1 => xT x H1 fun c H1 => Q (.bl (!c)) H1) : tNotV ta σ H Q := h
theorem ifE (h : ct σ H fun c H1 => if c = true then ta σ H1 Q else tb σ H1 Q) : tIf ct ta tb σ H Q := h
theorem chain {r r' : R2} (h : ta σ H fun x H1 => tb σ H1 fun y H2 => r x y H2 fun z H3 => xT z H3 fun k H3 => if k = true then tc σ H3 fun w H4 => r' y w H4 Q else Q (.bl false) H3) : tChain r r' ta tb tc σ H Q := h
theorem ifT {p : Prop} [Decidable p] (hp : p) (h : A) : if decide p = true then A else B := by rw [if_pos (decide_eq_true hp)]; exact h
theorem ifF {p : Prop} [Decidable p] (hp : ¬ p) (h : B) : if decide p = true then A else B := by rw [decide_eq_false hp, if_neg Bool.false_ne_true]; exact h
theorem ifd {p : Prop} [Decidable p] (h1 : p → A) (h2 : ¬ p → B) : if decide p = true then A else B := by
  by_cases hp : p
  · exact ifT hp (h1 hp)
  · exact ifF hp (h2 hp)
theorem ifNT {p : Prop} [Decidable p] (hp : ¬ p) (h : A) : if (!decide p) = true then A else B := by rw [decide_eq_false hp]; exact iteT h
theorem ifNF {p : Prop} [Decidable p] (hp : p) (h : B) : if (!decide p) = true then A else B := by rw [decide_eq_true hp]; exact iteF h
theorem ifNd {p : Prop} [Decidable p] (h1 : ¬ p → A) (h2 : p → B) : if (!decide p) = true then A else B := by
  by_cases hp : p
  · exact ifNF hp (h2 hp)
  · exact ifNT hp (h1 hp)
theorem ifTT (h : A) : if true = true then A else B := iteT h
theorem ifFF (h : B) : if false = true then A else B := iteF h
theorem ifNTT (h : A) : if (!false) = true then A else B := iteT h
theorem ifNFF (h : B) : if (!true) = true then A else B := iteF h
theorem ifNN {b : Bool} (h : if b = true then A else B) : if (!!b) = true then A else B := by rw [Bool.not_not]; exact h
theorem ifb {b : Bool} (h1 : b = true → A) (h2 : b = false → B) : if b = true then A else B := by
  cases b with
  | true => exact iteT (h1 rfl)
  | false => exact iteF (h2 rfl)
theorem ifbT {b : Bool} (hb : b = true) (h : A) : if b = true then A else B := by rw [hb]; exact iteT h
theorem ifbF {b : Bool} (hb : b = false) (h : B) : if b = true then A else B := by rw [hb]; exact iteF h
theorem ifNbT {b : Bool} (hb : b = false) (h : A) : if (!b) = true then A else B := by rw [hb]; exact iteT h
theorem ifNbF {b : Bool} (hb : b = true) (h : B) : if (!b) = true then A else B := by rw [hb]; exact iteF h
-- statements
theorem seq (h : t { D with nx := u D } σ H) : tSeq t u D σ H := h
theorem ifS (h : ct σ H fun b H1 => if b = true then t D σ H1 else u D σ H1) : tIfS ct t u D σ H := h
theorem asg {g : TG} (h : te σ H fun x H1 => g x σ H1 D.nx) : tAsg te g D σ H := h
theorem gnm {n : Nat} {Q : L2.St → Hp → Prop} (h : Q (σ.set n (some v)) H) : gName n v σ H Q := h
theorem ret (h : te σ H D.rt) : tRet te D σ H := h
theorem retN (h : D.rt .non H) : tRetN D σ H := h
theorem drop (h : te σ H fun _ H1 => D.nx σ H1) : tDrop te D σ H := h
theorem nxt (h : D.nx σ H) : tNext D σ H := h
theorem brk (h : D.bk σ H) : tBreak D σ H := h
theorem cnt (h : D.ct σ H) : tCont D σ H := h
theorem aug {n : Nat} {ti : TIp} (hx : σ[n]? = some (some x)) (h : te σ H fun y H1 => ti x y H1 fun z H2 => D.nx (σ.set n (some z)) H2) : tAug n te ti D σ H := ⟨x, hx, h⟩
theorem ipi {f : Int → Int → Int} (q : Q (.int (f i j)) H) : ipI f (.int i) (.int j) H Q := ⟨i, j, rfl, rfl, q⟩
theorem par {n m : Nat} (h : al σ H fun vs H1 => ∃ v w, vs = [v, w] ∧ D.nx ((σ.set n (some v)).set m (some w)) H1) : tPar n m al D σ H := h
theorem par2 {N : V → V → Prop} {w : V} (h : N v w) : ∃ v' w', [v, w] = [v', w'] ∧ N v' w' := ⟨v, w, rfl, h⟩
/-- targets: a tuple to names -/
theorem gtup {n : Nat} {g : TGs} {Q : L2.St → Hp → Prop} (h : SqT K H a xs) (hn : xs.length = n) (q : g xs σ H Q) : gTup K n g (.ref a) σ H Q := ⟨a, xs, rfl, h, hn, q⟩
theorem gcons {g : TG} {gs : TGs} {Q : L2.St → Hp → Prop} (q : g v σ H fun σ' H' => gs xs σ' H' Q) : gCons g gs (v :: xs) σ H Q := ⟨v, xs, rfl, q⟩
theorem gnil {Q : L2.St → Hp → Prop} (q : Q σ H) : gNil [] σ H Q := ⟨rfl, q⟩
theorem gsub {te2 : TE} {ts : TSet} {Q : L2.St → Hp → Prop} (h : te σ H fun o H1 => te2 σ H1 fun i H2 => ts o i v H2 fun H3 => Q σ H3) : gSub te te2 ts v σ H Q := h
theorem setL {R : Hp → Prop} {n : Nat} (h : H l = some (.lst xs)) (hi : ixN xs.length i = some n) (q : R (upd H l (.lst (xs.set n v)))) : rSetL (.ref l) (.int i) v H R := ⟨l, xs, i, n, rfl, rfl, h, hi, q⟩
-- arguments
theorem nil (q : QA [] H) : tNil σ H QA := q
theorem cons (h : ta σ H fun x H1 => al σ H1 fun xs H2 => QA (x :: xs) H2) : tCons ta al σ H QA := h
theorem cb {r : List V → Hp → VK → Prop} (h : al σ H fun vs H1 => r vs H1 Q) : tCB r al σ H Q := h
theorem call {sp : Sp} {dvs : List V} {E : XK} (h : al σ H fun vs H1 => sp (vs ++ dvs) H1 Q E) : tCall sp dvs E al σ H Q := h
-- displays
def xTup (xs : List V) (H : Hp) (Q : VK) : Prop := xs.length ≤ sizeLine ∧ ∀ p, H p = none → Q (.ref p) (upd H p (.tup xs))
def xLst (xs : List V) (H : Hp) (Q : VK) : Prop := xs.length ≤ sizeLine ∧ ∀ p, H p = none → Q (.ref p) (upd H p (.lst xs))
theorem tup (h : al σ H fun xs H1 => xTup xs H1 Q) : tTup al σ H Q := h
theorem lst (h : al σ H fun xs H1 => xLst xs H1 Q) : tLst al σ H Q := h
theorem sz_le {n : Nat} (h : Nat.ble n 100000 = true) : n ≤ sizeLine := Dk.sz5 (Nat.le_of_ble_eq_true h)
theorem xtup (n : Nat.ble xs.length 100000 = true) (q : ∀ p H', H p = none → Ex H H' → H' p = some (.tup xs) → Q (.ref p) H') : xTup xs H Q := ⟨sz_le n, fun p hp => q p _ hp (Ex.new hp) upd_same⟩
theorem xlst (n : Nat.ble xs.length 100000 = true) (q : ∀ p H', H p = none → Ex H H' → H' p = some (.lst xs) → Q (.ref p) H') : xLst xs H Q := ⟨sz_le n, fun p hp => q p _ hp (Ex.new hp) upd_same⟩
theorem xlstU (n : Nat.ble xs.length 100000 = true) (q : ∀ p, H p = none → Q (.ref p) (upd H p (.lst xs))) : xLst xs H Q := ⟨sz_le n, q⟩
-- subscripts
theorem ixL (h : SqL K H l xs) (ha : atI xs i = some v) (q : Q v H) : rIxL K (.ref l) (.int i) H Q := ⟨l, xs, i, v, rfl, rfl, h, ha, q⟩
theorem ixT (h : SqT K H l xs) (ha : atI xs i = some v) (q : Q v H) : rIxT K (.ref l) (.int i) H Q := ⟨l, xs, i, v, rfl, rfl, h, ha, q⟩
-- fields
def rFld (K : PySem.W.Frag) (f : Str) (x : V) (H : Hp) (Q : VK) : Prop := ∃ a C dx fs v, x = .ref a ∧ H a = some (.ins C dx fs) ∧ Cls K C ∧ NoAttr K C f ∧ fs.lookup f = some v ∧ Q v H
theorem fld {f : Str} (h : ta σ H fun x H1 => rFld K f x H1 Q) : tFld K ta f σ H Q := h
theorem rfld {f : Str} (h : H a = some (.ins C dx fs)) (c : Cls K C) (n : NoAttr K C f) (lk : fs.lookup f = some v) (q : Q v H) : rFld K f (.ref a) H Q := ⟨a, C, dx, fs, v, rfl, h, c, n, lk, q⟩
def rSt (K : PySem.W.Frag) (f : Str) (v x : V) (H : Hp) (N : Hp → Prop) : Prop := ∃ a C dx fs, x = .ref a ∧ H a = some (.ins C dx fs) ∧ Cls K C ∧ NoAttr K C f ∧ fs.length < 1000 ∧ N (upd H a (.ins C dx (putF f v fs)))
-- methods
def xMeth (C : Addr) (m : Str) (x : V) (H : Hp) (P : Prop) : Prop := ∃ a dx fs, x = .ref a ∧ H a = some (.ins C dx fs) ∧ fs.lookup m = none ∧ P
theorem meth {m : Str} {sp : Sp} {dvs : List V} {E : XK} (h : ta σ H fun x H1 => xMeth C m x H1 (al σ H1 fun vs H2 => sp (x :: (vs ++ dvs)) H2 Q E)) : tMeth C m sp dvs E ta al σ H Q :=
  h
def xTy (K : PySem.W.Frag) (T : String) (x : V) (H : Hp) (P : Prop) : Prop := tyV K T x H ∧ P
theorem bm {T : String} {r : V → List V → Hp → VK → Prop} (h : te σ H fun x H1 => xTy K T x H1 (al σ H1 fun xs H2 => r x xs H2 Q)) : tBM K T r te al σ H Q := h
theorem bm0 {T : String} {r : V → List V → Hp → VK → Prop} (h : te σ H fun x H1 => xTy K T x H1 (r x [] H1 Q)) : tBM0 K T r te σ H Q := h
theorem xtyL {P : Prop} (h : SqL K H l xs) (p : P) : xTy K "list" (.ref l) H P := ⟨.inl ⟨rfl, _, h⟩, p⟩
theorem append (h : H l = some (.lst xs)) (n : xs.length < 100000) (q : Q .non (upd H l (.lst (xs ++ [v])))) : rAppend (.ref l) [v] H Q := ⟨l, xs, v, rfl, rfl, h, sz_lt n, q⟩
theorem reverse (h : H l = some (.lst xs)) (q : Q .non (upd H l (.lst xs.reverse))) : rReverse (.ref l) [] H Q := ⟨l, xs, rfl, rfl, h, q⟩
theorem pop (h : H l = some (.lst xs)) (hl : xs[xs.length - 1]? = some y) (q : Q y (upd H l (.lst xs.dropLast))) : rPop (.ref l) [] H Q := ⟨l, xs, y, rfl, rfl, h, hl, q⟩
end
end Rd
namespace Rd
open PySem PySem.Spec PyProof.Rows L2
section
variable {X : Cx}
def rLen (K : PySem.W.Frag) : List V → Hp → VK → Prop := fun xs H Q => ∃ p ys, xs = [.ref p] ∧ (SqL K H p ys ∨ SqT K H p ys) ∧ Q (.int ys.length) H
theorem c_len : CallR X (.builtin "len") (rLen X.K) := call_len_seq
def rLenStr : List V → Hp → VK → Prop := fun xs H Q => ∃ z, xs = [.str z] ∧ z.length ≤ sizeLine ∧ Q (.int z.length) H
theorem c_lenS : CallR X (.builtin "len") rLenStr := call_len_str
def rAbs : List V → Hp → VK → Prop := fun xs H Q => ∃ i, xs = [.int i] ∧ Q (.int (if i < 0 then -i else i)) H
theorem c_abs : CallR X (.builtin "abs") rAbs := call_abs
def rInt1 : List V → Hp → VK → Prop := fun xs H Q => (∃ i, xs = [.int i] ∧ Q (.int i) H) ∨ ∃ k, xs = [.bl k] ∧ Q (.int (if k then 1 else 0)) H
theorem c_int : CallR X (.type "int") rInt1 := call_int1
def rListOf (K : PySem.W.Frag) : List V → Hp → VK → Prop := fun xs H Q => ∃ p ys, xs = [.ref p] ∧ (SqL K H p ys ∨ SqT K H p ys) ∧ ∀ l, H l = none → Q (.ref l) (upd H l (.lst ys))
theorem c_list : CallR X (.type "list") (rListOf X.K) := call_list_of
def rMax2 : List V → Hp → VK → Prop := fun xs H Q => ∃ i j, xs = [.int i, .int j] ∧ Q (.int (if j > i then j else i)) H
theorem c_max2 (hc : X.calm = true) : CallR X (.builtin "max") rMax2 := call_max2 hc
def rMin2 : List V → Hp → VK → Prop := fun xs H Q => ∃ i j, xs = [.int i, .int j] ∧ Q (.int (if j < i then j else i)) H
theorem c_min2 (hc : X.calm = true) : CallR X (.builtin "min") rMin2 := call_min2 hc
end
end Rd
namespace Rd
open PySem PySem.Spec PyProof.Rows L2 Evl Dk
section
variable {σ : L2.St} {H : Hp} {Q : VK} {x : V} {K : PySem.W.Frag} {i j : Int} {xs : List V} {l : Addr}
theorem len (h : SqL K H l xs) (q : Q (.int xs.length) H) : Rd.rLen K [.ref l] H Q := ⟨l, xs, rfl, .inl h, q⟩
theorem lenT (h : SqT K H l xs) (q : Q (.int xs.length) H) : Rd.rLen K [.ref l] H Q := ⟨l, xs, rfl, .inr h, q⟩
theorem lenS {s : Str} (h : s.length ≤ 100000) (q : Q (.int s.length) H) : Rd.rLenStr [.str s] H Q := ⟨s, rfl, sz_of h, q⟩
theorem abs (q : Q (.int (if i < 0 then -i else i)) H)   : Rd.rAbs [.int i] H Q := ⟨i, rfl, q⟩
theorem int (q : Q (.int i) H) : Rd.rInt1 [.int i] H Q := .inl ⟨i, rfl, q⟩
theorem intB {k : Bool} (q : Q (.int (if k then 1 else 0)) H) : Rd.rInt1 [.bl k] H Q := .inr ⟨k, rfl, q⟩
theorem listOf (h : SqL K H l xs) (q : ∀ p H', H p = none → Ex H H' → H' p = some (.lst xs) → Q (.ref p) H') : Rd.rListOf K [.ref l] H Q := ⟨l, xs, rfl, .inl h, fun p hp => q p _ hp (Ex.new hp) upd_same⟩
theorem listOfU (h : SqL K H l xs) (q : ∀ p, H p = none → Q (.ref p) (upd H p (.lst xs))) : Rd.rListOf K [.ref l] H Q := ⟨l, xs, rfl, .inl h, q⟩
theorem max2 (q : Q (.int (if j > i then j else i)) H) : Rd.rMax2 [.int i, .int j] H Q := ⟨i, j, rfl, q⟩
theorem min2 (q : Q (.int (if j < i then j else i)) H) : Rd.rMin2 [.int i, .int j] H Q := ⟨i, j, rfl, q⟩
theorem take {m : Int} {E : XK} (h : H l = some (DkO l)) (hm : 0 < m) (q : ∀ k : Int, 0 ≤ k → k < m → Q (.int k) H) : spTake ([.ref l, .int m] ++ []) H Q E := ⟨l, m, rfl, h, hm, q⟩
end
end Rd
/-! ### data of any depth: what it is made of, and that it stays -/
namespace Dt
open PySem PySem.Spec PyProof.Rows L2 Evl
section
variable {K : PySem.W.Frag} {H H' : Hp} {v : V} {xs vs : List V} {d : PyData} {ds : List PyData} {a : Addr}
mutual
theorem mono (e : Ex H H') : ∀ (d : PyData) (v : V), Dp K H v d → Dp K H' v d
  | .none, _, h => by cases h; exact .non
  | .bool b, _, h => by cases h; exact .bl b
  | .int i, _, h => by cases h; exact .int i
  | .str x, _, h => by cases h; exact .str x
  | .list ds, _, h => by
    cases h with
    | lst hs ha => exact .lst (ex_l e hs) (monoAll e ds _ ha)
  | .tuple ds, _, h => by
    cases h with
    | tup hs ha => exact .tup (ex_t e hs) (monoAll e ds _ ha)
  | .dict _, _, h => by cases h
theorem monoAll (e : Ex H H') : ∀ (ds : List PyData) (vs : List V), DpAll K H vs ds → DpAll K H' vs ds
  | [], _, h => by cases h; exact .nil
  | d :: ds, _, h => by
    cases h with
    | cons h1 h2 => exact .cons (mono e d _ h1) (monoAll e ds _ h2)
end
theorem mn (h : Dp K H v d) (e : Ex H H') : Dp K H' v d := mono e d v h
theorem mnA (h : DpAll K H vs ds) (e : Ex H H') : DpAll K H' vs ds := monoAll e ds vs h
theorem inv_l (h : Dp K H v (.list ds)) : ∃ a xs, v = .ref a ∧ SqL K H a xs ∧ DpAll K H xs ds := by
  cases h with
  | lst hs ha => exact ⟨_, _, rfl, hs, ha⟩
theorem inv_t (h : Dp K H v (.tuple ds)) : ∃ a xs, v = .ref a ∧ SqT K H a xs ∧ DpAll K H xs ds := by
  cases h with
  | tup hs ha => exact ⟨_, _, rfl, hs, ha⟩
theorem inv_i {i : Int} (h : Dp K H v (.int i)) : v = .int i := by cases h; rfl
theorem inv_s {s : Str} (h : Dp K H v (.str s)) : v = .str s := by cases h; rfl
theorem inv_b {b : Bool} (h : Dp K H v (.bool b)) : v = .bl b := by cases h; rfl
theorem inv_n (h : Dp K H v .none) : v = .non := by cases h; rfl
theorem lenA : ∀ {vs : List V} {ds : List PyData}, DpAll K H vs ds → vs.length = ds.length
  | _, [], h => by cases h; rfl
  | _, d :: ds, h => by
    cases h with
    | cons _ h2 => simp [lenA h2]
theorem getA : ∀ {vs : List V} {ds : List PyData} {i : Nat} {v : V} {d : PyData}, DpAll K H vs ds → vs[i]? = some v → ds[i]? = some d → Dp K H v d
  | _, [], _, _, _, h, _, e => by simp at e
  | _, d :: ds, 0, _, _, h, e1, e2 => by
    cases h with
    | cons h1 _ =>
      simp at e1 e2
      rw [← e1, ← e2]
      exact h1
  | _, d :: ds, i + 1, _, _, h, e1, e2 => by
    cases h with
    | cons _ h2 => exact getA (i := i) h2 (by simpa using e1) (by simpa using e2)
theorem getA1 {i : Nat} (h : DpAll K H vs ds) (e : vs[i]? = some v) : ∃ d, ds[i]? = some d ∧ Dp K H v d := by
  have hl := lenA h
  have hi : i < vs.length := (List.getElem?_eq_some_iff.mp e).1
  exact ⟨ds[i]'(by omega), List.getElem?_eq_getElem (by omega), getA h e (List.getElem?_eq_getElem (by omega))⟩
theorem getA2 {i : Nat} (h : DpAll K H vs ds) (e : ds[i]? = some d) : ∃ v, vs[i]? = some v ∧ Dp K H v d := by
  have hl := lenA h
  have hi : i < ds.length := (List.getElem?_eq_some_iff.mp e).1
  exact ⟨vs[i]'(by omega), List.getElem?_eq_getElem (by omega), getA h (List.getElem?_eq_getElem (by omega)) e⟩
theorem consA (h : Dp K H v d) (hs : DpAll K H vs ds) : DpAll K H (v :: vs) (d :: ds) := .cons h hs
theorem appA : ∀ {vs ws : List V} {ds es : List PyData}, DpAll K H vs ds → DpAll K H ws es → DpAll K H (vs ++ ws) (ds ++ es)
  | _, _, [], _, h, g => by cases h; exact g
  | _, _, d :: ds, _, h, g => by
    cases h with
    | cons h1 h2 => exact .cons h1 (appA h2 g)
theorem oneA (h : Dp K H v d) : DpAll K H [v] [d] := .cons h .nil
theorem snocA (hs : DpAll K H vs ds) (h : Dp K H v d) : DpAll K H (vs ++ [v]) (ds ++ [d]) := appA hs (oneA h)
theorem takeA : ∀ {vs : List V} {ds : List PyData} (n : Nat), DpAll K H vs ds → DpAll K H (vs.take n) (ds.take n)
  | _, _, 0, _ => .nil
  | _, [], n + 1, h => by cases h; exact .nil
  | _, d :: ds, n + 1, h => by
    cases h with
    | cons h1 h2 => exact .cons h1 (takeA n h2)
theorem intsA : ∀ (ns : List Int), DpAll K H (ns.map V.int) (ns.map PyData.int)
  | [] => .nil
  | n :: ns => .cons (.int n) (intsA ns)
theorem strsA : ∀ (ns : List Str), DpAll K H (ns.map V.str) (ns.map PyData.str)
  | [] => .nil
  | n :: ns => .cons (.str n) (strsA ns)
/-- list and tuple made -/
theorem ofL (h : H a = some (.lst vs)) (hs : DpAll K H vs ds) : Dp K H (.ref a) (.list ds) := .lst (SqL.of h) hs
theorem ofT (h : H a = some (.tup vs)) (hs : DpAll K H vs ds) : Dp K H (.ref a) (.tuple ds) := .tup (SqT.of h) hs
end
end Dt
namespace Rd
open PySem PySem.Spec PyProof.Rows L2 Evl Dk
section
variable {σ σ' : L2.St} {H H' : Hp} {Q : VK} {v x y z : V} {te : TE} {K : PySem.W.Frag} {i j lo n : Int} {D : Ends} {tb : TS} {al : TA} {xs ys : List V} {a l C dx : Addr} {d e : PyData} {g : TG}
theorem eqD (h1 : Dp K H x d) (h2 : Dp K H y e) (s1 : SeqAt.shaped d = true) (s2 : SeqAt.shaped e = true) (q : Q (.bl (PyData.eqv d e)) H) : rEqD K x y H Q := ⟨d, e, h1, h2, s1, s2, q⟩
theorem neD (h1 : Dp K H x d) (h2 : Dp K H y e) (s1 : SeqAt.shaped d = true) (s2 : SeqAt.shaped e = true) (q : Q (.bl (!PyData.eqv d e)) H) : rNeD K x y H Q := ⟨d, e, h1, h2, s1, s2, q⟩
theorem eqvRefl (s : SeqAt.shaped d = true) : PyData.eqv d d = true := SeqAt.eqv_refl d (SeqAt.canLay_of_shaped s)
theorem eqDr (h1 : Dp K H x d) (h2 : Dp K H y d) (s1 : SeqAt.shaped d = true) (q : Q (.bl true) H) : rEqD K x y H Q := ⟨d, d, h1, h2, s1, s1, by rw [eqvRefl s1]; exact q⟩
theorem neDr (h1 : Dp K H x d) (h2 : Dp K H y d) (s1 : SeqAt.shaped d = true) (q : Q (.bl false) H) : rNeD K x y H Q := ⟨d, d, h1, h2, s1, s1, by rw [eqvRefl s1]; exact q⟩
/-! isinstance -/
theorem isiTy {t T : String} {b : Bool} (h : TyOf K H x (.type t)) (k : kitB t T = some b) (q : Q (.bl b) H) : rIsi K [x, .ty T] H Q := ⟨x, .ty T, .type t, .type T, b, rfl, .ty T, .base h, kit_ty k, q⟩
theorem isiInt {T : String} {b : Bool} (k : kitB "int" T = some b) (q : Q (.bl b) H) : rIsi K [.int i, .ty T] H Q := isiTy (.int i) k q
theorem isiBl {T : String} {b c : Bool} (k : kitB "bool" T = some b) (q : Q (.bl b) H) : rIsi K [.bl c, .ty T] H Q := isiTy (.bl c) k q
theorem isiStr {T : String} {b : Bool} {s : Str} (k : kitB "str" T = some b) (q : Q (.bl b) H) : rIsi K [.str s, .ty T] H Q := isiTy (.str s) k q
theorem isiNon {T : String} {b : Bool} (k : kitB "NoneType" T = some b) (q : Q (.bl b) H) : rIsi K [.non, .ty T] H Q := isiTy .non k q
theorem isiLst {T : String} {b : Bool} (h : H a = some (.lst xs)) (k : kitB "list" T = some b) (q : Q (.bl b) H) : rIsi K [.ref a, .ty T] H Q := isiTy (.lst h) k q
theorem isiTup {T : String} {b : Bool} (h : H a = some (.tup xs)) (k : kitB "tuple" T = some b) (q : Q (.bl b) H) : rIsi K [.ref a, .ty T] H Q := isiTy (.tup h) k q
/-! loops -/
def xFR1 (g : TG) (tb : TS) (D : Ends) (σ : L2.St) (vs : List V) (H1 : Hp) : Prop := ∃ j : Int, vs = [.int j] ∧ -(2 ^ 62) ≤ j ∧ j < 2 ^ 62 ∧ ∃ W : Nat → Nat → L2.St → Hp → Prop, (∃ m, W 0 m σ H1) ∧ ∀ i m σ H, W i m σ H →
      ((Itr 0 j.toNat).stop i H ∧ D.nx σ H) ∨ ((Itr 0 j.toNat).go i H ∧ ∃ N : L2.St → Hp → Prop, (∀ σ' H', N σ' H' → ∃ m', m' < m ∧ W (i + 1) m' σ' H') ∧ ∀ x H', (Itr 0 j.toNat).yld i H x H' → g x σ H' fun σ2 H2 => tb { D with nx := N, ct := N, bk := D.nx } σ2 H2)
theorem forR1 (h : al σ H fun vs H1 => xFR1 g tb D σ vs H1) : tFor (iRng1 al) g tb D σ H := h
theorem xfr1 {k : Nat} (hb : -(2 ^ 62) ≤ n ∧ n < 2 ^ 62) (Pv : Nat → L2.St → Hp → Prop) (h0 : Pv 0 σ H)
    (hs : ∀ (i : Nat) σ' H', (i : Int) < n → Pv i σ' H' → tb { D with nx := Pv (i + 1), ct := Pv (i + 1), bk := D.nx } (σ'.set k (some (.int (i : Int)))) H') (hd : ∀ σ' H', Pv n.toNat σ' H' → D.nx σ' H') : xFR1 (gName k) tb D σ [.int n] H :=
  ⟨n, rfl, hb.1, hb.2, for_range (lo := 0) (n := n.toNat) Pv h0 (fun i σ' H' hi p => by
    have e0 : (0 : Int) + (i : Int) = (i : Int) := Int.zero_add _
    show tb { D with nx := Pv (i + 1), ct := Pv (i + 1), bk := D.nx } (σ'.set k (some (.int ((0 : Int) + (i : Int))))) H'
    rw [e0]
    exact hs i σ' H' (by omega) p) hd⟩
def xFR2 (g : TG) (tb : TS) (D : Ends) (σ : L2.St) (vs : List V) (H1 : Hp) : Prop := ∃ i0 j : Int, vs = [.int i0, .int j] ∧ (-(2 ^ 62) ≤ i0 ∧ i0 < 2 ^ 62 ∧ -(2 ^ 62) ≤ j ∧ j < 2 ^ 62) ∧ ∃ W : Nat → Nat → L2.St → Hp → Prop, (∃ m, W 0 m σ H1) ∧ ∀ i m σ H, W i m σ H →
      ((Itr i0 (j - i0).toNat).stop i H ∧ D.nx σ H) ∨ ((Itr i0 (j - i0).toNat).go i H ∧ ∃ N : L2.St → Hp → Prop, (∀ σ' H', N σ' H' → ∃ m', m' < m ∧ W (i + 1) m' σ' H') ∧ ∀ x H', (Itr i0 (j - i0).toNat).yld i H x H' → g x σ H' fun σ2 H2 => tb { D with nx := N, ct := N, bk := D.nx } σ2 H2)
theorem forR2 (h : al σ H fun vs H1 => xFR2 g tb D σ vs H1) : tFor (iRng2 al) g tb D σ H := h
theorem xfr2 {k : Nat} (hb : -(2 ^ 62) ≤ lo ∧ lo < 2 ^ 62 ∧ -(2 ^ 62) ≤ n ∧ n < 2 ^ 62) (Pv : Nat → L2.St → Hp → Prop) (h0 : Pv 0 σ H)
    (hs : ∀ (i : Nat) σ' H', lo + (i : Int) < n → Pv i σ' H' → tb { D with nx := Pv (i + 1), ct := Pv (i + 1), bk := D.nx } (σ'.set k (some (.int (lo + (i : Int))))) H') (hd : ∀ σ' H', Pv (n - lo).toNat σ' H' → D.nx σ' H') : xFR2 (gName k) tb D σ [.int lo, .int n] H :=
  ⟨lo, n, rfl, hb, for_range (lo := lo) (n := (n - lo).toNat) Pv h0 (fun i σ' H' hi p => hs i σ' H' (by omega) p) hd⟩
def xFL (K : PySem.W.Frag) (g : TG) (tb : TS) (D : Ends) (σ : L2.St) (x : V) (H1 : Hp) : Prop := ∃ a, x = .ref a ∧ (∃ xs, SqL K H1 a xs) ∧ ∃ W : Nat → Nat → L2.St → Hp → Prop, (∃ m, W 0 m σ H1) ∧ ∀ i m σ H, W i m σ H →
      ((Itl K a).stop i H ∧ D.nx σ H) ∨ ((Itl K a).go i H ∧ ∃ N : L2.St → Hp → Prop, (∀ σ' H', N σ' H' → ∃ m', m' < m ∧ W (i + 1) m' σ' H') ∧ ∀ x H', (Itl K a).yld i H x H' → g x σ H' fun σ2 H2 => tb { D with nx := N, ct := N, bk := D.nx } σ2 H2)
theorem forL (h : te σ H fun x H1 => xFL K g tb D σ x H1) : tFor (iList K te) g tb D σ H := h
theorem xfl (hx : SqL K H a xs) (Pv : Nat → L2.St → Hp → Prop) (h0 : Pv 0 σ H) (hl : ∀ i σ' H', i ≤ xs.length → Pv i σ' H' → SqL K H' a xs)
    (hs : ∀ i x σ' H', xs[i]? = some x → Pv i σ' H' → g x σ' H' fun σ2 H2 => tb { D with nx := Pv (i + 1), ct := Pv (i + 1), bk := D.nx } σ2 H2) (hd : ∀ σ' H', Pv xs.length σ' H' → D.nx σ' H') : xFL K g tb D σ (.ref a) H :=
  ⟨a, rfl, ⟨xs, hx⟩, for_list Pv h0 hl hs hd⟩
def xFT (K : PySem.W.Frag) (g : TG) (tb : TS) (D : Ends) (σ : L2.St) (x : V) (H1 : Hp) : Prop := ∃ a, x = .ref a ∧ (∃ xs, SqT K H1 a xs) ∧ ∃ W : Nat → Nat → L2.St → Hp → Prop, (∃ m, W 0 m σ H1) ∧ ∀ i m σ H, W i m σ H →
      ((Itt K a).stop i H ∧ D.nx σ H) ∨ ((Itt K a).go i H ∧ ∃ N : L2.St → Hp → Prop, (∀ σ' H', N σ' H' → ∃ m', m' < m ∧ W (i + 1) m' σ' H') ∧ ∀ x H', (Itt K a).yld i H x H' → g x σ H' fun σ2 H2 => tb { D with nx := N, ct := N, bk := D.nx } σ2 H2)
theorem forT (h : te σ H fun x H1 => xFT K g tb D σ x H1) : tFor (iTup K te) g tb D σ H := h
theorem xft (hx : SqT K H a xs) (Pv : Nat → L2.St → Hp → Prop) (h0 : Pv 0 σ H) (hl : ∀ i σ' H', i ≤ xs.length → Pv i σ' H' → SqT K H' a xs)
    (hs : ∀ i x σ' H', xs[i]? = some x → Pv i σ' H' → g x σ' H' fun σ2 H2 => tb { D with nx := Pv (i + 1), ct := Pv (i + 1), bk := D.nx } σ2 H2) (hd : ∀ σ' H', Pv xs.length σ' H' → D.nx σ' H') : xFT K g tb D σ (.ref a) H :=
  ⟨a, rfl, ⟨xs, hx⟩, for_tup Pv h0 hl hs hd⟩
/-- powers of written numbers -/
theorem pw {m : Int} (c : CPow i j) (h : i ^ j.toNat = m) (q : Q (.int m) H) : rI CPow (fun i j => .int (i ^ j.toNat)) (.int i) (.int j) H Q := i1 c (by rw [h]; exact q)
theorem atI_i {α : Type} {xs : List α} {i : Int} {v : α} (h0 : 0 ≤ i) (h : xs[i.toNat]? = some v) : atI xs i = some v := by
  have e : ((i.toNat : Nat) : Int) = i := Int.toNat_of_nonneg h0
  rw [← e]
  exact atI_nat h
end
end Rd
namespace Rd
open PySem PySem.Spec PyProof.Rows L2 Evl Dk
section
variable {σ : L2.St} {H : Hp} {v x : V} {K : PySem.W.Frag} {D : Ends} {ta te : TE} {a C dx : Addr} {fs : List (Str × V)} {f : Str}
def xSt (K : PySem.W.Frag) (f : Str) (y x : V) (H2 : Hp) (N : Hp → Prop) : Prop := ∃ a C dx fs, x = .ref a ∧ H2 a = some (.ins C dx fs) ∧ Cls K C ∧ NoAttr K C f ∧ fs.length < 1000 ∧ N (upd H2 a (.ins C dx (putF f y fs)))
theorem sfld (h : te σ H fun y H1 => ta σ H1 fun x H2 => xSt K f y x H2 fun H3 => D.nx σ H3) : sFld K ta te f D σ H := h
theorem xst {N : Hp → Prop} (h : H a = some (.ins C dx fs)) (c : Cls K C) (n : NoAttr K C f) (l : Nat.blt fs.length 1000 = true) (q : N (upd H a (.ins C dx (putF f v fs)))) : xSt K f v (.ref a) H N := ⟨a, C, dx, fs, rfl, h, c, n, Nat.le_of_ble_eq_true l, q⟩
def xMk (C : Addr) (sp : V → Hp → VK → Prop) (H : Hp) (Q : VK) : Prop := ∀ x dx, H x = none → H dx = none → dx ≠ x → sp (.ref x) (upd (upd H dx (.own x)) x (.ins C dx [])) (fun v H2 => v = .non ∧ Q (.ref x) H2)
theorem make {C : Addr} {sp : Sp} {dvs : List V} {E : XK} {al : TA} {Q : VK} (h : al σ H fun vs H1 => xMk C (fun x H2 Q2 => sp (x :: (vs ++ dvs)) H2 Q2 E) H1 Q) : tMake C sp dvs E al σ H Q := h
/-- a new instance, told by one fact -/
theorem xmk {C : Addr} {sp : V → Hp → VK → Prop} {H : Hp} {Q : VK} (h : ∀ x dx H', Ex H H' → H x = none → H' x = some (.ins C dx []) → sp (.ref x) H' (fun v H2 => v = .non ∧ Q (.ref x) H2)) : xMk C sp H Q := fun x dx nx nd ne =>
  h x dx _ (fun b o e => by rw [upd_ne (ne_of_none e nx), upd_ne (ne_of_none e nd)]; exact e) nx upd_same
theorem xmeth {m : Str} {P : Prop} (h : H a = some (.ins C dx fs)) (l : fs.lookup m = none) (p : P) : xMeth C m (.ref a) H P := ⟨a, dx, fs, rfl, h, l, p⟩
end
end Rd
namespace Dt
open PySem PySem.Spec PyProof.Rows L2 Evl
/-- no list within -/
def noL : PyData → Bool
  | .list _ => false
  | .tuple ds => ds.attach.all fun ⟨d, _⟩ => noL d
  | _ => true
section
variable {K : PySem.W.Frag} {H : Hp} {l : Addr} {ws : List V} {o : HO}
theorem sqt_upd {a : Addr} {xs : List V} (h : H l = some (.lst ws)) (s : SqT K H a xs) : SqT K (upd H l o) a xs := by
  rcases s with (s | ⟨ob, s⟩) | s
  · refine .inl (.inl ?_)
    rw [upd_ne (fun z => by subst z; rw [h] at s; cases s)]; exact s
  · refine .inl (.inr ⟨ob, ?_⟩)
    rw [upd_ne (fun z => by subst z; rw [h] at s; cases s)]; exact s
  · exact .inr s
mutual
theorem updL (h : H l = some (.lst ws)) : ∀ (d : PyData) (v : V), noL d = true → Dp K H v d → Dp K (upd H l o) v d
  | .none, _, _, h1 => by cases h1; exact .non
  | .bool b, _, _, h1 => by cases h1; exact .bl b
  | .int i, _, _, h1 => by cases h1; exact .int i
  | .str x, _, _, h1 => by cases h1; exact .str x
  | .list _, _, n, _ => by simp [noL] at n
  | .tuple ds, _, n, h1 => by
    cases h1 with
    | tup hs ha => exact .tup (sqt_upd h hs) (updLA h ds _ (by simpa [noL] using n) ha)
  | .dict _, _, _, h1 => by cases h1
theorem updLA (h : H l = some (.lst ws)) : ∀ (ds : List PyData) (vs : List V), (∀ d ∈ ds, noL d = true) → DpAll K H vs ds → DpAll K (upd H l o) vs ds
  | [], _, _, h1 => by cases h1; exact .nil
  | d :: ds, _, n, h1 => by
    cases h1 with
    | cons h2 h3 => exact .cons (updL h d _ (n d List.mem_cons_self) h2) (updLA h ds _ (fun d hd => n d (List.mem_cons_of_mem _ hd)) h3)
end
end
end Dt
namespace Rd
open PySem PySem.Spec PyProof.Rows L2 Evl Dk
/-- only x has changed, which was not there -/
theorem exBut {H H2 H' : Hp} {x : Addr} (e : Ex H H2) (n : H x = none) (s : ∀ b o, b ≠ x → H2 b = some o → H' b = some o) : Ex H H' := fun b o h => s b o (ne_of_none h n) (e b o h)
end Rd
namespace Rd
open PySem PySem.Spec PyProof.Rows L2 Evl Dk
section
variable {σ : L2.St} {H : Hp} {Q : VK} {te : TE} {xs : List V} {v : V} {b : Bool} {t : TT} {QB : Bool → Hp → Prop} {K : PySem.W.Frag} {l : Addr} {a C dx : Addr} {fs : List (Str × V)}
theorem evL (h : EvL te σ H xs) (q : ∀ p H', H p = none → Ex H H' → H' p = some (.lst xs) → Q (.ref p) H') : te σ H Q := h H (Ex.refl H) Q q
theorem evV (h : Ev te σ H v) (q : ∀ H', Ex H H' → Q v H') : te σ H Q := h H (Ex.refl H) Q q
theorem evYes : EvT tYes σ H true := fun H1 _ _ q => q H1 (Ex.refl H1)
theorem given_all (n : Nat) (v : Nat → V) : given n (fun _ => true) v = (List.range n).map v := by
  unfold given
  rw [List.filter_eq_self.mpr (fun _ _ => rfl)]
theorem isiOwn {b : Bool} {D : Addr} (h : H a = some (.ins C dx fs)) (cl : Cls K C) (ha : PySem.W.findIn K (.ref C) "__class__" = some (some (.builtin "object.__class__"))) (hn : PySem.W.specialIn K (.builtin "object.__class__") "__get__" = some (some (.builtin "getset_descriptor.__get__")))
    (htk : PySem.W.takesIn K (.builtin "object.__class__") = some true) (hm : PySem.W.mroIn K C (.type "object") = some true) (k : PySem.W.kitOne K (.ref C) (.ref D) = some b) (q : Q (.bl b) H) : rIsi K [.ref a, .ref D] H Q :=
  ⟨.ref a, .ref D, .ref C, .ref D, b, rfl, .own D, .base (.ins h cl ha hn htk hm), k, q⟩
theorem cat {zs : List V} {c : Addr} (h1 : H l = some (.lst xs)) (h2 : H c = some (.lst zs)) (n : xs.length + zs.length ≤ 100000) (q : ∀ p H', H p = none → Ex H H' → H' p = some (.lst (xs ++ zs)) → Q (.ref p) H') : rCat (.ref l) (.ref c) H Q :=
  ⟨l, c, xs, zs, rfl, rfl, h1, h2, sz_of n, fun p hp => q p _ hp (Ex.new hp) upd_same⟩
theorem lstRg {a b : Int} (h : -100000 ≤ a ∧ a ≤ 100000 ∧ -100000 ≤ b ∧ b ≤ 100000) (q : ∀ p H', H p = none → Ex H H' → H' p = some (.lst (rgV a b)) → Q (.ref p) H') : RgOk a b ∧ ∀ q, H q = none → Q (.ref q) (upd H q (.lst (rgV a b))) :=
  ⟨⟨by omega, by omega, by omega, by omega, by omega⟩, fun p hp => q p _ hp (Ex.new hp) upd_same⟩
theorem pw20 {m : Int} (e : (10 : Int) ^ (20 : Int).toNat = m) (q : Q (.int m) H) : rI CPow (fun i j => .int (i ^ j.toNat)) (.int 10) (.int 20) H Q := pw ⟨by decide, by decide, by decide⟩ e q
end
end Rd
namespace Rd
open PySem PySem.Spec PyProof.Rows L2 Evl Dk
def rCatS : R2 := fun x y H Q => ∃ i j, x = .str i ∧ y = .str j ∧ i.length + j.length ≤ sizeLine ∧ Q (.str (i ++ j)) H
theorem op_addS {X : Cx} : OpR X (binaryOp .Add) rCatS := op_add_str
theorem catS {H : Hp} {Q : VK} {i j : Str} (h : i.length + j.length ≤ 100000) (q : Q (.str (i ++ j)) H) : rCatS (.str i) (.str j) H Q := ⟨i, j, rfl, rfl, sz_of h, q⟩
end Rd
namespace Rd
open PySem PySem.Spec PyProof.Rows L2 Evl Dk
section
variable {σ : L2.St} {H : Hp} {Q : VK} {te tf : TE} {x y : V} {n m : Int}
def xR1 (x : V) (H1 : Hp) (Q : VK) : Prop := ∃ n, x = .int n ∧ (RgOk 0 n ∧ ∀ q, H1 q = none → Q (.ref q) (upd H1 q (.lst (rgV 0 n))))
theorem listRg1 (h : te σ H fun x H1 => xR1 x H1 Q) : tLstRg (tRg1 te) σ H Q := h
theorem xr1 (h : -100000 ≤ n ∧ n ≤ 100000) (q : ∀ p H', H p = none → Ex H H' → H' p = some (.lst (rgV 0 n)) → Q (.ref p) H') : xR1 (.int n) H Q := ⟨n, rfl, lstRg ⟨by omega, by omega, h.1, h.2⟩ q⟩
end
end Rd
namespace Rd
open PySem PySem.Spec PyProof.Rows L2 Evl Dk
section
variable {σ : L2.St} {H : Hp} {Q : VK} {te tf : TE} {x y : V} {n m : Int} {l : Addr} {xs : List V}
def xR2 (x y : V) (H1 : Hp) (Q : VK) : Prop := ∃ i j, x = .int i ∧ y = .int j ∧ (RgOk i j ∧ ∀ q, H1 q = none → Q (.ref q) (upd H1 q (.lst (rgV i j))))
theorem listRg2 (h : te σ H fun x H1 => tf σ H1 fun y H2 => xR2 x y H2 Q) : tLstRg (tRg2 te tf) σ H Q := h
theorem xr2 (h : -100000 ≤ n ∧ n ≤ 100000 ∧ -100000 ≤ m ∧ m ≤ 100000) (q : ∀ p H', H p = none → Ex H H' → H' p = some (.lst (rgV n m)) → Q (.ref p) H') : xR2 (.int n) (.int m) H Q := ⟨n, m, rfl, rfl, lstRg h q⟩
theorem eqB {a b : Bool} (q : Q (.bl (decide (a = b))) H) : rEq (.bl a) (.bl b) H Q := ⟨rfl, by rw [dB]; exact q⟩
theorem neB {a b : Bool} (q : Q (.bl (!decide (a = b))) H) : rNe (.bl a) (.bl b) H Q := ⟨rfl, by rw [dB]; exact q⟩
def rInsert : V → List V → Hp → VK → Prop := fun x vs H Q => ∃ (l : Addr) (xs : List V) (i : Int) (y : V), x = .ref l ∧ vs = [.int i, y] ∧ H l = some (.lst xs) ∧ xs.length < sizeLine ∧ 0 ≤ i ∧ i < 2 ^ 63 ∧ Q .non (upd H l (.lst (xs.take i.toNat ++ [y] ++ xs.drop i.toNat)))
theorem mt_ins {X : Cx} : MtR X "list.insert" rInsert := mt_insert
theorem insert {i : Int} {y : V} (h : H l = some (.lst xs)) (hz : xs.length < 100000) (h0 : 0 ≤ i ∧ i ≤ 100000) (q : Q .non (upd H l (.lst (xs.take i.toNat ++ [y] ++ xs.drop i.toNat)))) : rInsert (.ref l) [.int i, y] H Q :=
  ⟨l, xs, i, y, rfl, rfl, h, sz_lt hz, h0.1, by omega, q⟩
theorem rgV_get {a b : Int} {i : Nat} {y : V} (h : (rgV a b)[i]? = some y) : y = .int (a + i) ∧ (i : Int) < b - a := by
  unfold rgV at h
  rw [List.getElem?_map] at h
  by_cases hi : i < (b - a).toNat
  · rw [List.getElem?_range hi] at h
    exact ⟨(Option.some.inj h).symm, by omega⟩
  · rw [List.getElem?_eq_none (by rw [List.length_range]; omega)] at h; cases h
end
end Rd
namespace Rd
open PySem PySem.Spec PyProof.Rows L2 Evl Dk
section
variable {σ : L2.St} {H : Hp} {Q : VK} {te tl : TE} {al : TA} {x y : V} {n m : Int} {l : Addr} {xs : List V} {g : TG} {tt : TT} {vs : List Nat} {K : PySem.W.Frag} {j : Nat}
def xLcR (g : TG) (tt : TT) (te : TE) (vs : List Nat) (σ : L2.St) (ws : List V) (H : Hp) (Q : VK) : Prop := tLc (iRng1 (fun _ H Q => Q ws H)) g tt te vs σ H Q
theorem lcR1 (h : al σ H fun ws H1 => xLcR g tt te vs σ ws H1 Q) : tLc (iRng1 al) g tt te vs σ H Q := h
theorem xlcR (f : Nat → Bool) (v : Nat → V) (hn : 0 ≤ n ∧ n ≤ 40000) (hw : ∀ x, wipe ((wipe σ vs).set j (some x)) vs = wipe σ vs)
    (ht : ∀ (i : Nat) H1, Ex H H1 → (i : Int) < n → EvT tt ((wipe σ vs).set j (some (.int (i : Int)))) H1 (f i)) (he : ∀ (i : Nat) H1, Ex H H1 → (i : Int) < n → f i = true → Ev te ((wipe σ vs).set j (some (.int (i : Int)))) H1 (v i))
    (q : ∀ p H', H p = none → Ex H H' → H' p = some (.lst (given n.toNat f v)) → Q (.ref p) H') : xLcR (gName j) tt te vs σ [.int n] H Q :=
  evL (el_lcR1 f v (fun H1 _ Q q => q H1 (Ex.refl H1)) hn hw ht he) q
def xLcL (K : PySem.W.Frag) (g : TG) (tt : TT) (te : TE) (vs : List Nat) (σ : L2.St) (x : V) (H : Hp) (Q : VK) : Prop := tLc (iList K (fun _ H Q => Q x H)) g tt te vs σ H Q
theorem lcL (h : tl σ H fun x H1 => xLcL K g tt te vs σ x H1 Q) : tLc (iList K tl) g tt te vs σ H Q := h
theorem xlcL (f : Nat → Bool) (v : Nat → V) (hx : SqL K H l xs) (hz : xs.length ≤ 40000) (hw : ∀ x, wipe ((wipe σ vs).set j (some x)) vs = wipe σ vs)
    (ht : ∀ (i : Nat) (x : V) H1, Ex H H1 → xs[i]? = some x → EvT tt ((wipe σ vs).set j (some x)) H1 (f i)) (he : ∀ (i : Nat) (x : V) H1, Ex H H1 → xs[i]? = some x → f i = true → Ev te ((wipe σ vs).set j (some x)) H1 (v i))
    (q : ∀ p H', H p = none → Ex H H' → H' p = some (.lst (given xs.length f v)) → Q (.ref p) H') : xLcL K (gName j) tt te vs σ (.ref l) H Q :=
  evL (el_lcL (a := l) f v (fun H1 _ Q q => q H1 (Ex.refl H1)) hx hz hw ht he) q
end
end Rd
namespace Rd
open PySem PySem.Spec PyProof.Rows L2 Evl Dk
section
variable {σ : L2.St} {H G H' H2 : Hp} {Q : VK} {te tl : TE} {al : TA} {x y : V} {n m : Int} {l p : Addr} {xs : List V} {tt : TT} {vs : List Nat} {K : PySem.W.Frag} {j : Nat} {o : HO}
/-- a tuple of the written part -/
theorem sqtK {k : Addr} {dd : Option Addr} {its : Array Value} {nn : Nat} {sl : Array (Option Value)} (h : K.lookup k = some ⟨.type "tuple", dd, .seq its nn, sl⟩) (v : Vals xs its.toList) (hz : xs.length ≤ 1000) : SqT K H k xs :=
  .inr ⟨_, its, nn, h, rfl, rfl, Nat.le_trans (Nat.le_of_eq (by simpa using v.length.symm)) (Nat.le_trans hz (by decide : 1000 ≤ sizeLine)), v⟩
/-- a part of the heap grows by a new object -/
theorem grow1 (e : Ex G H') (n : H' p = none) : Ex G (upd G p o) := Ex.new (fresh_back e n)
theorem grow2 (e : Ex G H') (e2 : Ex H' H2) (h : H2 p = some o) : Ex (upd G p o) H2 := fun a u ha => by
  by_cases hap : a = p
  · subst hap; rw [upd_same] at ha; rw [h]; exact ha
  · rw [upd_ne hap] at ha; exact e2 _ _ (e _ _ ha)
theorem grow3 {D : Addr} {u : HO} (g : G D = none) (n : H' p = none) (h : H' D = some u) : (upd G p o) D = none := by
  rw [upd_ne (ne_of_none h n)]; exact g
/-- a comprehension over a list; its items are data, made of what stood ahead of it and of what each turn makes -/
def Lw (K : PySem.W.Frag) (H : Hp) (R : Nat → PyData → Prop) (D : Addr) (i : Nat) (H' : Hp) : Prop := H D = none ∧ ∃ (G : Hp) (ys : List V) (ds : List PyData), Ex H G ∧ Ex G H' ∧ G D = none ∧ H' D = some (.lst ys) ∧ DpAll K G ys ds ∧ ds.length = i ∧ ∀ k d, ds[k]? = some d → R k d
theorem lw_turn {R : Nat → PyData → Prop} {D : Addr} {i : Nat} {σ2 : L2.St} (hi : i < 50000) (pw : Lw K H R D i H')
    (he : ∀ (G : Hp) (acc : List V), Ex H G → Ex G H' → G D = none → H' D = some (.lst acc) → ∀ Q' : VK, (∀ y H2 G2 d, Ex G G2 → Ex G2 H2 → G2 D = none → Ex H' H2 → Dp K G2 y d → R i d → Q' y H2) → te σ2 H' Q') :
    te σ2 H' fun y H4 => ∃ acc, H4 D = some (.lst acc) ∧ acc.length < sizeLine ∧ Lw K H R D (i + 1) (upd H4 D (.lst (acc ++ [y]))) := by
  obtain ⟨hD, G, ys, ds, e1, e2, g, hys, hd, hl, hR⟩ := pw
  refine he G ys e1 e2 g hys _ fun y H2 G2 d a1 a2 a3 a4 a5 a6 => ⟨ys, a4 _ _ hys, sz_lt (by rw [Dt.lenA hd]; omega), hD, G2, ys ++ [y], ds ++ [d], e1.trans a1, Ex.mut a2 a3, a3, upd_same, Dt.snocA (Dt.mnA hd a1) a5, by rw [List.length_append, hl]; rfl, fun k d' hk => ?_⟩
  by_cases hki : k < ds.length
  · rw [List.getElem?_append_left hki] at hk; exact hR k d' hk
  · rw [List.getElem?_append_right (by omega)] at hk
    have hk0 : k - ds.length = 0 := by
      cases e : k - ds.length with
      | zero => rfl
      | succ m => rw [e] at hk; cases hk
    rw [hk0] at hk
    have hd' : d = d' := Option.some.inj hk
    rw [← hd', show k = i from by omega]
    exact a6
theorem xlcG (R : Nat → PyData → Prop) (hx : SqL K H l xs) (hz : xs.length ≤ 40000) (hw : ∀ x, wipe ((wipe σ vs).set j (some x)) vs = wipe σ vs)
    (he : ∀ (i : Nat) (x : V) (D : Addr) (G H' : Hp) (acc : List V), xs[i]? = some x → H D = none → Ex H G → Ex G H' → G D = none → H' D = some (.lst acc) →
      ∀ Q' : VK, (∀ y H2 G2 d, Ex G G2 → Ex G2 H2 → G2 D = none → Ex H' H2 → Dp K G2 y d → R i d → Q' y H2) → te ((wipe σ vs).set j (some x)) H' Q')
    (q : ∀ p G' H' ys ds, H p = none → Ex H G' → Ex G' H' → G' p = none → H' p = some (.lst ys) → DpAll K G' ys ds → ds.length = xs.length → (∀ i d, ds[i]? = some d → R i d) → Q (.ref p) H') : xLcL K (gName j) tYes te vs σ (.ref l) H Q :=
  ⟨l, rfl, ⟨xs, hx⟩, fun D hD => lc_list (xs := xs) (Lw K H R D) ⟨hD, H, [], [], Ex.refl H, Ex.new hD, hD, upd_same, .nil, rfl, fun _ _ h => nomatch h⟩
    (fun i H' _ ⟨_, G, _, _, e1, e2, _⟩ => ex_l (e1.trans e2) hx)
    (fun i x H' hi p => ⟨hw x, iteT (B := Lw K H R D (i + 1) H') (lw_turn (by have := (List.getElem?_eq_some_iff.mp hi).1; omega) p fun G acc a1 a2 a3 a4 => he i x D G H' acc hi hD a1 a2 a3 a4)⟩)
    (fun H' ⟨_, G, ys, ds, e1, e2, g, hys, hd, hl, hR⟩ => q D G H' ys ds hD e1 e2 g hys hd hl hR)⟩
theorem xlcGR (R : Nat → PyData → Prop) (hn : 0 ≤ n ∧ n ≤ 40000) (hw : ∀ x, wipe ((wipe σ vs).set j (some x)) vs = wipe σ vs)
    (he : ∀ (i : Nat) (D : Addr) (G H' : Hp) (acc : List V), (i : Int) < n → H D = none → Ex H G → Ex G H' → G D = none → H' D = some (.lst acc) →
      ∀ Q' : VK, (∀ y H2 G2 d, Ex G G2 → Ex G2 H2 → G2 D = none → Ex H' H2 → Dp K G2 y d → R i d → Q' y H2) → te ((wipe σ vs).set j (some (.int (i : Int)))) H' Q')
    (q : ∀ p G' H' ys ds, H p = none → Ex H G' → Ex G' H' → G' p = none → H' p = some (.lst ys) → DpAll K G' ys ds → ds.length = n.toNat → (∀ i d, ds[i]? = some d → R i d) → Q (.ref p) H') : xLcR (gName j) tYes te vs σ [.int n] H Q :=
  ⟨n, rfl, by omega, by omega, fun D hD => lc_range (lo := 0) (n := n.toNat) (Lw K H R D) ⟨hD, H, [], [], Ex.refl H, Ex.new hD, hD, upd_same, .nil, rfl, fun _ _ h => nomatch h⟩
    (fun i H' hi p => by
      have e0 : (0 : Int) + (i : Int) = (i : Int) := Int.zero_add _
      show wipe ((wipe σ vs).set j (some (.int ((0 : Int) + (i : Int))))) vs = wipe σ vs ∧ _
      rw [e0]
      exact ⟨hw _, iteT (B := Lw K H R D (i + 1) H') (lw_turn (by omega) p fun G acc a1 a2 a3 a4 => he i D G H' acc (by omega) hD a1 a2 a3 a4)⟩)
    (fun H' ⟨_, G, ys, ds, e1, e2, g, hys, hd, hl, hR⟩ => q D G H' ys ds hD e1 e2 g hys hd hl hR)⟩
end
end Rd
namespace Rd
open PySem PySem.Spec PyProof.Rows L2 Evl Dk
section
variable {σ σ' : L2.St} {H H' : Hp} {Q : VK} {te tl : TE} {al : TA} {x y v : V} {n m : Int} {l p : Addr} {xs : List V} {tt : TT} {vs : List Nat} {K : PySem.W.Frag} {j : Nat} {o : HO} {g : TG} {D : Ends} {tb : TS}
/-! loops and comprehensions over a text -/
def xFS (g : TG) (tb : TS) (D : Ends) (σ : L2.St) (x : V) (H1 : Hp) : Prop := ∃ z, x = .str z ∧ ∃ W : Nat → Nat → L2.St → Hp → Prop, (∃ m, W 0 m σ H1) ∧ ∀ i m σ H, W i m σ H →
      ((Its z).stop i H ∧ D.nx σ H) ∨ ((Its z).go i H ∧ ∃ N : L2.St → Hp → Prop, (∀ σ' H', N σ' H' → ∃ m', m' < m ∧ W (i + 1) m' σ' H') ∧ ∀ x H', (Its z).yld i H x H' → g x σ H' fun σ2 H2 => tb { D with nx := N, ct := N, bk := D.nx } σ2 H2)
theorem forS (h : te σ H fun x H1 => xFS g tb D σ x H1) : tFor (iStr te) g tb D σ H := h
theorem xfs {z : Str} (Pv : Nat → L2.St → Hp → Prop) (h0 : Pv 0 σ H)
    (hs : ∀ i c σ' H', z.cps[i]? = some c → Pv i σ' H' → g (.str ⟨#[c]⟩) σ' H' fun σ2 H2 => tb { D with nx := Pv (i + 1), ct := Pv (i + 1), bk := D.nx } σ2 H2) (hd : ∀ σ' H', Pv z.cps.size σ' H' → D.nx σ' H') : xFS g tb D σ (.str z) H := by
  refine ⟨z, rfl, fun i m σ' H' => m = z.cps.size - i ∧ i ≤ z.cps.size ∧ Pv i σ' H', ⟨_, rfl, Nat.zero_le _, h0⟩, ?_⟩
  rintro i m σ' H' ⟨rfl, hi, p⟩
  by_cases hlt : i < z.cps.size
  · exact .inr ⟨hlt, Pv (i + 1), fun σ2 H2 p' => ⟨z.cps.size - (i + 1), by omega, rfl, hlt, p'⟩, fun x H2 ⟨e, c, hc, ex⟩ => by subst e; subst ex; exact hs i c σ' _ hc p⟩
  · have e : i = z.cps.size := by omega
    subst e
    exact .inl ⟨Nat.le_refl _, hd σ' H' p⟩
def xLcS (g : TG) (tt : TT) (te : TE) (vs : List Nat) (σ : L2.St) (x : V) (H : Hp) (Q : VK) : Prop := tLc (iStr (fun _ H Q => Q x H)) g tt te vs σ H Q
theorem lcS (h : tl σ H fun x H1 => xLcS g tt te vs σ x H1 Q) : tLc (iStr tl) g tt te vs σ H Q := h
theorem xlcS {z : Str} (f : Nat → Bool) (v : Nat → V) (hz : z.cps.size ≤ 40000) (hw : ∀ x, wipe ((wipe σ vs).set j (some x)) vs = wipe σ vs)
    (ht : ∀ (i c : Nat) H1, Ex H H1 → z.cps[i]? = some c → EvT tt ((wipe σ vs).set j (some (.str ⟨#[c]⟩))) H1 (f i)) (he : ∀ (i c : Nat) H1, Ex H H1 → z.cps[i]? = some c → f i = true → Ev te ((wipe σ vs).set j (some (.str ⟨#[c]⟩))) H1 (v i))
    (q : ∀ p H', H p = none → Ex H H' → H' p = some (.lst (given z.cps.size f v)) → Q (.ref p) H') : xLcS (gName j) tt te vs σ (.str z) H Q := by
  refine ⟨z, rfl, fun D hD => ⟨fun i m H' => m = z.cps.size - i ∧ i ≤ z.cps.size ∧ Cw H f v D i H', ⟨_, rfl, Nat.zero_le _, hD, Ex.new hD, upd_same⟩, ?_⟩⟩
  rintro i m H' ⟨rfl, hi, p⟩
  by_cases hlt : i < z.cps.size
  · exact .inr ⟨hlt, fun H2 => Cw H f v D (i + 1) H2, fun H2 p' => ⟨z.cps.size - (i + 1), by omega, rfl, hlt, p'⟩, fun x H2 ⟨e, c, hc, ex⟩ => by
      subst e; subst ex
      exact ⟨hw _, cw_turn p (by omega) (ht i c H (Ex.refl H) hc) fun hf => he i c H (Ex.refl H) hc hf⟩⟩
  · have e : i = z.cps.size := by omega
    subst e
    exact .inl ⟨Nat.le_refl _, q D H' p.1 p.2.1 p.2.2⟩
/-! in a tuple or a list of flat items -/
theorem inT {b : Bool} (h : SqT K H p xs) (hx : flatV x = true) (ha : xs.all flatV = true) (hb : inV x xs = b) (q : Q (.bl b) H) : rIn K false x (.ref p) H Q := ⟨p, xs, rfl, .inr h, hx, ha, by rw [hb]; exact q⟩
theorem ninT {b : Bool} (h : SqT K H p xs) (hx : flatV x = true) (ha : xs.all flatV = true) (hb : inV x xs = b) (q : Q (.bl (!b)) H) : rIn K true x (.ref p) H Q := ⟨p, xs, rfl, .inr h, hx, ha, by rw [hb]; exact q⟩
/-! texts -/
def rJoin (K : PySem.W.Frag) : V → List V → Hp → VK → Prop := fun x xs H Q => ∃ a p, ∃ ys : List Str, x = .str a ∧ xs = [.ref p] ∧ (SqL K H p (ys.map V.str) ∨ SqT K H p (ys.map V.str)) ∧ (ys.map (·.length)).sum + ys.length * a.length ≤ 16777216 ∧ Q (.str (Txt.join a ys)) H
theorem mt_jn {X : Cx} : MtR X "str.join" (rJoin X.K) := mt_join
def rFind : V → List V → Hp → VK → Prop := fun x xs H Q => ∃ a b, x = .str a ∧ xs = [.str b] ∧ Q (.int (Txt.find a b)) H
theorem mt_fd {X : Cx} : MtR X "str.find" rFind := mt_find
def rSix : V → List V → Hp → VK → Prop := fun x xs H Q => ∃ a b i rest, x = .str a ∧ xs = [.str b] ∧ Builtin.Str.occurrences a b 0 a.length 1 = i :: rest ∧ Q (.int (i : Nat)) H
theorem mt_six {X : Cx} : MtR X "str.index" rSix := mt_sindex
theorem join {a : Str} {ys : List Str} (h : SqL K H p (ys.map V.str)) (hz : (ys.map (·.length)).sum + ys.length * a.length ≤ 16777216) (q : Q (.str (Txt.join a ys)) H) : rJoin K (.str a) [.ref p] H Q := ⟨a, p, ys, rfl, rfl, .inl h, hz, q⟩
theorem find {a b : Str} (q : Q (.int (Txt.find a b)) H) : rFind (.str a) [.str b] H Q := ⟨a, b, rfl, rfl, q⟩
theorem six {a b : Str} {i : Nat} {r : List Nat} (h : Builtin.Str.occurrences a b 0 a.length 1 = i :: r) (q : Q (.int (i : Nat)) H) : rSix (.str a) [.str b] H Q := ⟨a, b, i, r, rfl, rfl, h, q⟩
def xIsS (x : V) (P : Prop) : Prop := (∃ a, x = .str a) ∧ P
theorem m1 {r : V → List V → Hp → VK → Prop} {tf : TE} (h : te σ H fun x H1 => xIsS x (tf σ H1 fun y H2 => r x [y] H2 Q)) : tM1 r te tf σ H Q := h
theorem m0 {r : V → List V → Hp → VK → Prop} (h : te σ H fun x H1 => xIsS x (r x [] H1 Q)) : tM0 r te σ H Q := h
theorem xiss {a : Str} {P : Prop} (h : P) : xIsS (.str a) P := ⟨⟨a, rfl⟩, h⟩
def rTupOf (K : PySem.W.Frag) : List V → Hp → VK → Prop := fun xs H Q => ∃ p ys, xs = [.ref p] ∧ ((SqL K H p ys ∧ ∀ l, H l = none → Q (.ref l) (upd H l (.tup ys))) ∨ (SqT K H p ys ∧ Q (.ref p) H))
theorem c_tup {X : Cx} : CallR X (.type "tuple") (rTupOf X.K) := call_tuple_of
theorem tupOfL (h : SqL K H p xs) (q : ∀ l H', H l = none → Ex H H' → H' l = some (.tup xs) → Q (.ref l) H') : rTupOf K [.ref p] H Q := ⟨p, xs, rfl, .inl ⟨h, fun l hl => q l _ hl (Ex.new hl) upd_same⟩⟩
theorem tupOfT (h : SqT K H p xs) (q : Q (.ref p) H) : rTupOf K [.ref p] H Q := ⟨p, xs, rfl, .inr ⟨h, q⟩⟩
end
end Rd
namespace Rd
open PySem PySem.Spec PyProof.Rows L2 Evl Dk
theorem ip_addS {X : Cx} : PIp X .Add rCatS := by
  rintro pins s σ H x y v u Q I r1 r2 ⟨i, j, rfl, rfl, hz, q⟩
  obtain ⟨t, rfl⟩ := r1
  obtain ⟨t', rfl⟩ := r2
  exact SB.iadd (fun _ _ => ⟨.str _, H, I.tok _, ⟨_, rfl⟩, q⟩) hz
end Rd
namespace Rd
open PySem PySem.Spec PyProof.Rows L2 Evl Dk
theorem lenSL {s : Str} {n : Nat} {H : Hp} {Q : VK} (h : s.length = n) (hn : n ≤ 100000) (q : Q (.int n) H) : Rd.rLenStr [.str s] H Q := ⟨s, rfl, sz_of (by rw [h]; exact hn), by rw [h]; exact q⟩
end Rd
namespace Dt
open PySem PySem.Spec PyProof.Rows L2 Evl
section
variable {K : PySem.W.Frag} {H : Hp} {l C dx : Addr} {fs : List (Str × V)} {o : HO}
theorem rd_ins {a : Addr} {u : HO} (h : H l = some (.ins C dx fs)) (n : ∀ C dx fs, u ≠ .ins C dx fs) (s : L2.Rd H a u) : L2.Rd (upd H l o) a u := by
  rcases s with s | ⟨ob, s⟩
  · exact .inl (by rw [upd_ne (fun z => by subst z; rw [h] at s; exact n _ _ _ (Option.some.inj s).symm)]; exact s)
  · exact .inr ⟨ob, by rw [upd_ne (fun z => by subst z; rw [h] at s; cases s)]; exact s⟩
theorem sqt_ins {a : Addr} {xs : List V} (h : H l = some (.ins C dx fs)) (s : SqT K H a xs) : SqT K (upd H l o) a xs := by
  rcases s with s | s
  · exact .inl (rd_ins h (fun _ _ _ z => by cases z) s)
  · exact .inr s
theorem sql_ins {a : Addr} {xs : List V} (h : H l = some (.ins C dx fs)) (s : SqL K H a xs) : SqL K (upd H l o) a xs := by
  rcases s with s | s
  · exact .inl (rd_ins h (fun _ _ _ z => by cases z) s)
  · exact .inr s
mutual
/-- data stays where an instance changes -/
theorem updI (h : H l = some (.ins C dx fs)) : ∀ (d : PyData) (v : V), Dp K H v d → Dp K (upd H l o) v d
  | .none, _, h1 => by cases h1; exact .non
  | .bool b, _, h1 => by cases h1; exact .bl b
  | .int i, _, h1 => by cases h1; exact .int i
  | .str x, _, h1 => by cases h1; exact .str x
  | .list ds, _, h1 => by
    cases h1 with
    | lst hs ha => exact .lst (sql_ins h hs) (updIA h ds _ ha)
  | .tuple ds, _, h1 => by
    cases h1 with
    | tup hs ha => exact .tup (sqt_ins h hs) (updIA h ds _ ha)
  | .dict _, _, h1 => by cases h1
theorem updIA (h : H l = some (.ins C dx fs)) : ∀ (ds : List PyData) (vs : List V), DpAll K H vs ds → DpAll K (upd H l o) vs ds
  | [], _, h1 => by cases h1; exact .nil
  | d :: ds, _, h1 => by
    cases h1 with
    | cons h2 h3 => exact .cons (updI h d _ h2) (updIA h ds _ h3)
end
end
end Dt
namespace Rd
open PySem PySem.Spec PyProof.Rows L2 Evl Dk
/-- what a for walks: a list or a tuple -/
def iSeq (K : PySem.W.Frag) (te : TE) : TI := fun σ H R => iList K te σ H R ∨ iTup K te σ H R
theorem pi_seq {X : Cx} {tg l : Expr} {tl : TE} (hl : PE X l tl) : PI X tg l (iSeq X.K tl) := by
  refine ⟨fun pins s σ H R I h => ?_⟩
  rcases h with h | h
  · exact (pi_list hl).run pins s σ H R I h
  · exact (pi_tup hl).run pins s σ H R I h
section
variable {σ : L2.St} {H : Hp} {Q : VK} {te tl : TE} {l : Addr} {xs : List V} {tt : TT} {vs : List Nat} {K : PySem.W.Frag} {j : Nat} {g : TG} {tb : TS} {D : Ends}
theorem lcQL (h : tLc (iList K tl) g tt te vs σ H Q) : tLc (iSeq K tl) g tt te vs σ H Q := .inl h
theorem lcQT (h : tLc (iTup K tl) g tt te vs σ H Q) : tLc (iSeq K tl) g tt te vs σ H Q := .inr h
theorem forQL (h : tFor (iList K tl) g tb D σ H) : tFor (iSeq K tl) g tb D σ H := .inl h
theorem forQT (h : tFor (iTup K tl) g tb D σ H) : tFor (iSeq K tl) g tb D σ H := .inr h
def xLcT (K : PySem.W.Frag) (g : TG) (tt : TT) (te : TE) (vs : List Nat) (σ : L2.St) (x : V) (H : Hp) (Q : VK) : Prop := tLc (iTup K (fun _ H Q => Q x H)) g tt te vs σ H Q
theorem lcT (h : tl σ H fun x H1 => xLcT K g tt te vs σ x H1 Q) : tLc (iTup K tl) g tt te vs σ H Q := h
theorem xlcT (f : Nat → Bool) (v : Nat → V) (hx : SqT K H l xs) (hz : xs.length ≤ 40000) (hw : ∀ x, wipe ((wipe σ vs).set j (some x)) vs = wipe σ vs)
    (ht : ∀ (i : Nat) (x : V) H1, Ex H H1 → xs[i]? = some x → EvT tt ((wipe σ vs).set j (some x)) H1 (f i)) (he : ∀ (i : Nat) (x : V) H1, Ex H H1 → xs[i]? = some x → f i = true → Ev te ((wipe σ vs).set j (some x)) H1 (v i))
    (q : ∀ p H', H p = none → Ex H H' → H' p = some (.lst (given xs.length f v)) → Q (.ref p) H') : xLcT K (gName j) tt te vs σ (.ref l) H Q :=
  ⟨l, rfl, ⟨xs, hx⟩, fun Dl hD => lc_tup (xs := xs) (Cw H f v Dl) ⟨hD, Ex.new hD, upd_same⟩ (fun i H' _ p => ex_t p.2.1 hx)
    (fun i x H' hi p => ⟨hw x, cw_turn p (by have := (List.getElem?_eq_some_iff.mp hi).1; omega) (ht i x H (Ex.refl H) hi) (fun hf => he i x H (Ex.refl H) hi hf)⟩) (fun H' p => q Dl H' p.1 p.2.1 p.2.2)⟩
end
end Rd
namespace Rd
open PySem PySem.Spec PyProof.Rows L2 Evl Dk
section
variable {H : Hp} {Q : VK} {K : PySem.W.Frag} {a : Addr} {xs : List V}
theorem isiSqT {T : String} {b : Bool} (h : SqT K H a xs) (k : kitB "tuple" T = some b) (q : Q (.bl b) H) : rIsi K [.ref a, .ty T] H Q := by
  have ty : TyX K H (.ref a) (.type "tuple") := by
    rcases h with (h | ⟨o, h⟩) | ⟨o, its, n, h1, h2, _⟩
    · exact .base (.tup h)
    · exact .fTuple h
    · exact .kTuple h1 h2
  exact ⟨.ref a, .ty T, .type "tuple", .type T, b, rfl, .ty T, ty, kit_ty k, q⟩
theorem isiSqL {T : String} {b : Bool} (h : SqL K H a xs) (k : kitB "list" T = some b) (q : Q (.bl b) H) : rIsi K [.ref a, .ty T] H Q := by
  have ty : TyX K H (.ref a) (.type "list") := by
    rcases h with (h | ⟨o, h⟩) | ⟨o, its, n, h1, h2, _⟩
    · exact .base (.lst h)
    · exact .base (.frz h)
    · exact .kList h1 h2
  exact ⟨.ref a, .ty T, .type "list", .type T, b, rfl, .ty T, ty, kit_ty k, q⟩
end
end Rd
namespace Rd
open PySem PySem.Spec PyProof.Rows L2 Evl Dk
section
variable {X : Cx} {σ : L2.St} {H : Hp} {Q : VK} {te : TE} {tl th : TO} {x : V} {i j z : Str} {n : Int} {c : Nat} {QO : Option Int → Hp → Prop}
/-! texts: an index, a slice, a part of another -/
def rInS : R2 := fun x y H Q => ∃ i j, x = .str i ∧ y = .str j ∧ Q (.bl (!(Builtin.Str.occurrences j i 0 j.length 1).isEmpty)) H
theorem op_inS : OpR X (compareOp .In) rInS := op_in_str
theorem inS {b : Bool} (h : (!(Builtin.Str.occurrences j i 0 j.length 1).isEmpty) = b) (q : Q (.bl b) H) : rInS (.str i) (.str j) H Q := ⟨i, j, rfl, rfl, by rw [h]; exact q⟩
def rNotInS : R2 := fun x y H Q => ∃ i j, x = .str i ∧ y = .str j ∧ Q (.bl (!(!(Builtin.Str.occurrences j i 0 j.length 1).isEmpty))) H
theorem op_notInS : OpR X (compareOp .NotIn) rNotInS := op_notIn_str
theorem ninS {b : Bool} (h : (!(Builtin.Str.occurrences j i 0 j.length 1).isEmpty) = b) (q : Q (.bl (!b)) H) : rNotInS (.str i) (.str j) H Q := ⟨i, j, rfl, rfl, by rw [h]; exact q⟩
theorem ixS (hz : z.length ≤ 100000) (ha : atI z.cps.toList n = some c) (q : Q (.str ⟨#[c]⟩) H) : rIxS (.str z) (.int n) H Q := ⟨z, n, c, rfl, rfl, sz_of hz, ha, q⟩
theorem slX {lo hi : Option Int} (hz : z.length ≤ 100000) (q : Q (.str (Txt.slice z lo hi)) H) : C8.rSlX (.str z) lo hi H Q := ⟨z, rfl, sz_of hz, q⟩
theorem sl {r : V → Option Int → Option Int → Hp → VK → Prop} (h : te σ H fun x H1 => tl σ H1 fun l H2 => th σ H2 fun u H3 => r x l u H3 Q) : tSl r te tl th σ H Q := h
theorem poN (q : QO none H) : tNoPart σ H QO := q
def xPart (x : V) (H1 : Hp) (Q : Option Int → Hp → Prop) : Prop := ∃ i, x = .int i ∧ Q (some i) H1
theorem poS (h : te σ H fun x H1 => xPart x H1 QO) : tPart te σ H QO := h
theorem xpart (q : QO (some n) H) : xPart (.int n) H QO := ⟨n, rfl, q⟩
end
end Rd

/-! exceptions: an own base's __init__, isinstance of an error that has a dict, an object made where its making may raise -/
namespace L2
open PySem PySem.Spec PyProof.Rows
section
variable {X : Cx} {e : Expr} {es : List Expr} {ta : TA} {p1 p2 pos : Pos} {x : Str}
/-- what the own base class at B says of its __init__ -/
structure OvB (K : PySem.W.Frag) (B : Addr) : Prop where
  ga : PySem.W.specialIn K (.ref B) "__getattribute__" = some (some (.builtin "type.__getattribute__"))
  rd : PySem.W.readsIn K B (.type "type") = true
  at_ : PySem.W.findCls K (.ref B) (.type "type") "__init__" = some (.val (.builtin "ValueError.__init__"))
/-- B.__init__(self, ..), B an own class over ValueError without an __init__ of its own -/
theorem pe_ovinit {pl : Sem Bool} {B : Addr} (hg : Gl X x) (hm : X.mg x = some (.ref B)) (T : OvB X.K B) (ha : PA X (e :: es) ta)
    (hdb : (x == ("__debug__" : Str)) = false := by decide)
    (hc : eval (.Call (.Attribute (.Name x p1) "__init__" p2) (e :: es) [] pos) X.env = (do
      let ov ← eval (.Name x p1) X.env
      standAt p2.atName
      let (f, first) ← holding [ov] (getMethod ov "__init__" pl)
      callWith pos f first (backTo pos (starEach (e :: es) X.env)) (backToKw pos (keywordEach [] X.env))) := by rfl)
    (he : starEach (e :: es) X.env = (false, eval e X.env) :: starEach es X.env := by rfl) (hpl : (backTo pos (starEach es X.env)).any (·.1) = false := by rfl) :
    PE X (.Call (.Attribute (.Name x p1) "__init__" p2) (e :: es) [] pos) (tVeI X.K ta) := by
  refine ⟨fun pins s σ H Q I h => ?_⟩
  refine PySem.W.methodCall_KW (ld_glob I hg hm ?_ hdb) hc
  refine PySem.W.method_cls I.kIn T.ga (PySem.W.cls_value I.kIn T.rd T.at_ (by decide +kernel) ?_)
  show wpAny _ _ (callWith pos (Value.builtin "ValueError.__init__") [] (backTo pos (starEach (e :: es) X.env)) []) _ _ _
  refine PyProof.Rows.callWith_method1 (thn (ha.run pos pins _ σ H _ (I.tok _) h) fun us s1 ⟨vs, H1, I1, r1, a, C, ws, ev, hl, T, ea, q⟩ => ?_) he hpl
  subst ev
  cases r1 with
  | @cons _ u0 _ ur ra rw' =>
    obtain rfl : u0 = Value.ref a := ra
    have hlen : ur.length ≤ sizeLine := by
      rw [← Paired.length rw', sizeLine_eq]
      omega
    exact oinit_ok T I1 ea hlen fun s' J => ⟨.non, H1, J, rfl, q⟩
end
/-- what isinstance and a field's reading ask of an own exception class -/
structure ExD (K : PySem.W.Frag) (C : Addr) : Prop where
  cl : (PySem.W.clsIn K C).isSome = true
  ga : PySem.W.findIn K (.ref C) "__getattribute__" = some (some (.builtin "BaseException.__getattribute__"))
  gg : PySem.W.findIn K (.ref C) "__getattr__" = some none
  ex : PySem.W.subIn K (.ref C) (.type "BaseException") = some true
  dc : PySem.W.hasDictIn K C = true
  at_ : PySem.W.findIn K (.ref C) "__class__" = some (some (.builtin "object.__class__"))
  gt : PySem.W.specialIn K (.builtin "object.__class__") "__get__" = some (some (.builtin "getset_descriptor.__get__"))
  tk : PySem.W.takesIn K (.builtin "object.__class__") = some true
  ob : PySem.W.mroIn K C (.type "object") = some true
theorem ExD.xf {K : PySem.W.Frag} {C : Addr} (T : ExD K C) : XfC K C := ⟨T.ga, T.gg, T.ex, T.dc⟩
/-- isinstance(e, c), e the exception of the class D that the suite holds, its dict at dd -/
def rIsD (K : PySem.W.Frag) (cls : Value) (d : Option Addr) (a : Addr) : List V → Hp → VK → Prop := fun xs H Q => ∃ (D : Addr) (dd : Addr) (fs : List (Str × V)) (c : V) (cv : Value) (b : Bool), xs = [.ref a, c] ∧ cls = .ref D ∧ d = some dd ∧ ExD K D ∧ H dd = some (.xd fs) ∧ ClsV c cv ∧ PySem.W.kitOne K (.ref D) cv = some b ∧ Q (.bl b) H
theorem call_isD {X : Cx} {a : Addr} {cls : Value} {d : Option Addr} {oe : Obj} {pn : List (Addr × Obj)} (hz : Zc cls d oe) (hf : ∃ vs, oe.data = .fields vs) : CallR (X.suite a ((a, oe) :: pn)) (.builtin "isinstance") (rIsD X.K cls d a) := by
  rintro pins s σ H xs us Q I r ⟨D, dd, fs, c, cv, b, rfl, rfl, rfl, T, hdd, hcv, e, q⟩
  obtain ⟨fv, hv⟩ := hf
  cases r with
  | cons rx r => cases r with
    | cons rt r =>
      cases r
      cases rx
      obtain rfl := hcv.eq rt
      have hx : ObjOk X.prog X.w H s.heap dd (.xd fs) := I.hok dd _ hdd
      obtain ⟨mA, hns, _⟩ := hx
      obtain ⟨od, ho, _⟩ := lookIn_ns hns
      have J : PySem.W.InstAt s.heap a oe D (some od) := ⟨(I.pin (a, oe) (List.mem_append.mpr (.inl List.mem_cons_self))).1, hz.1, by unfold PySem.W.notCls; rw [hv] <;> rfl, by rw [hz.2]; exact ho⟩
      refine PySem.W.kia_one (PySem.W.kitx_exc T.cl T.ga T.gg T.ex T.at_ T.gt T.tk T.ob) I.kIn J e (fun z => by cases z) fun t2 => ?_
      exact ⟨.bl b, H, I.kept (t' := t2) fun _ _ z => z, rfl, q⟩
section
variable {X : Cx} {CX : CXT} {k : Nat} {f C : Addr} {fd : FuncData} {ps : List Str} {sp : Sp} {E : L2.St → XK} {x m : Str} {p pos apos : Pos} {e o : Expr} {es : List Expr} {ta : TE} {t : TA}
theorem run_makeS {pins : List (Addr × Obj)} {σ : L2.St} {H : Hp} {s : Shared} {Q : VK} {us : List Value} {vs : List V} (M : Mk X.K C f) (F : FnOk X.prog X.w X.K X.mg X.base CX k f fd ps sp) (hr : Room (k + 1) X.A) (hb : Binds X.K fd ps [])
    (hx : PassesAt CX X σ (E σ)) (I : Inv X pins σ H s) (r : Vals vs us)
    (h : ∀ x dx, H x = none → H dx = none → dx ≠ x → sp (.ref x :: vs) (upd (upd H dx (.own x)) x (.ins C dx [])) (fun v H2 => v = .non ∧ Q (.ref x) H2) (E σ)) :
    wpAny (model X.prog X.w) X.A (call (.ref C) us) (EP X pins σ Q) X.xe s := by
  have hq := h (s.heap.objs.size + 1) s.heap.objs.size (I.hok.fresh (Nat.le_succ _)) (I.hok.fresh (Nat.le_refl _)) (Nat.ne_of_lt (Nat.lt_succ_self _))
  have I2 := Inv.made (C := C) I
  have r2 : Vals (V.ref (s.heap.objs.size + 1) :: vs) (Value.ref (s.heap.objs.size + 1) :: us) := .cons rfl r
  have hl : (Value.ref (s.heap.objs.size + 1) :: us).length = ps.length := by
    have e := r2.length
    rw [F.len _ _ _ _ hq] at e
    exact e.symm
  have b := hb _ (Value.ref (s.heap.objs.size + 1) :: us) I2.kIn (by rw [List.append_nil]; exact hl)
  rw [List.append_nil] at b
  refine wpAny_call (make_map (f := f) I.kIn M.makes M.init (beq_iff_eq.mp M.fn) (codeAny_mono (F.run _ X.stack _ _ ⟨Value.ref (s.heap.objs.size + 1) :: us, []⟩ (Value.ref (s.heap.objs.size + 1) :: us) _ _ (E σ) (hr.make C us [])
    (I2.env0.make C us []) b r2 hq) fun r s' hq' => ?_))
  cases r with
  | error e => exact hx pins _ _ e s' I2 hq'
  | ok fl =>
    cases fl with
    | ret u =>
      obtain ⟨v, H', I3, rv, ev, q3⟩ := I2.after hq'
      subst ev
      exact ⟨rv, ⟨V.ref (s.heap.objs.size + 1), H', I3, rfl, q3⟩⟩
    | next => exact False.elim hq'
    | brk => exact False.elim hq'
    | cont => exact False.elim hq'
/-- C(..) whose __init__ may raise: what is raised is wished for at the slots -/
def tMakeS (C : Addr) (sp : Sp) (E : L2.St → XK) (t : TA) : TE := fun σ H Q => t σ H fun vs H1 => ∀ x dx, H1 x = none → H1 dx = none → dx ≠ x → sp (.ref x :: vs) (upd (upd H1 dx (.own x)) x (.ins C dx [])) (fun v H2 => v = .non ∧ Q (.ref x) H2) (E σ)
theorem pe_makeS (M : Mk X.K C f) (F : FnOk X.prog X.w X.K X.mg X.base CX k f fd ps sp) (hr : Room (k + 1) X.A) (hg : Gl X x) (hm : X.mg x = some (.ref C)) (hb : Binds X.K fd ps []) (hx : ∀ σ, PassesAt CX X σ (E σ))
    (ha : PA X (e :: es) t) (hdb : (x == ("__debug__" : Str)) = false := by decide) (he : starEach (e :: es) X.env = (false, eval e X.env) :: starEach es X.env := by rfl) (hpl : (backTo pos (starEach es X.env)).any (·.1) = false := by rfl) :
    PE X (.Call (.Name x p) (e :: es) [] pos) (tMakeS C sp E t) := by
  refine ⟨fun pins s σ H Q I h => ?_⟩
  refine wpAny_Call_Name_kw (ld_glob I hg hm ?_ hdb)
  refine PySem.W.callWith_K (h₀ := X.base) I.ok.mod.kin M.kp (thn (ha.run pos pins s σ H _ I h) fun us s1 ⟨vs, H1, I1, r, q⟩ => ⟨I1.kIn, ?_⟩) he hpl
  exact run_makeS M F hr hb (hx σ) I1 r q
end
end L2
namespace Rd
open PySem PySem.Spec PyProof.Rows L2 Evl Dk
section
variable {σ : L2.St} {H : Hp} {Q : VK} {K : PySem.W.Frag} {D : Ends} {al : TA} {te : TE} {a C : Addr} {v x : V} {f : Str}
def xVeI (K : PySem.W.Frag) (vs : List V) (H1 : Hp) (Q : VK) : Prop := ∃ (a C : Addr) (ws : List V), vs = .ref a :: ws ∧ ws.length ≤ 1000 ∧ OexC K C ∧ H1 a = some (exo a C none) ∧ Q .non H1
theorem vei (h : al σ H fun vs H1 => xVeI K vs H1 Q) : tVeI K al σ H Q := h
theorem xvei {ws : List V} (T : OexC K C) (h : H a = some (exo a C none)) (n : Nat.ble ws.length 1000 = true) (q : Q .non H) : xVeI K (.ref a :: ws) H Q := ⟨a, C, ws, rfl, Nat.le_of_ble_eq_true n, T, h, q⟩
def xOst (K : PySem.W.Frag) (f : Str) (y x : V) (H2 : Hp) (N : Hp → Prop) : Prop := ∃ a C : Addr, x = .ref a ∧ OexC K C ∧ PySem.W.findIn K (.ref C) f = some none ∧
  ((H2 a = some (exo a C none) ∧ ∀ dx, H2 dx = none → dx ≠ a → N (upd (upd H2 dx (exd dx [(f, y)])) a (exo a C (some dx)))) ∨
    ∃ (dx : Addr) (fs : List (Str × V)), H2 a = some (exo a C (some dx)) ∧ H2 dx = some (exd dx fs) ∧ fs.length ≤ 900 ∧ N (upd H2 dx (exd dx ((f, y) :: fs))))
theorem ost {to : TE} (h : te σ H fun y H1 => to σ H1 fun x H2 => xOst K f y x H2 fun H3 => D.nx σ H3) : tOst K f to te D σ H := h
theorem xost {N : Hp → Prop} (T : OexC K C) (n : PySem.W.findIn K (.ref C) f = some none) (h : H a = some (exo a C none)) (q : ∀ dx, H dx = none → dx ≠ a → N (upd (upd H dx (exd dx [(f, v)])) a (exo a C (some dx)))) : xOst K f v (.ref a) H N := ⟨a, C, rfl, T, n, .inl ⟨h, q⟩⟩
/-- an exception with one field: its __init__'s promise, and the raise of it -/
def spEx1 (C : Addr) (f : Str) : Sp := fun vs H Q _ => ∃ (a : Addr) (s : Str), vs = [.ref a, .str s] ∧ s.length ≤ 1000 ∧ H a = some (exo a C none) ∧ ∀ dx, H dx = none → dx ≠ a → Q .non (upd (upd H dx (exd dx [(f, .str s)])) a (exo a C (some dx)))
def xMkO (C : Addr) (sp : Sp) (dvs vs : List V) (H1 : Hp) (Q : XK) : Prop := vs.length ≤ 1000 ∧ ∀ a, H1 a = none → sp (.ref a :: (vs ++ dvs)) (upd H1 a (exo a C none))
  (fun v H2 => v = .non ∧ ∃ (d : Addr) (fs : List (Str × V)), H2 a = some (exo a C (some d)) ∧ H2 d = some (exd d fs) ∧ H1 d = none ∧ Q (.ref C) (some d) (upd (del H2 a) d (.xd fs))) (fun _ _ _ => False)
theorem xmko1 {s : Str} {Q : XK} (hs : s.length ≤ 1000) (q : ∀ d H', H d = none → Ex H H' → H' d = some (.xd [(f, .str s)]) → Q (.ref C) (some d) H') : xMkO C (spEx1 C f) [] [.str s] H Q := by
  refine ⟨Nat.le_of_ble_eq_true rfl, fun a na => ⟨a, s, rfl, hs, upd_same, fun dx nx ne => ⟨rfl, dx, [(f, .str s)], upd_same, by rw [upd_ne ne]; exact upd_same, ?_, ?_⟩⟩⟩
  · rw [upd_ne ne] at nx; exact nx
  · have nx' : H dx = none := by rw [upd_ne ne] at nx; exact nx
    refine q dx _ nx' (fun b o hb => ?_) upd_same
    have h1 : b ≠ dx := ne_of_none hb nx'
    have h2 : b ≠ a := ne_of_none hb na
    rw [upd_ne h1, del_ne h2, upd_ne h2, upd_ne h1, upd_ne h2]
    exact hb
theorem makeS {C : Addr} {sp : Sp} {E : L2.St → XK} (h : al σ H fun vs H1 => xMk C (fun x H2 Q2 => sp (x :: vs) H2 Q2 (E σ)) H1 Q) : tMakeS C sp E al σ H Q := h
theorem callS {sp : Sp} {E : L2.St → XK} (h : al σ H fun vs H1 => sp vs H1 Q (E σ)) : tCallS sp E al σ H Q := h
end
end Rd
namespace Rd
open PySem PySem.Spec PyProof.Rows L2 Evl Dk
section
variable {H : Hp} {Q : VK} {K : PySem.W.Frag} {D dd a : Addr} {fs : List (Str × V)} {c : V} {cv : Value} {b : Bool}
theorem isD (T : ExD K D) (h : H dd = some (.xd fs)) (hc : ClsV c cv) (k : PySem.W.kitOne K (.ref D) cv = some b) (q : Q (.bl b) H) : rIsD K (.ref D) (some dd) a [.ref a, c] H Q := ⟨D, dd, fs, c, cv, b, rfl, rfl, rfl, T, h, hc, k, q⟩
/-- e.f, e the exception of the suite -/
def xXf (a : Addr) (cls : Value) (d : Option Addr) (C : Addr) (f : Str) (x : V) (H1 : Hp) (Q : VK) : Prop := x = .ref a ∧ cls = .ref C ∧ ∃ (dd : Addr) (fs : List (Str × V)) (v : V), d = some dd ∧ H1 dd = some (.xd fs) ∧ fs.lookup f = some v ∧ Q v H1
theorem xf {σ : L2.St} {te : TE} {cls : Value} {d : Option Addr} {C : Addr} {f : Str} (h : te σ H fun x H1 => xXf a cls d C f x H1 Q) : tXf a cls d C f te σ H Q := h
theorem xxf {C : Addr} {f : Str} {v : V} (h : H dd = some (.xd fs)) (l : fs.lookup f = some v) (q : Q v H) : xXf a (.ref C) (some dd) C f (.ref a) H Q := ⟨rfl, rfl, dd, fs, v, rfl, h, l, q⟩
end
end Rd
namespace Rd
open PySem PySem.Spec PyProof.Rows L2 Evl Dk
section
variable {X : Cx} {σ : L2.St} {H H1 : Hp} {Q : VK} {te : TE} {ts : List TE} {acc y : Str} {i : Int} {K : PySem.W.Frag} {a C : Addr} {f : Str}
/-! f-strings -/
def tJoin (ts : List TE) : TE := fun σ H Q => tJs ts Str.empty σ H fun out H1 => Q (.str out) H1
theorem pe_joinN {v1 v2 : Expr} {rest : List Expr} {pos : Pos} (h : PJ X (v1 :: v2 :: rest) ts) : PE X (.JoinedStr (v1 :: v2 :: rest) pos) (tJoin ts) := pe_joined h
theorem jn (h : tJs ts Str.empty σ H fun out H1 => Q (.str out) H1) : tJoin ts σ H Q := h
def xJs (ts : List TE) (acc : Str) (σ : L2.St) (x : V) (H1 : Hp) (R : Str → Hp → Prop) : Prop := ∃ y : Str, x = .str y ∧ (acc ++ y).length ≤ sizeLine ∧ tJs ts (acc ++ y) σ H1 R
theorem jsC {R : Str → Hp → Prop} (h : te σ H fun x H1 => xJs ts acc σ x H1 R) : tJs (te :: ts) acc σ H R := h
theorem jsN {R : Str → Hp → Prop} (q : R acc H) : tJs [] acc σ H R := q
theorem xjs {R : Str → Hp → Prop} (n : (acc ++ y).length ≤ 100000) (q : tJs ts (acc ++ y) σ H R) : xJs ts acc σ (.str y) H R := ⟨y, rfl, Dk.sz5 n, q⟩
def xFmt (x : V) (H1 : Hp) (Q : VK) : Prop := (∃ y : Str, x = .str y ∧ y.length ≤ sizeLine ∧ Q (.str y) H1) ∨ ∃ i : Int, x = .int i ∧ i.natAbs.log2 < 1920 ∧ Q (.str (toString i)) H1
theorem fmt (h : te σ H fun x H1 => xFmt x H1 Q) : tFmt te σ H Q := h
theorem xfmtS (n : y.length ≤ 100000) (q : Q (.str y) H) : xFmt (.str y) H Q := .inl ⟨y, rfl, Dk.sz5 n, q⟩
theorem xfmtI (n : i.natAbs.log2 < 1920) (q : Q (.str (toString i)) H) : xFmt (.int i) H Q := .inr ⟨i, rfl, n, q⟩
theorem len_app (a b : Str) : (a ++ b).length = a.length + b.length := by show (a.cps ++ b.cps).size = _; rw [Array.size_append]; rfl
theorem len_num : ∀ n : Nat, n < 64 → (toString (n : Int) : Str).length ≤ 10 ∧ (n : Int).natAbs.log2 < 1920 := by decide +kernel
/-- an exception with one small whole number -/
def spExI (C : Addr) (f : Str) : Sp := fun vs H Q _ => ∃ (a : Addr) (n : Nat), vs = [.ref a, .int n] ∧ n < 64 ∧ H a = some (exo a C none) ∧ ∀ dx, H dx = none → dx ≠ a → Q .non (upd (upd H dx (exd dx [(f, .int n)])) a (exo a C (some dx)))
theorem xmkoI {n : Nat} {Q : XK} (hs : n < 64) (q : ∀ d H', H d = none → Ex H H' → H' d = some (.xd [(f, .int n)]) → Q (.ref C) (some d) H') : xMkO C (spExI C f) [] [.int n] H Q := by
  refine ⟨Nat.le_of_ble_eq_true rfl, fun a na => ⟨a, n, rfl, hs, upd_same, fun dx nx ne => ⟨rfl, dx, [(f, .int n)], upd_same, by rw [upd_ne ne]; exact upd_same, ?_, ?_⟩⟩⟩
  · rw [upd_ne ne] at nx; exact nx
  · have nx' : H dx = none := by rw [upd_ne ne] at nx; exact nx
    refine q dx _ nx' (fun b o hb => ?_) upd_same
    have h1 : b ≠ dx := ne_of_none hb nx'
    have h2 : b ≠ a := ne_of_none hb na
    rw [upd_ne h1, del_ne h2, upd_ne h2, upd_ne h1, upd_ne h2]
    exact hb
end
end Rd
namespace Rd
open PySem PySem.Spec PyProof.Rows L2 Evl Dk
theorem mkO {σ : L2.St} {H : Hp} {C : Addr} {sp : Sp} {dvs : List V} {al : TA} {Q : XK} (h : al σ H fun vs H1 => xMkO C sp dvs vs H1 Q) : tMkO C sp dvs al σ H Q := h
end Rd

/-! defs that raise nothing, called within an except suite, whatever stands as the handled exception -/
namespace L2
open PySem PySem.Spec PyProof.Rows
structure FnG (P : Program) (w : World) (K : PySem.W.Frag) (mg : Str → Option Value) (base : Heap) (k : Nat) (f : Addr) (fd : FuncData) (ps : List Str) (sp : Sp) : Prop where
  len : ∀ vs H Q E, sp vs H Q E → vs.length = ps.length
  run : ∀ (A : Around) (outer : List Env) (s : Shared) (H : Hp) (args : Args) (us : List Value) (vs : List V) (Q : VK) (E : XK) (p : Addr × Obj), L2H.RoomH k A → L2H.PinOk outer H s p → Env0 P w K mg base A outer s H → BindsTo s fd args (ps.zip us) → Vals vs us → sp vs H Q E →
    codeAny (model P w) A (.call (.ref f) args) (CR CX0 outer P w H s Q E) s
section
variable {P : Program} {w : World} {K : PySem.W.Frag} {mg : Str → Option Value} {base : Heap}
theorem Fun.okG {x qual : Str} {st : Stmt} {f : Addr} {fd : FuncData} {N ps : List Str} {k : Nat} {sp : Sp} (F : Fun K x qual st f fd) (S : FnScope N ps (defScope st)) (len : ∀ vs H Q E, sp vs H Q E → vs.length = ps.length)
    (hbody : ∀ (cdv : Value) (A : Around) (outer : List Env) (s : Shared) (H : Hp) (vs : List V) (Q : VK) (E : XK) (p : Addr × Obj), L2H.RoomH k (A.deeper (envOfC qual (defScope st) s.heap.objs.size f cdv)) → sp vs H Q E →
      ∃ t, PSs (L2H.cxH CX0 P w K mg base N qual (defScope st) f cdv A outer s H E p).nox (defBody st) t ∧ t { nx := fun _ H' => Q .non H', rt := Q } (start N vs) H) : FnG P w K mg base (k + 1) f fd ps sp := by
  obtain ⟨oc, od, kV, doc, pm, an, cdv, ct, osl, rfl, lk, hcd⟩ := F.ex
  refine ⟨len, fun A outer s H args us vs Q E p rm pin env bnd rel want => ?_⟩
  have inH : K.In s.heap := env.mod.kin.keeps fun b o e => (env.bs b o e).1
  have noLim : s.heap.NoLimit := env.mod.nolimit.keeps fun b o e => (env.bs b o e).1
  have kinds : ∀ y ∈ ps.zip us, (defScope st).names.lookup y.1 = some .local ∨ ((defScope st).names.lookup y.1 = some .cell ∧ ((cellsFrom (s.heap.objs.size + 1) (defScope st).names []).lookup y.1).isSome = true) := by
    rintro ⟨n, v⟩ hy
    exact (S.par n (List.of_mem_zip hy).1).elim .inl fun q => .inr ⟨q, PySem.W.cellsFrom_some _ _ _ (.inl q)⟩
  refine codeAny_call_function rm.depth (inH _ _ lk) rfl S.co S.gen rfl
    (PySem.W.codeRec_of inH hcd) (bnd _ _ _ _ (wpAny_newFunctionEnv_cells S.kind kinds ?_))
  rintro env2 hen s1 entry
  subst hen
  refine ⟨noLim.keeps entry.toInCall.keep, codeAny_func ?_⟩
  obtain ⟨t, ht, tq⟩ := hbody cdv A outer s H vs Q E p (rm.deeper _) want
  have start_ := L2H.inv_startH (E := E) (CX := CX0) S pin env (len _ _ _ _ want) rel entry
  refine wpAny_mono (ht.nox.run [] s1 (start N vs) H _ start_ tq) ?_ fun _ _ z => z
  intro fl s2 hs
  cases fl with
  | ret u =>
    obtain ⟨v, σ2, H2, J, rv, q⟩ := hs
    exact ⟨v, H2, J.os, J.bare, J.base, J.hok, rv, q⟩
  | next =>
    obtain ⟨σ2, H2, J, q⟩ := hs
    exact ⟨.non, H2, J.os, J.bare, J.base, J.hok, rfl, q⟩
  | brk => obtain ⟨_, _, _, q⟩ := hs; exact q.elim
  | cont => obtain ⟨_, _, _, q⟩ := hs; exact q.elim
end
theorem roomS {j k : Nat} {A : Around} {x : Option Value} (r : Room k A) (h : j ≤ k) : L2H.RoomH j (A.mark x) :=
  ⟨by have := r.dp; show A.depth + 3 * j + 5 < _; omega, by have := r.un; show A.units + 16 * j + 200 < _; omega⟩
section
variable {X : Cx} {k : Nat} {f : Addr} {fd : FuncData} {ps : List Str} {sp : Sp} {x : Str} {q pos : Pos} {e : Expr} {es : List Expr} {t : TA}
theorem pe_callG {p : Addr × Obj} (F : FnG X.prog X.w X.K X.mg X.base k f fd ps sp) (hr : L2H.RoomH k X.A) (hp : p ∈ X.pn) (hg : Gl X x) (hm : X.mg x = some (.ref f)) (hk : PySem.W.keepIn X.K (.ref f) = true) (hb : Binds X.K fd ps [])
    (ha : PA X (e :: es) t) (hdb : (x == ("__debug__" : Str)) = false := by decide) (he : starEach (e :: es) X.env = (false, eval e X.env) :: starEach es X.env := by rfl) (hpl : (backTo pos (starEach es X.env)).any (·.1) = false := by rfl) :
    PE X (.Call (.Name x q) (e :: es) [] pos) (tCall sp [] E0 t) := by
  refine ⟨fun pins s σ H Q I h => wpAny_Call_Name_kw (ld_glob I hg hm ?_ hdb)⟩
  refine PySem.W.callWith_K (h₀ := X.base) I.ok.mod.kin hk (thn (ha.run pos pins s σ H _ I h) ?_) he hpl
  rintro us s1 ⟨vs, H1, I1, r, want⟩
  refine ⟨I1.kIn, ?_⟩
  rw [List.append_nil] at want
  have hl : us.length = ps.length := by rw [← r.length]; exact F.len _ _ _ _ want
  have bnd := hb s1 us I1.kIn (by rw [List.append_nil]; exact hl)
  rw [List.append_nil] at bnd
  obtain ⟨g1, g2, g3, g4, g5⟩ := I1.pin p (List.mem_append_left _ hp)
  have pin : L2H.PinOk X.stack H1 s1 p := ⟨g1, g2, fun z => (List.mem_cons.mp (I1.stkSub p.1 z)).elim g3 g4, g5⟩
  refine wpAny_call (codeAny_mono (F.run X.A X.stack s1 H1 ⟨us, []⟩ us vs Q E0 p hr pin I1.env0 bnd r want) ?_)
  intro r2 s2 hq
  cases r2 with
  | error e => exact False.elim hq
  | ok fl =>
    cases fl with
    | ret u => exact I1.after hq
    | next => exact False.elim hq
    | brk => exact False.elim hq
    | cont => exact False.elim hq
end
end L2


local macro_rules | `(tactic| walk_at "hp") => `(tactic| first
  | assumption | exact L2.upd_same | (refine (by assumption : Evl.Ex _ _) _ _ ?_; walk_at "hp")
  | (refine (L2.upd_ne (by assumption)).trans ?_; walk_at "hp") | (refine (L2.upd_ne (Ne.symm (by assumption))).trans ?_; walk_at "hp") | (refine (L2.upd_ne (L2.ne_of (by assumption) (by assumption) (by intro z; cases z))).trans ?_; walk_at "hp"))
local macro_rules | `(tactic| walk_at "sq") => `(tactic| first | assumption | exact L2.SqL.of (by walk_at "hp") | exact L2.SqT.of (by walk_at "hp"))
local macro_rules | `(tactic| walk_at "rd1") => `(tactic| with_reducible first
  | refine Rd.seq ?_ | refine Rd.asg ?_ | refine Rd.gnm ?_ | refine Rd.ifS ?_ | refine Rd.ret ?_ | refine Rd.retN ?_ | refine Rd.drop ?_ | refine Rd.nxt ?_ | refine Rd.brk ?_ | refine Rd.cnt ?_
  | refine Rd.var rfl ?_ | refine Rd.c ?_ | refine Rd.op ?_ | refine Rd.i0 ?_ | refine Rd.un ?_ | refine Rd.u0 ?_
  | refine Rd.test ?_ | refine Rd.tbv ?_ | refine Rd.xt ?_ | refine Rd.andT ?_ | refine Rd.orT ?_ | refine Rd.notT ?_ | refine Rd.andV ?_ | refine Rd.orV ?_ | refine Rd.notV ?_ | refine Rd.ifE ?_ | refine Rd.chain ?_
  | refine Rd.nil ?_ | refine Rd.cons ?_ | refine Rd.cb ?_ | refine Rd.call ?_ | refine Rd.tup ?_ | refine Rd.lst ?_ | refine Rd.fld ?_ | refine Rd.meth ?_ | refine Rd.bm ?_ | refine Rd.bm0 ?_
  | refine Rd.eqI ?_ | refine Rd.neI ?_ | refine Rd.eqS ?_ | refine Rd.neS ?_ | refine Rd.isN_non ?_ | refine Rd.isN_int ?_ | refine Rd.isN_ref ?_ | refine Rd.isN_str ?_ | refine Rd.notN_non ?_ | refine Rd.notN_int ?_ | refine Rd.notN_ref ?_ | refine Rd.notN_str ?_
  | refine Rd.mkO ?_ | refine Rd.jn ?_ | refine Rd.jsC ?_ | refine Rd.jsN ?_ | refine Rd.fmt ?_ | refine Rd.sl ?_ | refine Rd.poN ?_ | refine Rd.poS ?_ | refine Rd.xpart ?_ | refine Rd.ifTT ?_ | refine Rd.ifFF ?_ | refine Rd.ifNTT ?_ | refine Rd.ifNFF ?_
  | refine Rd.int ?_ | refine Rd.intB ?_ | refine Rd.abs ?_ | refine Rd.max2 ?_ | refine Rd.min2 ?_
  | refine Rd.sfld ?_ | refine Rd.forS ?_ | refine Rd.lcS ?_ | refine Rd.lcT ?_ | refine Rd.m1 ?_ | refine Rd.m0 ?_ | refine Rd.xiss ?_ | refine Rd.find ?_ | refine Rd.listRg1 ?_ | refine Rd.lcR1 ?_ | refine Rd.lcL ?_ | refine Rd.listRg2 ?_ | refine Rd.eqB ?_ | refine Rd.neB ?_ | refine Rd.xf ?_ | refine Rd.vei ?_ | refine Rd.ost ?_ | refine Rd.makeS ?_ | refine Rd.callS ?_ | refine Rd.make ?_ | refine Rd.forR1 ?_ | refine Rd.forR2 ?_ | refine Rd.forL ?_ | refine Rd.forT ?_ | refine Rd.par ?_ | refine Rd.par2 ?_ | refine Rd.gcons ?_ | refine Rd.gnil ?_ | refine Rd.gsub ?_ | refine Rd.ipi ?_ | refine Rd.aug rfl ?_)
local macro_rules | `(tactic| walk_at "rd2") => `(tactic| first
  | ((with_reducible refine' Rd.pw (m := 1000000) (i := 10) (j := 6) ?c1 ?e1 ?_); (case c1 => exact ⟨by decide, by decide, by decide⟩); (case e1 => decide)) | ((with_reducible refine' Rd.pw (m := 1000000000000) (i := 10) (j := 12) ?c1 ?e1 ?_); (case c1 => exact ⟨by decide, by decide, by decide⟩); (case e1 => decide)) | ((with_reducible refine' Rd.pw (m := 1000000000000000000000000000000) (i := 10) (j := 30) ?c1 ?e1 ?_); (case c1 => exact ⟨by decide, by decide, by decide⟩); (case e1 => decide))
  | ((with_reducible refine' Rd.pw (m := 10000000000000000000000000000000) (i := 10) (j := 31) ?c1 ?e1 ?_); (case c1 => exact ⟨by decide, by decide, by decide⟩); (case e1 => decide)) | ((with_reducible refine' Rd.pw (m := 10000000000000000000000000000000000000000) (i := 10) (j := 40) ?c1 ?e1 ?_); (case c1 => exact ⟨by decide, by decide, by decide⟩); (case e1 => decide)) | ((with_reducible refine' Rd.pw (m := 100000000000000000000) (i := 10) (j := 20) ?c1 ?e1 ?_); (case c1 => exact ⟨by decide, by decide, by decide⟩); (case e1 => decide)) | ((with_reducible refine' Rd.pw (m := 10000000000000000000000000000000000000000000000000000000000000000) (i := 10) (j := 64) ?c1 ?e1 ?_); (case c1 => exact ⟨by decide, by decide, by decide⟩); (case e1 => decide)) | ((with_reducible refine' Rd.pw (m := 10000) (i := 10) (j := 4) ?c1 ?e1 ?_); (case c1 => exact ⟨by decide, by decide, by decide⟩); (case e1 => decide)) | ((with_reducible refine' Rd.pw (m := 100) (i := 10) (j := 2) ?c1 ?e1 ?_); (case c1 => exact ⟨by decide, by decide, by decide⟩); (case e1 => decide))
  | (with_reducible refine' Rd.isiInt (b := true) ?k1 ?_); (case k1 => rfl)
  | (with_reducible refine' Rd.isiInt (b := false) ?k1 ?_); (case k1 => rfl)
  | (with_reducible refine' Rd.isiBl (b := true) ?k1 ?_); (case k1 => rfl)
  | (with_reducible refine' Rd.isiBl (b := false) ?k1 ?_); (case k1 => rfl)
  | (with_reducible refine' Rd.isiStr (b := true) ?k1 ?_); (case k1 => rfl)
  | (with_reducible refine' Rd.isiStr (b := false) ?k1 ?_); (case k1 => rfl)
  | (with_reducible refine' Rd.isiNon (b := true) ?k1 ?_); (case k1 => rfl)
  | (with_reducible refine' Rd.isiNon (b := false) ?k1 ?_); (case k1 => rfl)
  | (with_reducible refine' Rd.isiLst (b := true) ?h1 ?k1 ?_); (case h1 => walk_at "hp"); (case k1 => rfl)
  | (with_reducible refine' Rd.isiLst (b := false) ?h1 ?k1 ?_); (case h1 => walk_at "hp"); (case k1 => rfl)
  | (with_reducible refine' Rd.isiTup (b := true) ?h1 ?k1 ?_); (case h1 => walk_at "hp"); (case k1 => rfl)
  | (with_reducible refine' Rd.isiTup (b := false) ?h1 ?k1 ?_); (case h1 => walk_at "hp"); (case k1 => rfl)
  | (with_reducible refine' Rd.isiSqT (b := true) ?s1 ?k1 ?_); (case s1 => walk_at "sq"); (case k1 => rfl)
  | (with_reducible refine' Rd.isiSqT (b := false) ?s1 ?k1 ?_); (case s1 => walk_at "sq"); (case k1 => rfl)
  | (with_reducible refine' Rd.isiSqL (b := true) ?s1 ?k1 ?_); (case s1 => walk_at "sq"); (case k1 => rfl)
  | (with_reducible refine' Rd.isiSqL (b := false) ?s1 ?k1 ?_); (case s1 => walk_at "sq"); (case k1 => rfl)
  | (with_reducible refine' Rd.i1 ?c1 ?_); (case c1 => first | assumption | (show (0 : Int) < _; omega) | decide | exact .inl (by decide) | exact .inr (by decide) | exact .inr ⟨by omega, by omega⟩ | exact .inl ⟨by omega, by omega⟩ | exact ⟨by decide, by decide⟩)
  | (with_reducible refine' Rd.len ?s1 ?_); (case s1 => walk_at "sq")
  | (with_reducible refine' Rd.lenT ?s1 ?_); (case s1 => walk_at "sq")
  | (with_reducible refine' Rd.xtyL ?s1 ?_); (case s1 => walk_at "sq")
  | (with_reducible refine' Rd.ixL ?s1 ?a1 ?_); (case s1 => walk_at "sq"); (case a1 => rfl)
  | (with_reducible refine' Rd.ixT ?s1 ?a1 ?_); (case s1 => walk_at "sq"); (case a1 => rfl)
  | (with_reducible refine' Rd.gtup ?s1 ?n1 ?_); (case s1 => walk_at "sq"); (case n1 => rfl)
  | (with_reducible refine' Rd.rfld ?h1 ?c1 ?n1 ?l1 ?_); (case h1 => walk_at "hp"); (case c1 => assumption); (case n1 => assumption); (case l1 => walk_at "lk")
  | (with_reducible refine' Rd.xmeth ?h1 ?l1 ?_); (case h1 => walk_at "hp"); (case l1 => walk_at "lk")
  | (with_reducible refine' Rd.xst ?h1 ?c1 ?n1 ?l1 ?_); (case h1 => walk_at "hp"); (case c1 => assumption); (case n1 => assumption); (case l1 => rfl)
  | (with_reducible refine' Rd.take ?h1 ?m1 ?_); (case h1 => walk_at "hp"); (case m1 => omega)
  | ((with_reducible refine' Rd.tupOfL ?s1 ?_); (case s1 => walk_at "sq")) | ((with_reducible refine' Rd.tupOfT ?s1 ?_); (case s1 => walk_at "sq"))
  | (with_reducible refine Rd.ifT (by assumption) ?_) | (with_reducible refine Rd.ifF (by assumption) ?_) | (with_reducible refine Rd.ifNT (by assumption) ?_) | (with_reducible refine Rd.ifNF (by assumption) ?_)
  | (with_reducible refine Rd.ifT rfl ?_) | (with_reducible refine Rd.ifNF rfl ?_)
  | (with_reducible refine Rd.ifT (by omega) ?_) | (with_reducible refine Rd.ifF (by omega) ?_) | (with_reducible refine Rd.ifNT (by omega) ?_) | (with_reducible refine Rd.ifNF (by omega) ?_)
  | ((with_reducible refine Rd.ifT ?p1 ?_); (case p1 => decide +kernel)) | ((with_reducible refine Rd.ifF ?p1 ?_); (case p1 => decide +kernel)) | ((with_reducible refine Rd.ifNT ?p1 ?_); (case p1 => decide +kernel)) | ((with_reducible refine Rd.ifNF ?p1 ?_); (case p1 => decide +kernel)))
local macro_rules | `(tactic| walk_at "rd") => `(tactic| repeat (first | walk_at "rd1" | walk_at "rd2"))

namespace Toy
open PySem L2
def top (i : Nat) : Stmt := PySem.Challenge.pw_surebridge_k16_rows_in_order.main.body.getD i (.Pass ⟨0, 0, 0, 0⟩)
abbrev s_law_take : Stmt := top 20
theorem sc_law_take : FnScope ["deck", "many"] ["deck", "many"] (defScope s_law_take) := ⟨rfl, rfl, rfl, by decide +kernel, rfl, by decide +kernel, by decide +kernel⟩
abbrev s_law_deck : Stmt := top 19
theorem sc_law_deck : FnScope ["script", "cells", "each", "deck", "seed", "k", "cell", "rest", "at"] ["script", "cells", "each"] (defScope s_law_deck) := ⟨rfl, rfl, rfl, by decide +kernel, rfl, by decide +kernel, by decide +kernel⟩
abbrev s_is_mark : Stmt := top 14
theorem sc_is_mark : FnScope ["mark", "marks", "follow", "change"] ["mark", "marks"] (defScope s_is_mark) := ⟨rfl, rfl, rfl, by decide +kernel, rfl, by decide +kernel, by decide +kernel⟩
abbrev s_is_rule : Stmt := top 15
theorem sc_is_rule : FnScope ["rule", "mark"] ["rule"] (defScope s_is_rule) := ⟨rfl, rfl, rfl, by decide +kernel, rfl, by decide +kernel, by decide +kernel⟩
abbrev s_InvalidRow_init_ : Stmt := inClass (top 3) 0
theorem sc_InvalidRow_init_ : FnScope ["self", "what"] ["self", "what"] (defScope s_InvalidRow_init_) := ⟨rfl, rfl, rfl, by decide +kernel, rfl, by decide +kernel, by decide +kernel⟩
abbrev s_Row_init_ : Stmt := inClass (top 16) 0
theorem sc_Row_init_ : FnScope ["self", "mode", "sharing", "lease", "grip", "rule", "held", "marks", "mark", "pair"] ["self", "mode", "sharing", "lease", "grip", "rule"] (defScope s_Row_init_) := ⟨rfl, rfl, rfl, by decide +kernel, rfl, by decide +kernel, by decide +kernel⟩
abbrev s_plain_row : Stmt := top 17
theorem sc_plain_row : FnScope ["mode"] ["mode"] (defScope s_plain_row) := ⟨rfl, rfl, rfl, by decide +kernel, rfl, by decide +kernel, by decide +kernel⟩
abbrev s_law_whole : Stmt := top 21
theorem sc_law_whole : FnScope ["value"] ["value"] (defScope s_law_whole) := ⟨rfl, rfl, rfl, by decide +kernel, rfl, by decide +kernel, by decide +kernel⟩
abbrev s_law_word : Stmt := top 22
theorem sc_law_word : FnScope ["deck", "good", "bad"] ["deck", "good", "bad"] (defScope s_law_word) := ⟨rfl, rfl, rfl, by decide +kernel, rfl, by decide +kernel, by decide +kernel⟩
abbrev s_law_rule : Stmt := top 23
theorem sc_law_rule : FnScope ["deck", "size", "rule", "mark", "event"] ["deck", "size"] (defScope s_law_rule) := ⟨rfl, rfl, rfl, by decide +kernel, rfl, by decide +kernel, by decide +kernel⟩
abbrev s_law_spoilt_rule : Stmt := top 24
theorem sc_law_spoilt_rule : FnScope ["deck", "size", "kind", "rule", "mark", "event", "pair"] ["deck", "size"] (defScope s_law_spoilt_rule) := ⟨rfl, rfl, rfl, by decide +kernel, rfl, by decide +kernel, by decide +kernel⟩
abbrev s_law_parts : Stmt := top 25
theorem sc_law_parts : FnScope ["deck", "mode", "size", "rule", "sharing", "lease", "grip"] ["deck"] (defScope s_law_parts) := ⟨rfl, rfl, rfl, by decide +kernel, rfl, by decide +kernel, by decide +kernel⟩
abbrev s_law_rule_in_order : Stmt := top 26
theorem sc_law_rule_in_order : FnScope ["rule", "mark", "pair"] ["rule"] (defScope s_law_rule_in_order) := ⟨rfl, rfl, rfl, by decide +kernel, rfl, by decide +kernel, by decide +kernel⟩
abbrev s_law_first_wrong : Stmt := top 27
theorem sc_law_first_wrong : FnScope ["parts", "held"] ["parts"] (defScope s_law_first_wrong) := ⟨rfl, rfl, rfl, by decide +kernel, rfl, by decide +kernel, by decide +kernel⟩
abbrev s_law_refused : Stmt := top 28
theorem sc_law_refused : FnScope ["parts", "what", "mark", "e"] ["parts", "what"] (defScope s_law_refused) := ⟨rfl, rfl, rfl, by decide +kernel, rfl, by decide +kernel, by decide +kernel⟩
abbrev s_law_same_rule : Stmt := top 29
theorem sc_law_same_rule : FnScope ["rule", "marks", "at", "event", "pair"] ["rule", "marks"] (defScope s_law_same_rule) := ⟨rfl, rfl, rfl, by decide +kernel, rfl, by decide +kernel, by decide +kernel⟩
abbrev s_law_fields : Stmt := top 30
theorem sc_law_fields : FnScope ["row", "parts", "word"] ["row", "parts"] (defScope s_law_fields) := ⟨rfl, rfl, rfl, by decide +kernel, rfl, by decide +kernel, by decide +kernel⟩
abbrev s_law_built : Stmt := top 31
theorem sc_law_built : FnScope ["parts", "passed", "mark", "row"] ["parts"] (defScope s_law_built) := ⟨rfl, rfl, rfl, by decide +kernel, rfl, by decide +kernel, by decide +kernel⟩
abbrev s_law_plain : Stmt := top 32
theorem sc_law_plain : FnScope ["mode", "still", "row", "e"] ["mode"] (defScope s_law_plain) := ⟨rfl, rfl, rfl, by decide +kernel, rfl, by decide +kernel, by decide +kernel⟩
abbrev s_law : Stmt := top 33
theorem sc_law : FnScope ["script", "deck", "turn", "parts", "what", "mode"] ["script"] (defScope s_law) := ⟨rfl, rfl, rfl, by decide +kernel, rfl, by decide +kernel, by decide +kernel⟩
/-- where things stand -/
structure Ad where
  a_law_take : Addr
  d_law_take : FuncData
  a_law_deck : Addr
  d_law_deck : FuncData
  a_is_mark : Addr
  d_is_mark : FuncData
  a_is_rule : Addr
  d_is_rule : FuncData
  a_InvalidRow_init_ : Addr
  d_InvalidRow_init_ : FuncData
  a_Row_init_ : Addr
  d_Row_init_ : FuncData
  a_plain_row : Addr
  d_plain_row : FuncData
  a_law_whole : Addr
  d_law_whole : FuncData
  a_law_word : Addr
  d_law_word : FuncData
  a_law_rule : Addr
  d_law_rule : FuncData
  a_law_spoilt_rule : Addr
  d_law_spoilt_rule : FuncData
  a_law_parts : Addr
  d_law_parts : FuncData
  a_law_rule_in_order : Addr
  d_law_rule_in_order : FuncData
  a_law_first_wrong : Addr
  d_law_first_wrong : FuncData
  a_law_refused : Addr
  d_law_refused : FuncData
  a_law_same_rule : Addr
  d_law_same_rule : FuncData
  a_law_fields : Addr
  d_law_fields : FuncData
  a_law_built : Addr
  d_law_built : FuncData
  a_law_plain : Addr
  d_law_plain : FuncData
  a_law : Addr
  d_law : FuncData
  c_BridgeError : Addr
  c_ImpossibleLife : Addr
  c_InvalidMap : Addr
  c_InvalidRow : Addr
  c_Row : Addr
  k_GRIPS : Addr
  k_LEASES : Addr
  k_MODES : Addr
  k_SHARINGS : Addr
  k_STILL : Addr
/-- what the top has written -/
structure Txt (K : PySem.W.Frag) (mg : Str → Option Value) (ad : Ad) : Prop where
  F_law_take : Fun K "_law_take" "_law_take" s_law_take ad.a_law_take ad.d_law_take
  b_law_take : Binds K ad.d_law_take ["deck", "many"] []
  m_law_take : mg "_law_take" = some (.ref ad.a_law_take)
  F_law_deck : Fun K "_law_deck" "_law_deck" s_law_deck ad.a_law_deck ad.d_law_deck
  b_law_deck : Binds K ad.d_law_deck ["script", "cells", "each"] []
  m_law_deck : mg "_law_deck" = some (.ref ad.a_law_deck)
  F_is_mark : Fun K "is_mark" "is_mark" s_is_mark ad.a_is_mark ad.d_is_mark
  b_is_mark : Binds K ad.d_is_mark ["mark", "marks"] []
  m_is_mark : mg "is_mark" = some (.ref ad.a_is_mark)
  F_is_rule : Fun K "is_rule" "is_rule" s_is_rule ad.a_is_rule ad.d_is_rule
  b_is_rule : Binds K ad.d_is_rule ["rule"] []
  m_is_rule : mg "is_rule" = some (.ref ad.a_is_rule)
  F_InvalidRow_init_ : Fun K "__init__" "InvalidRow.__init__" s_InvalidRow_init_ ad.a_InvalidRow_init_ ad.d_InvalidRow_init_
  b_InvalidRow_init_ : Binds K ad.d_InvalidRow_init_ ["self", "what"] []
  F_Row_init_ : Fun K "__init__" "Row.__init__" s_Row_init_ ad.a_Row_init_ ad.d_Row_init_
  b_Row_init_ : Binds K ad.d_Row_init_ ["self", "mode", "sharing", "lease", "grip", "rule"] []
  F_plain_row : Fun K "plain_row" "plain_row" s_plain_row ad.a_plain_row ad.d_plain_row
  b_plain_row : Binds K ad.d_plain_row ["mode"] []
  m_plain_row : mg "plain_row" = some (.ref ad.a_plain_row)
  F_law_whole : Fun K "_law_whole" "_law_whole" s_law_whole ad.a_law_whole ad.d_law_whole
  b_law_whole : Binds K ad.d_law_whole ["value"] []
  m_law_whole : mg "_law_whole" = some (.ref ad.a_law_whole)
  F_law_word : Fun K "_law_word" "_law_word" s_law_word ad.a_law_word ad.d_law_word
  b_law_word : Binds K ad.d_law_word ["deck", "good", "bad"] []
  m_law_word : mg "_law_word" = some (.ref ad.a_law_word)
  F_law_rule : Fun K "_law_rule" "_law_rule" s_law_rule ad.a_law_rule ad.d_law_rule
  b_law_rule : Binds K ad.d_law_rule ["deck", "size"] []
  m_law_rule : mg "_law_rule" = some (.ref ad.a_law_rule)
  F_law_spoilt_rule : Fun K "_law_spoilt_rule" "_law_spoilt_rule" s_law_spoilt_rule ad.a_law_spoilt_rule ad.d_law_spoilt_rule
  b_law_spoilt_rule : Binds K ad.d_law_spoilt_rule ["deck", "size"] []
  m_law_spoilt_rule : mg "_law_spoilt_rule" = some (.ref ad.a_law_spoilt_rule)
  F_law_parts : Fun K "_law_parts" "_law_parts" s_law_parts ad.a_law_parts ad.d_law_parts
  b_law_parts : Binds K ad.d_law_parts ["deck"] []
  m_law_parts : mg "_law_parts" = some (.ref ad.a_law_parts)
  F_law_rule_in_order : Fun K "_law_rule_in_order" "_law_rule_in_order" s_law_rule_in_order ad.a_law_rule_in_order ad.d_law_rule_in_order
  b_law_rule_in_order : Binds K ad.d_law_rule_in_order ["rule"] []
  m_law_rule_in_order : mg "_law_rule_in_order" = some (.ref ad.a_law_rule_in_order)
  F_law_first_wrong : Fun K "_law_first_wrong" "_law_first_wrong" s_law_first_wrong ad.a_law_first_wrong ad.d_law_first_wrong
  b_law_first_wrong : Binds K ad.d_law_first_wrong ["parts"] []
  m_law_first_wrong : mg "_law_first_wrong" = some (.ref ad.a_law_first_wrong)
  F_law_refused : Fun K "_law_refused" "_law_refused" s_law_refused ad.a_law_refused ad.d_law_refused
  b_law_refused : Binds K ad.d_law_refused ["parts", "what"] []
  m_law_refused : mg "_law_refused" = some (.ref ad.a_law_refused)
  F_law_same_rule : Fun K "_law_same_rule" "_law_same_rule" s_law_same_rule ad.a_law_same_rule ad.d_law_same_rule
  b_law_same_rule : Binds K ad.d_law_same_rule ["rule", "marks"] []
  m_law_same_rule : mg "_law_same_rule" = some (.ref ad.a_law_same_rule)
  F_law_fields : Fun K "_law_fields" "_law_fields" s_law_fields ad.a_law_fields ad.d_law_fields
  b_law_fields : Binds K ad.d_law_fields ["row", "parts"] []
  m_law_fields : mg "_law_fields" = some (.ref ad.a_law_fields)
  F_law_built : Fun K "_law_built" "_law_built" s_law_built ad.a_law_built ad.d_law_built
  b_law_built : Binds K ad.d_law_built ["parts"] []
  m_law_built : mg "_law_built" = some (.ref ad.a_law_built)
  F_law_plain : Fun K "_law_plain" "_law_plain" s_law_plain ad.a_law_plain ad.d_law_plain
  b_law_plain : Binds K ad.d_law_plain ["mode"] []
  m_law_plain : mg "_law_plain" = some (.ref ad.a_law_plain)
  F_law : Fun K "law" "law" s_law ad.a_law ad.d_law
  b_law : Binds K ad.d_law ["script"] []
  m_law : mg "law" = some (.ref ad.a_law)
  cl_Row : Cls K ad.c_Row
  mg_Row : mg "Row" = some (.ref ad.c_Row)
  mk_Row : Mk K ad.c_Row ad.a_Row_init_
  n_Row_grip : NoAttr K ad.c_Row "grip"
  n_Row_lease : NoAttr K ad.c_Row "lease"
  n_Row_mode : NoAttr K ad.c_Row "mode"
  n_Row_rule : NoAttr K ad.c_Row "rule"
  n_Row_sharing : NoAttr K ad.c_Row "sharing"
  mg_BridgeError : mg "BridgeError" = some (.ref ad.c_BridgeError)
  ov_BridgeError : OvB K ad.c_BridgeError
  mg_ImpossibleLife : mg "ImpossibleLife" = some (.ref ad.c_ImpossibleLife)
  mg_InvalidMap : mg "InvalidMap" = some (.ref ad.c_InvalidMap)
  mg_InvalidRow : mg "InvalidRow" = some (.ref ad.c_InvalidRow)
  ox_InvalidRow : OexC K ad.c_InvalidRow
  ix_InvalidRow : PySem.W.findIn K (.ref ad.c_InvalidRow) "__init__" = some (some (.ref ad.a_InvalidRow_init_))
  tx_InvalidRow : PySem.W.typeIn K (.ref ad.a_InvalidRow_init_) = some (.type "function")
  xd_InvalidRow : ExD K ad.c_InvalidRow
  nx_InvalidRow_what : PySem.W.findIn K (.ref ad.c_InvalidRow) "what" = some none
  em_InvalidRow_BridgeError : PySem.W.exmOne K (.ref ad.c_InvalidRow) (.ref ad.c_BridgeError) = some true
  em_InvalidRow_InvalidRow : PySem.W.exmOne K (.ref ad.c_InvalidRow) (.ref ad.c_InvalidRow) = some true
  kt_InvalidRow_InvalidRow : PySem.W.kitOne K (.ref ad.c_InvalidRow) (.ref ad.c_InvalidRow) = some true
  kt_InvalidRow_InvalidMap : PySem.W.kitOne K (.ref ad.c_InvalidRow) (.ref ad.c_InvalidMap) = some false
  kt_InvalidRow_ImpossibleLife : PySem.W.kitOne K (.ref ad.c_InvalidRow) (.ref ad.c_ImpossibleLife) = some false
  kt_InvalidRow_ValueError : PySem.W.kitOne K (.ref ad.c_InvalidRow) (.type "ValueError") = some true
  mc_EVENTS : ∃ u, mg "EVENTS" = some u ∧ RelV (.str "LGHRFD") u
  mc_GRIPS : mg "GRIPS" = some (.ref ad.k_GRIPS)
  tv_GRIPS : ∀ H : Hp, SqT K H ad.k_GRIPS [V.str "slot", V.str "place", V.str "pin"]
  mc_LEASES : mg "LEASES" = some (.ref ad.k_LEASES)
  tv_LEASES : ∀ H : Hp, SqT K H ad.k_LEASES [V.str "always", V.str "call"]
  mc_MODES : mg "MODES" = some (.ref ad.k_MODES)
  tv_MODES : ∀ H : Hp, SqT K H ad.k_MODES [V.str "held", V.str "copied", V.str "refused"]
  mc_MOST_CHANGE : ∃ u, mg "MOST_CHANGE" = some u ∧ RelV (.int 3) u
  mc_MOST_MARKS : ∃ u, mg "MOST_MARKS" = some u ∧ RelV (.int 4) u
  mc_SHARINGS : mg "SHARINGS" = some (.ref ad.k_SHARINGS)
  tv_SHARINGS : ∀ H : Hp, SqT K H ad.k_SHARINGS [V.str "one", V.str "each"]
  mc_STILL : mg "STILL" = some (.ref ad.k_STILL)
  tv_STILL : ∀ H : Hp, Dp K H (.ref ad.k_STILL) (.tuple [(.tuple [(.int (0)), (.int (0))]), (.tuple [(.int (0)), (.int (0))]), (.tuple [(.int (0)), (.int (0))]), (.tuple [(.int (0)), (.int (0))]), (.tuple [(.int (0)), (.int (0))]), (.tuple [(.int (0)), (.int (0))])])
  z_ValueError : mg "ValueError" = none
  z_abs : mg "abs" = none
  z_bool : mg "bool" = none
  z_int : mg "int" = none
  z_isinstance : mg "isinstance" = none
  z_len : mg "len" = none
  z_list : mg "list" = none
  z_max : mg "max" = none
  z_range : mg "range" = none
  z_str : mg "str" = none
  z_tuple : mg "tuple" = none
/-- the fields of Row, in order -/
def fs_Row (v_mode v_sharing v_lease v_grip v_rule : V) : List (Str × V) := [("mode", v_mode), ("sharing", v_sharing), ("lease", v_lease), ("grip", v_grip), ("rule", v_rule)]
theorem lk_Row_mode (v_mode v_sharing v_lease v_grip v_rule : V) : (fs_Row v_mode v_sharing v_lease v_grip v_rule).lookup ("mode" : Str) = some v_mode := by rfl
theorem lk_Row_sharing (v_mode v_sharing v_lease v_grip v_rule : V) : (fs_Row v_mode v_sharing v_lease v_grip v_rule).lookup ("sharing" : Str) = some v_sharing := by rfl
theorem lk_Row_lease (v_mode v_sharing v_lease v_grip v_rule : V) : (fs_Row v_mode v_sharing v_lease v_grip v_rule).lookup ("lease" : Str) = some v_lease := by rfl
theorem lk_Row_grip (v_mode v_sharing v_lease v_grip v_rule : V) : (fs_Row v_mode v_sharing v_lease v_grip v_rule).lookup ("grip" : Str) = some v_grip := by rfl
theorem lk_Row_rule (v_mode v_sharing v_lease v_grip v_rule : V) : (fs_Row v_mode v_sharing v_lease v_grip v_rule).lookup ("rule" : Str) = some v_rule := by rfl
theorem pf_Row_mode (v_mode : V) : putF "mode" v_mode ([] : List (Str × V)) = [(("mode" : Str), v_mode)] := by rfl
theorem pf_Row_sharing (v_mode v_sharing : V) : putF "sharing" v_sharing ([(("mode" : Str), v_mode)] : List (Str × V)) = [(("mode" : Str), v_mode), (("sharing" : Str), v_sharing)] := by rfl
theorem pf_Row_lease (v_mode v_sharing v_lease : V) : putF "lease" v_lease ([(("mode" : Str), v_mode), (("sharing" : Str), v_sharing)] : List (Str × V)) = [(("mode" : Str), v_mode), (("sharing" : Str), v_sharing), (("lease" : Str), v_lease)] := by rfl
theorem pf_Row_grip (v_mode v_sharing v_lease v_grip : V) : putF "grip" v_grip ([(("mode" : Str), v_mode), (("sharing" : Str), v_sharing), (("lease" : Str), v_lease)] : List (Str × V)) = [(("mode" : Str), v_mode), (("sharing" : Str), v_sharing), (("lease" : Str), v_lease), (("grip" : Str), v_grip)] := by rfl
theorem pf_Row_rule (v_mode v_sharing v_lease v_grip v_rule : V) : putF "rule" v_rule ([(("mode" : Str), v_mode), (("sharing" : Str), v_sharing), (("lease" : Str), v_lease), (("grip" : Str), v_grip)] : List (Str × V)) = fs_Row v_mode v_sharing v_lease v_grip v_rule := by rfl
theorem st_Row_mode (v_mode v_sharing v_lease v_grip v_rule w : V) : putF "mode" w (fs_Row v_mode v_sharing v_lease v_grip v_rule) = fs_Row w v_sharing v_lease v_grip v_rule := by rfl
theorem st_Row_sharing (v_mode v_sharing v_lease v_grip v_rule w : V) : putF "sharing" w (fs_Row v_mode v_sharing v_lease v_grip v_rule) = fs_Row v_mode w v_lease v_grip v_rule := by rfl
theorem st_Row_lease (v_mode v_sharing v_lease v_grip v_rule w : V) : putF "lease" w (fs_Row v_mode v_sharing v_lease v_grip v_rule) = fs_Row v_mode v_sharing w v_grip v_rule := by rfl
theorem st_Row_grip (v_mode v_sharing v_lease v_grip v_rule w : V) : putF "grip" w (fs_Row v_mode v_sharing v_lease v_grip v_rule) = fs_Row v_mode v_sharing v_lease w v_rule := by rfl
theorem st_Row_rule (v_mode v_sharing v_lease v_grip v_rule w : V) : putF "rule" w (fs_Row v_mode v_sharing v_lease v_grip v_rule) = fs_Row v_mode v_sharing v_lease v_grip w := by rfl
local macro_rules | `(tactic| walk_at "lk") => `(tactic| first | exact Toy.lk_Row_mode _ _ _ _ _ | exact Toy.lk_Row_sharing _ _ _ _ _ | exact Toy.lk_Row_lease _ _ _ _ _ | exact Toy.lk_Row_grip _ _ _ _ _ | exact Toy.lk_Row_rule _ _ _ _ _)
section
variable {P : Program} {w : World} {K : PySem.W.Frag} {mg : Str → Option Value} {base : Heap}
/-! ### the deck and its draws -/
theorem ok_law_takeC {ad : Ad} (T : Txt K mg ad) : FnOk P w K mg base CX0 1 ad.a_law_take ad.d_law_take ["deck", "many"] (Dk.spTakeC) := by
  refine T.F_law_take.ok sc_law_take (fun vs H Q E h => ?_) (fun cdv A outer s H vs Q E hr h => ?_)
  · obtain ⟨l, ns, m, rfl, h1, h2, h3, k⟩ := h
    rfl
  · obtain ⟨l, ns, m, rfl, h1, h2, h3, k⟩ := h
    refine ⟨_, (pss_cons (ps_if (pt_cmpR op_eq (pe_callB (id := "len") Rd.c_len (by rfl) T.z_len (by decide +kernel) (pa_cons (pv 0) pa_nil)) pe_int (nomark _)) (pss_one (ps_ret pe_int)) pss_nil)
      (pss_one (ps_ret (pe_op op_mod (pe_callTy (T := "int") Rd.c_int (by rfl) T.z_int (by decide +kernel) (pa_cons (pe_bm0 PySem.F.plainAttrs_list PySem.F.slot_list_pop PySem.F.type_list_pop mt_pop (pv 0)) pa_nil)) (pv 1))))), ?_⟩
    try dsimp only [L2.cxOf, L2.Cx.nox, L2.Cx.wish]
    change (_ : TS) _ ([some (.ref l), some (.int m)] : St) _
    have cl_Row := T.cl_Row
    have n_Row_grip := T.n_Row_grip
    have n_Row_lease := T.n_Row_lease
    have n_Row_mode := T.n_Row_mode
    have n_Row_rule := T.n_Row_rule
    have n_Row_sharing := T.n_Row_sharing
    have hd : L2.Same H H := Same.refl H
    walk_at "rd"
    refine Rd.ifd (fun c => ?_) (fun c => ?_)
    · walk_at "rd"
      have q := k 0 ns (by omega) h3 h2
      rw [Dk.upd_id h1] at q
      exact q
    · walk_at "rd"
      have hl : (ns.map V.int).length = ns.length := List.length_map ..
      have hp : 0 < ns.length := by
        rw [hl] at c
        omega
      have hz : (ns.map V.int)[(ns.map V.int).length - 1]? = some (V.int (ns[ns.length - 1]'(by omega))) := by
        rw [hl, List.getElem?_map, List.getElem?_eq_getElem (by omega)]
        rfl
      refine Rd.pop h1 hz ?_
      walk_at "rd"
      rw [← List.map_dropLast]
      exact k _ _ (Int.emod_nonneg _ (by omega)) (Int.emod_lt_of_pos _ h3) (by rw [List.length_dropLast]; omega)
theorem ok_law_take {ad : Ad} (T : Txt K mg ad) : FnOk P w K mg base CX0 1 ad.a_law_take ad.d_law_take ["deck", "many"] Dk.spTake := Dk.ok_take (ok_law_takeC T)
theorem ok_law_deckC {ad : Ad} (T : Txt K mg ad) : FnOk P w K mg base CX0 1 ad.a_law_deck ad.d_law_deck ["script", "cells", "each"] (Dk.spDeckC K) := by
  refine T.F_law_deck.ok sc_law_deck (fun vs H Q E h => ?_) (fun cdv A outer s H vs Q E hr h => ?_)
  · obtain ⟨a, ns, c, e, rfl, hS, hn, hc0, he0, hc1, he1, k⟩ := h
    rfl
  · obtain ⟨a, ns, c, e, rfl, hS, hn, hc0, he0, hc1, he1, k⟩ := h
    refine ⟨_, (pss_cons (ps_set (i := 3) sc_law_deck.nd rfl (Or.inl rfl) (pe_lst pa_nil))
      (pss_cons (ps_set (i := 4) sc_law_deck.nd rfl (Or.inl rfl) (pe_op op_add pe_int (pe_callB (id := "len") Rd.c_len (by rfl) T.z_len (by decide +kernel) (pa_cons (pv 0) pa_nil))))
      (pss_cons (ps_for PassesOwn.never rfl (pi_range1 rfl T.z_range (pa_cons (pv 1) pa_nil)) (pg_name (i := 5) sc_law_deck.nd rfl (Or.inl rfl)) (pss_cons (ps_set (i := 6) sc_law_deck.nd rfl (Or.inl rfl) pe_int)
      (Evl.pss_cut (ps_if (pt_cmpR op_lt (pv 5) (pe_callB (id := "len") Rd.c_len (by rfl) T.z_len (by decide +kernel) (pa_cons (pv 0) pa_nil)) (nomark _)) (pss_one (ps_set (i := 6) sc_law_deck.nd rfl (Or.inl rfl) (pe_ix ix_list (pv 0) (pv 5) (fun _ _ => rfl)))) pss_nil)
      (pss_cons (ps_set (i := 7) sc_law_deck.nd rfl (Or.inl rfl) (pe_callB (id := "abs") Rd.c_abs (by rfl) T.z_abs (by decide +kernel) (pa_cons (pv 6) pa_nil)))
      (pss_one (ps_if (pt_cmpR op_ge (pv 7) (pe_op op_pow pe_int pe_int) (nomark _)) (pss_one (ps_for PassesOwn.never rfl (pi_range1 rfl T.z_range (pa_cons (pv 2) pa_nil)) (pg_name (i := 8) sc_law_deck.nd rfl (Or.inl rfl)) (pss_cons (ps_expr (pe_bm PySem.F.plainAttrs_list PySem.F.slot_list_append PySem.F.type_list_append mt_append (pv 3) (pa_cons (pe_op op_mod (pe_callTy (T := "int") Rd.c_int (by rfl) T.z_int (by decide +kernel) (pa_cons (pv 7) pa_nil)) pe_int) pa_nil)))
      (pss_one (ps_set (i := 7) sc_law_deck.nd rfl (Or.inl rfl) (pe_op op_fdiv (pv 7) pe_int)))))) (pss_cons (ps_set (i := 4) sc_law_deck.nd rfl (Or.inl rfl) (pe_op op_mod (pe_callTy (T := "int") Rd.c_int (by rfl) T.z_int (by decide +kernel) (pa_cons (pe_op op_add (pe_op op_add (pe_op op_add (pe_op op_mul (pv 4) pe_int) (pe_op op_mul pe_int (pv 7))) (pe_callTy (T := "int") Rd.c_int (by rfl) T.z_int (by decide +kernel) (pa_cons (pe_cmpR op_lt (pv 6) pe_int (nomark _)) pa_nil))) (pv 5)) pa_nil)) pe_int))
      (pss_one (ps_for PassesOwn.never rfl (pi_range1 rfl T.z_range (pa_cons (pv 2) pa_nil)) (pg_name (i := 8) sc_law_deck.nd rfl (Or.inl rfl)) (pss_cons (ps_set (i := 4) sc_law_deck.nd rfl (Or.inl rfl) (pe_op op_mod (pe_callTy (T := "int") Rd.c_int (by rfl) T.z_int (by decide +kernel) (pa_cons (pe_op op_add (pe_op op_add (pe_op op_mul (pv 4) pe_int) (pv 8)) pe_int) pa_nil)) pe_int))
      (pss_one (ps_expr (pe_bm PySem.F.plainAttrs_list PySem.F.slot_list_append PySem.F.type_list_append mt_append (pv 3) (pa_cons (pe_op op_mod (pe_callTy (T := "int") Rd.c_int (by rfl) T.z_int (by decide +kernel) (pa_cons (pe_op op_fdiv (pv 4) pe_int) pa_nil)) pe_int) pa_nil))))))))))))))
      (pss_cons (ps_expr (pe_bm0 PySem.F.plainAttrs_list PySem.F.slot_list_reverse PySem.F.type_list_reverse mt_reverse (pv 3)))
      (pss_one (ps_ret (pv 3))))))), ?_⟩
    try dsimp only [L2.cxOf, L2.Cx.nox, L2.Cx.wish]
    change (_ : TS) _ ([some (.ref a), some (.int c), some (.int e), none, none, none, none, none, none] : St) _
    have cl_Row := T.cl_Row
    have n_Row_grip := T.n_Row_grip
    have n_Row_lease := T.n_Row_lease
    have n_Row_mode := T.n_Row_mode
    have n_Row_rule := T.n_Row_rule
    have n_Row_sharing := T.n_Row_sharing
    walk_at "rd"
    refine Rd.xlstU rfl fun l hl => ?_
    have hS1 : SqL K (upd H l (.lst [])) a (ns.map V.int) := Evl.ex_l (Evl.Ex.new hl) hS
    walk_at "rd"
    refine Rd.xfr1 ⟨by omega, by omega⟩ (fun i σ H' => ∃ (ms : List Int) (sd : Int) (v5 v6 v7 v8 : Option V), σ = [some (.ref a), some (.int c), some (.int e), some (.ref l), some (.int sd), v5, v6, v7, v8] ∧ H' = upd H l (.lst (ms.map V.int)) ∧ ms.length ≤ i * 64)
      ⟨[], _, none, none, none, none, rfl, rfl, Nat.zero_le _⟩ ?_ ?_
    · rintro i σ H' hi ⟨ms, sd, v5, v6, v7, v8, rfl, rfl, hm⟩
      have hS2 : SqL K (upd H l (.lst (ms.map V.int))) a (ns.map V.int) := Evl.ex_l (Evl.Ex.new hl) hS
      walk_at "rd"
      refine ⟨fun σ H' => ∃ cell : Int, σ = [some (.ref a), some (.int c), some (.int e), some (.ref l), some (.int sd), some (.int i), some (.int cell), v7, v8] ∧ H' = upd H l (.lst (ms.map V.int)), ?_, ?_⟩
      · walk_at "rd"
        refine Rd.ifd (fun h1 => ?_) (fun h1 => ?_)
        · walk_at "rd"
          rw [List.length_map] at h1
          refine Rd.ixL hS2 (atI_nat (j := i) (v := V.int (ns[i]'(by omega))) (by rw [List.getElem?_map, List.getElem?_eq_getElem (by omega)]; rfl)) ?_
          walk_at "rd"
          exact ⟨_, rfl, rfl⟩
        · walk_at "rd"
          exact ⟨_, rfl, rfl⟩
      · rintro σ H' ⟨cell, rfl, rfl⟩
        walk_at "rd"
        generalize hrest : (if cell < 0 then -cell else cell) = rest0
        refine Rd.ifd (fun h1 => ?_) (fun h1 => ?_)
        · walk_at "rd"
          refine Rd.xfr1 ⟨by omega, by omega⟩ (fun j σ H' => ∃ (ms' : List Int) (rest : Int) (v8 : Option V), σ = [some (.ref a), some (.int c), some (.int e), some (.ref l), some (.int sd), some (.int i), some (.int cell), some (.int rest), v8] ∧ H' = upd H l (.lst (ms'.map V.int)) ∧ ms'.length ≤ i * 64 + j)
            ⟨ms, _, _, rfl, rfl, hm⟩ ?_ ?_
          · rintro j σ H' hj ⟨ms', rest, v8, rfl, rfl, hm'⟩
            walk_at "rd"
            refine Rd.append upd_same (by rw [List.length_map]; omega) ?_
            walk_at "rd"
            exact ⟨ms' ++ [rest % 1000003], rest / 1000003, _, rfl, by rw [upd_upd, List.map_append]; rfl, by rw [List.length_append]; simp; omega⟩
          · rintro σ H' ⟨ms', rest, v8, rfl, rfl, hm'⟩
            exact ⟨ms', sd, _, _, _, _, rfl, rfl, by omega⟩
        · walk_at "rd"
          refine Rd.xfr1 ⟨by omega, by omega⟩ (fun j σ H' => ∃ (ms' : List Int) (sd : Int) (v8 : Option V), σ = [some (.ref a), some (.int c), some (.int e), some (.ref l), some (.int sd), some (.int i), some (.int cell), some (.int rest0), v8] ∧ H' = upd H l (.lst (ms'.map V.int)) ∧ ms'.length ≤ i * 64 + j)
            ⟨ms, _, _, rfl, rfl, hm⟩ ?_ ?_
          · rintro j σ H' hj ⟨ms', sd, v8, rfl, rfl, hm'⟩
            walk_at "rd"
            refine Rd.append upd_same (by rw [List.length_map]; omega) ?_
            walk_at "rd"
            exact ⟨ms' ++ [_], _, _, rfl, by rw [upd_upd, List.map_append]; rfl, by rw [List.length_append]; simp; omega⟩
          · rintro σ H' ⟨ms', sd, v8, rfl, rfl, hm'⟩
            exact ⟨ms', sd, _, _, _, _, rfl, rfl, by omega⟩
    · rintro σ H' ⟨ms, sd, v5, v6, v7, v8, rfl, rfl, hm⟩
      walk_at "rd"
      refine Rd.reverse upd_same ?_
      walk_at "rd"
      rw [upd_upd, ← List.map_reverse]
      exact k l ms.reverse _ hl rfl (by rw [List.length_reverse]; have := Int.toNat_of_nonneg hc0; omega)
theorem ok_law_deck {ad : Ad} (T : Txt K mg ad) : FnOk P w K mg base CX0 1 ad.a_law_deck ad.d_law_deck ["script", "cells", "each"] (Dk.spDeck K) := Dk.ok_deck (ok_law_deckC T)

/-! ### rules and rows -/
abbrev Rule := List (List (Int × Int))
def pairD (p : Int × Int) : PyData := .tuple [.int p.1, .int p.2]
def markL (m : List (Int × Int)) : PyData := .list (m.map pairD)
def markT (m : List (Int × Int)) : PyData := .tuple (m.map pairD)
def ruleL (R : Rule) : PyData := .list (R.map markL)
def ruleT (R : Rule) : PyData := .tuple (R.map markT)
theorem noL_pair (p : Int × Int) : Dt.noL (pairD p) = true := by simp [pairD, Dt.noL]
theorem noL_markT (m : List (Int × Int)) : Dt.noL (markT m) = true := by
  unfold markT Dt.noL
  rw [List.all_eq_true]
  rintro ⟨d, hd⟩ _
  obtain ⟨p, _, rfl⟩ := List.mem_map.mp hd
  exact noL_pair p
theorem noL_ruleT (R : Rule) : Dt.noL (ruleT R) = true := by
  unfold ruleT Dt.noL
  rw [List.all_eq_true]
  rintro ⟨d, hd⟩ _
  obtain ⟨p, _, rfl⟩ := List.mem_map.mp hd
  exact noL_markT p
theorem pair_inv {K : PySem.W.Frag} {H : Hp} {v : V} {p : Int × Int} (h : Dp K H v (pairD p)) : ∃ q, v = .ref q ∧ SqT K H q [.int p.1, .int p.2] := by
  obtain ⟨q, xs, e, hs, hA⟩ := Dt.inv_t h
  refine ⟨q, e, ?_⟩
  cases hA with
  | cons h1 hA => cases h1; cases hA with
    | cons h1 hA => cases h1; cases hA; exact hs
def markB (n : Int) (m : List (Int × Int)) : Bool := decide (m.length = 6) && m.all fun p => decide (0 ≤ p.1) && decide (p.1 < n) && decide (p.2.natAbs ≤ 3)
def ruleB (R : Rule) : Bool := decide (1 ≤ R.length) && decide (R.length ≤ 4) && R.all (markB R.length)
/-- what is drawn as a rule -/
def WF (R : Rule) : Prop := 1 ≤ R.length ∧ R.length ≤ 4 ∧ ∀ m ∈ R, m.length = 6 ∧ ∀ p ∈ m, 0 ≤ p.1 ∧ p.1 < R.length ∧ -3 ≤ p.2 ∧ p.2 ≤ 3
theorem wf_ruleB {R : Rule} (h : WF R) : ruleB R = true := by
  obtain ⟨h1, h2, h3⟩ := h
  unfold ruleB
  rw [decide_eq_true h1, decide_eq_true h2, Bool.true_and, Bool.true_and, List.all_eq_true]
  intro m hm
  obtain ⟨h4, h5⟩ := h3 m hm
  unfold markB
  rw [decide_eq_true h4, Bool.true_and, List.all_eq_true]
  intro p hp
  obtain ⟨h6, h7, h8, h9⟩ := h5 p hp
  rw [decide_eq_true h6, decide_eq_true h7, decide_eq_true (by omega)]
  rfl
theorem mem_get {α : Type} {l : List α} {i : Nat} {x : α} (h : l[i]? = some x) : x ∈ l := List.mem_of_getElem? h
theorem mapA {K : PySem.W.Frag} {H : Hp} {α : Type} {f : α → PyData} {vs : List V} {ms : List α} {i : Nat} {v : V} (h : DpAll K H vs (ms.map f)) (hi : vs[i]? = some v) : ∃ m, ms[i]? = some m ∧ Dp K H v (f m) := by
  obtain ⟨d, hd, hv⟩ := Dt.getA1 h hi
  rw [List.getElem?_map] at hd
  cases e : ms[i]? with
  | none => rw [e] at hd; cases hd
  | some m => rw [e] at hd; cases hd; exact ⟨m, rfl, hv⟩
theorem mapA2 {K : PySem.W.Frag} {H : Hp} {α : Type} {f : α → PyData} {vs : List V} {ms : List α} {i : Nat} {m : α} (h : DpAll K H vs (ms.map f)) (hi : ms[i]? = some m) : ∃ v, vs[i]? = some v ∧ Dp K H v (f m) :=
  Dt.getA2 h (by rw [List.getElem?_map, hi]; rfl)
theorem lenMap {K : PySem.W.Frag} {H : Hp} {α : Type} {f : α → PyData} {vs : List V} {ms : List α} (h : DpAll K H vs (ms.map f)) : vs.length = ms.length := by rw [Dt.lenA h, List.length_map]
def spMark (K : PySem.W.Frag) : Sp := fun vs H Q _ => ∃ (a : Addr) (m : List (Int × Int)) (n : Int), vs = [.ref a, .int n] ∧ Dp K H (.ref a) (markT m) ∧ Q (.bl (markB n m)) H
theorem ok_is_mark {ad : Ad} (T : Txt K mg ad) : FnOk P w K mg base CX0 1 ad.a_is_mark ad.d_is_mark ["mark", "marks"] (spMark K) := by
  refine T.F_is_mark.ok sc_is_mark (fun vs H Q E h => ?_) (fun cdv A outer s H vs Q E hr h => ?_)
  · obtain ⟨a, m, n, rfl, hm, k⟩ := h
    rfl
  · obtain ⟨a, m, n, rfl, hm, k⟩ := h
    refine ⟨_, (pss_cons (ps_if (pt_cmpR op_ne (pe_callB (id := "len") Rd.c_len (by rfl) T.z_len (by decide +kernel) (pa_cons (pv 0) pa_nil)) (pe_callB (id := "len") Rd.c_lenS (by rfl) T.z_len (by decide +kernel) (pa_cons (C8.pe_gc (v := .str "LGHRFD") rfl T.mc_EVENTS) pa_nil)) (nomark _)) (pss_one (ps_ret pe_bl)) pss_nil)
      (pss_cons (ps_for PassesOwn.never rfl (pi_tup (pv 0)) (pg_tup rfl (pgs_cons (pg_name (i := 2) sc_is_mark.nd rfl (Or.inl rfl)) (pgs_cons (pg_name (i := 3) sc_is_mark.nd rfl (Or.inl rfl)) pgs_nil))) (pss_one (ps_if (PW.pt (pw_or (pt_not (pt_chain op_le op_lt pe_int (pv 2) (pv 1))) (pw_or1 (pt_cmpR op_gt (pe_callB (id := "abs") Rd.c_abs (by rfl) T.z_abs (by decide +kernel) (pa_cons (pv 3) pa_nil)) (C8.pe_gc (v := .int 3) rfl T.mc_MOST_CHANGE) (nomark _))))) (pss_one (ps_ret pe_bl)) pss_nil)))
      (pss_one (ps_ret pe_bl)))), ?_⟩
    try dsimp only [L2.cxOf, L2.Cx.nox, L2.Cx.wish]
    change (_ : TS) _ ([some (.ref a), some (.int n), none, none] : St) _
    obtain ⟨a', vs, e, hs, hA⟩ := Dt.inv_t hm
    cases e
    have hl := lenMap hA
    walk_at "rd"
    refine Rd.lenSL (n := 6) rfl (by decide) ?_
    walk_at "rd"
    refine Rd.ifNd (fun c => ?_) (fun c => ?_)
    · walk_at "rd"
      have e : markB n m = false := by unfold markB; rw [decide_eq_false (by omega)]; rfl
      rw [e] at k
      exact k
    · walk_at "rd"
      have h6 : m.length = 6 := by omega
      refine Rd.xft hs (fun i σ H' => ∃ v2 v3, σ = [some (.ref a), some (.int n), v2, v3] ∧ H' = H ∧ (m.take i).all (fun p => decide (0 ≤ p.1) && decide (p.1 < n) && decide (p.2.natAbs ≤ 3)) = true) ⟨_, _, rfl, rfl, rfl⟩ (fun i σ H' _ ⟨_, _, _, e, _⟩ => by rw [e]; exact hs) ?_ ?_
      · rintro i y σ Hc hi ⟨v2, v3, rfl, rfl, hal⟩
        obtain ⟨p, hp, hv⟩ := mapA hA hi
        obtain ⟨q, rfl, hq⟩ := pair_inv hv
        have bad : ¬ (0 ≤ p.1 ∧ p.1 < n ∧ p.2.natAbs ≤ 3) → markB n m = false := fun hb => by
          unfold markB
          rw [Bool.and_eq_false_iff]
          right
          rw [List.all_eq_false]
          refine ⟨p, mem_get hp, ?_⟩
          simp
          omega
        have good : 0 ≤ p.1 ∧ p.1 < n ∧ p.2.natAbs ≤ 3 → (m.take (i + 1)).all (fun p => decide (0 ≤ p.1) && decide (p.1 < n) && decide (p.2.natAbs ≤ 3)) = true := fun ⟨g1, g2, g3⟩ => by
          rw [List.take_add_one, hp, List.all_append, hal]
          simp [g1, g2, g3]
        walk_at "rd"
        refine Rd.ifd (fun c1 => ?_) (fun c1 => ?_)
        · walk_at "rd"
          refine Rd.ifNd (fun c2 => ?_) (fun c2 => ?_)
          · walk_at "rd"
            rw [bad (by omega)] at k
            exact k
          · walk_at "rd"
            refine Rd.ifd (fun c3 => ?_) (fun c3 => ?_)
            · walk_at "rd"
              rw [bad (by omega)] at k
              exact k
            · walk_at "rd"
              exact ⟨_, _, rfl, rfl, good (by omega)⟩
        · walk_at "rd"
          rw [bad (by omega)] at k
          exact k
      · rintro σ Hc ⟨v2, v3, rfl, rfl, hal⟩
        walk_at "rd"
        have e : markB n m = true := by
          unfold markB
          rw [decide_eq_true h6, Bool.true_and]
          rw [hl, List.take_length] at hal
          exact hal
        rw [e] at k
        exact k
def spRule (K : PySem.W.Frag) : Sp := fun vs H Q _ => ∃ (a : Addr) (R : Rule), vs = [.ref a] ∧ Dp K H (.ref a) (.list (R.map markT)) ∧ Q (.bl (ruleB R)) H
theorem ok_is_rule {ad : Ad} (T : Txt K mg ad) : FnOk P w K mg base CX0 2 ad.a_is_rule ad.d_is_rule ["rule"] (spRule K) := by
  refine T.F_is_rule.ok sc_is_rule (fun vs H Q E h => ?_) (fun cdv A outer s H vs Q E hr h => ?_)
  · obtain ⟨a, R, rfl, hR, k⟩ := h
    rfl
  · obtain ⟨a, R, rfl, hR, k⟩ := h
    refine ⟨_, (pss_cons (ps_if (pt_not (pt_chain op_le op_le pe_int (pe_callB (id := "len") Rd.c_len (by rfl) T.z_len (by decide +kernel) (pa_cons (pv 0) pa_nil)) (C8.pe_gc (v := .int 4) rfl T.mc_MOST_MARKS))) (pss_one (ps_ret pe_bl)) pss_nil)
      (pss_cons (ps_for PassesOwn.never rfl (pi_list (pv 0)) (pg_name (i := 1) sc_is_rule.nd rfl (Or.inl rfl)) (pss_one (ps_if (pt_not (pt_val (pe_call (ok_is_mark T) (hr.mono (by decide)) rfl T.m_is_mark T.F_is_mark.kp T.b_is_mark .nil pass0 (pa_cons (pv 1) (pa_cons (pe_callB (id := "len") Rd.c_len (by rfl) T.z_len (by decide +kernel) (pa_cons (pv 0) pa_nil)) pa_nil))))) (pss_one (ps_ret pe_bl)) pss_nil)))
      (pss_one (ps_ret pe_bl)))), ?_⟩
    try dsimp only [L2.cxOf, L2.Cx.nox, L2.Cx.wish]
    change (_ : TS) _ ([some (.ref a), none] : St) _
    obtain ⟨a', vs, e, hs, hA⟩ := Dt.inv_l hR
    cases e
    have hl := lenMap hA
    obtain ⟨u, hu, ru⟩ := T.mc_MOST_MARKS
    walk_at "rd"
    refine Rd.ifd (fun c1 => ?_) (fun c1 => ?_)
    · walk_at "rd"
      refine Rd.ifNd (fun c2 => ?_) (fun c2 => ?_)
      · walk_at "rd"
        have e : ruleB R = false := by unfold ruleB; rw [decide_eq_false (p := R.length ≤ 4) (by omega)]; simp
        rw [e] at k
        exact k
      · walk_at "rd"
        refine Rd.xfl hs (fun i σ H' => ∃ v1, σ = [some (.ref a), v1] ∧ H' = H ∧ (R.take i).all (markB R.length) = true) ⟨_, rfl, rfl, rfl⟩ (fun i σ H' _ ⟨_, _, e, _⟩ => by rw [e]; exact hs) ?_ ?_
        · rintro i y σ Hc hi ⟨v1, rfl, rfl, hal⟩
          obtain ⟨m, hm, hv⟩ := mapA hA hi
          obtain ⟨am, vm, rfl, hsm, hAm⟩ := Dt.inv_t hv
          walk_at "rd"
          refine ⟨am, m, (vs.length : Int), rfl, hv, ?_⟩
          rw [hl]
          walk_at "rd"
          cases hb : markB R.length m with
          | false =>
            walk_at "rd"
            have e : ruleB R = false := by
              unfold ruleB
              rw [Bool.and_eq_false_iff]
              right
              rw [List.all_eq_false]
              exact ⟨m, mem_get hm, by rw [hb]; decide⟩
            rw [e] at k
            exact k
          | true =>
            walk_at "rd"
            refine ⟨_, rfl, rfl, ?_⟩
            rw [List.take_add_one, hm, List.all_append, hal]
            simp [hb]
        · rintro σ Hc ⟨v1, rfl, rfl, hal⟩
          walk_at "rd"
          have e : ruleB R = true := by
            unfold ruleB
            rw [decide_eq_true (p := 1 ≤ R.length) (by omega), decide_eq_true (p := R.length ≤ 4) (by omega), Bool.true_and, Bool.true_and]
            rw [hl, List.take_length] at hal
            exact hal
          rw [e] at k
          exact k
    · walk_at "rd"
      have e : ruleB R = false := by unfold ruleB; rw [decide_eq_false (p := 1 ≤ R.length) (by omega)]; rfl
      rw [e] at k
      exact k
def still6 : List (Int × Int) := [(0, 0), (0, 0), (0, 0), (0, 0), (0, 0), (0, 0)]
/-- the parts of a row, in order -/
def RowOk (mo sh le gr : Str) (R : Rule) : Prop := ruleB R = true ∧ ((mo = "held" ∧ (sh = "one" ∨ sh = "each") ∧ (le = "always" ∨ le = "call") ∧ (gr = "slot" ∨ gr = "place" ∨ gr = "pin")) ∨ ((mo = "copied" ∨ mo = "refused") ∧ sh = "one" ∧ le = "always" ∧ gr = "slot" ∧ R = [still6]))
def Marks (ds : List PyData) (R : Rule) : Prop := ds = R.map markL ∨ ds = R.map markT
theorem marks_len {ds : List PyData} {R : Rule} (h : Marks ds R) : ds.length = R.length := by rcases h with rfl | rfl <;> rw [List.length_map]
theorem marks_get {K : PySem.W.Frag} {H : Hp} {vs : List V} {ds : List PyData} {R : Rule} {i : Nat} {v : V} (h : Marks ds R) (hA : DpAll K H vs ds) (hi : vs[i]? = some v) : ∃ m am vm, R[i]? = some m ∧ v = .ref am ∧ (SqL K H am vm ∨ SqT K H am vm) ∧ DpAll K H vm (m.map pairD) := by
  rcases h with rfl | rfl
  · obtain ⟨m, hm, hv⟩ := mapA hA hi
    obtain ⟨am, vm, e, hs, hd⟩ := Dt.inv_l hv
    exact ⟨m, am, vm, hm, e, .inl hs, hd⟩
  · obtain ⟨m, hm, hv⟩ := mapA hA hi
    obtain ⟨am, vm, e, hs, hd⟩ := Dt.inv_t hv
    exact ⟨m, am, vm, hm, e, .inr hs, hd⟩
/-- a row at r -/
def RowAt (K : PySem.W.Frag) (C : Addr) (H : Hp) (r : Addr) (mo sh le gr : Str) (R : Rule) : Prop := ∃ dx tr, H r = some (.ins C dx (fs_Row (.str mo) (.str sh) (.str le) (.str gr) (.ref tr))) ∧ Dp K H (.ref tr) (ruleT R)
theorem RowAt.mono {K : PySem.W.Frag} {C : Addr} {H H' : Hp} {r : Addr} {mo sh le gr : Str} {R : Rule} (h : RowAt K C H r mo sh le gr R) (e : Evl.Ex H H') : RowAt K C H' r mo sh le gr R := by
  obtain ⟨dx, tr, h1, h2⟩ := h
  exact ⟨dx, tr, e _ _ h1, Dt.mn h2 e⟩

/-! ### rules are equal as data exactly if they are the same -/
theorem eqv_pair (p q : Int × Int) : PyData.eqv (pairD p) (pairD q) = decide (p = q) := by
  unfold pairD
  simp only [PyData.eqv, PyData.eqvAll, Bool.and_true]
  cases p; cases q
  simp only [Prod.mk.injEq, Bool.decide_and]
  rfl
theorem eqv_pairs : ∀ m n : List (Int × Int), PyData.eqvAll (m.map pairD) (n.map pairD) = decide (m = n)
  | [], [] => by simp [PyData.eqvAll]
  | [], _ :: _ => by simp [PyData.eqvAll]
  | _ :: _, [] => by simp [PyData.eqvAll]
  | p :: m, q :: n => by
    simp only [List.map_cons, PyData.eqvAll, eqv_pair, eqv_pairs m n, List.cons.injEq, Bool.decide_and]
theorem eqv_markT (m n : List (Int × Int)) : PyData.eqv (markT m) (markT n) = decide (m = n) := by
  unfold markT
  simp only [PyData.eqv, eqv_pairs]
theorem eqv_markL (m n : List (Int × Int)) : PyData.eqv (markL m) (markL n) = decide (m = n) := by
  unfold markL
  simp only [PyData.eqv, eqv_pairs]
theorem eqv_marksT : ∀ R S : Rule, PyData.eqvAll (R.map markT) (S.map markT) = decide (R = S)
  | [], [] => by simp [PyData.eqvAll]
  | [], _ :: _ => by simp [PyData.eqvAll]
  | _ :: _, [] => by simp [PyData.eqvAll]
  | p :: m, q :: n => by simp only [List.map_cons, PyData.eqvAll, eqv_markT, eqv_marksT m n, List.cons.injEq, Bool.decide_and]
theorem eqv_marksL : ∀ R S : Rule, PyData.eqvAll (R.map markL) (S.map markL) = decide (R = S)
  | [], [] => by simp [PyData.eqvAll]
  | [], _ :: _ => by simp [PyData.eqvAll]
  | _ :: _, [] => by simp [PyData.eqvAll]
  | p :: m, q :: n => by simp only [List.map_cons, PyData.eqvAll, eqv_markL, eqv_marksL m n, List.cons.injEq, Bool.decide_and]
theorem lay_pairs : ∀ m : List (Int × Int), PyData.canLayAll0 (m.map pairD) = true
  | [] => by simp [PyData.canLayAll0]
  | p :: m => by simp [PyData.canLayAll0, pairD, PyData.canLay0, lay_pairs m]
theorem dep_pairs : ∀ m : List (Int × Int), PyData.depthAll (m.map pairD) ≤ 2
  | [] => by simp [PyData.depthAll]
  | p :: m => by
    have := dep_pairs m
    simp [PyData.depthAll, pairD, PyData.depth]
    omega
theorem lay_marksL : ∀ R : Rule, PyData.canLayAll0 (R.map markL) = true
  | [] => by simp [PyData.canLayAll0]
  | p :: m => by simp [PyData.canLayAll0, markL, PyData.canLay0, lay_pairs p, lay_marksL m]
theorem lay_marksT : ∀ R : Rule, PyData.canLayAll0 (R.map markT) = true
  | [] => by simp [PyData.canLayAll0]
  | p :: m => by simp [PyData.canLayAll0, markT, PyData.canLay0, lay_pairs p, lay_marksT m]
theorem dep_marksL : ∀ R : Rule, PyData.depthAll (R.map markL) ≤ 4
  | [] => by simp [PyData.depthAll]
  | p :: m => by
    have h1 := dep_marksL m
    have h2 := dep_pairs p
    simp [PyData.depthAll, markL, PyData.depth]
    omega
theorem dep_marksT : ∀ R : Rule, PyData.depthAll (R.map markT) ≤ 4
  | [] => by simp [PyData.depthAll]
  | p :: m => by
    have h1 := dep_marksT m
    have h2 := dep_pairs p
    simp [PyData.depthAll, markT, PyData.depth]
    omega
theorem shp_ruleL (R : Rule) : SeqAt.shaped (ruleL R) = true := by
  have h := dep_marksL R
  unfold SeqAt.shaped ruleL
  rw [Bool.and_eq_true]
  exact ⟨by simp [PyData.canLay0, lay_marksL], decide_eq_true (by simp only [PyData.depth]; omega)⟩
theorem shp_marksT (R : Rule) : SeqAt.shaped (.list (R.map markT)) = true := by
  have h := dep_marksT R
  unfold SeqAt.shaped
  rw [Bool.and_eq_true]
  exact ⟨by simp [PyData.canLay0, lay_marksT], decide_eq_true (by simp only [PyData.depth]; omega)⟩
theorem shp_pair (p : Int × Int) : SeqAt.shaped (pairD p) = true := by
  simp [SeqAt.shaped, pairD, PyData.canLay0, PyData.canLayAll0, PyData.depth, PyData.depthAll]
/-! ### the first part of a row that is not in order -/
theorem inV_two (s a b : Str) : inV (.str s) [V.str a, V.str b] = (decide (s = a) || decide (s = b)) := by
  have e : ∀ c : Str, eqV (V.str c) (.str s) = decide (s = c) := fun c => by
    by_cases h : s = c
    · rw [decide_eq_true h, h]; simp [eqV]
    · rw [decide_eq_false h]; simp [eqV]; exact fun z => h z.symm
  simp only [inV, List.any_cons, List.any_nil, Bool.or_false, e]
theorem inV_three (s a b c : Str) : inV (.str s) [V.str a, V.str b, V.str c] = (decide (s = a) || (decide (s = b) || decide (s = c))) := by
  have e : ∀ c : Str, eqV (V.str c) (.str s) = decide (s = c) := fun c => by
    by_cases h : s = c
    · rw [decide_eq_true h, h]; simp [eqV]
    · rw [decide_eq_false h]; simp [eqV]; exact fun z => h z.symm
  simp only [inV, List.any_cons, List.any_nil, Bool.or_false, e]
def M1 (mo : Str) : Prop := mo = "held" ∨ mo = "copied" ∨ mo = "refused"
def M2 (mo sh : Str) : Prop := sh = "one" ∨ (sh = "each" ∧ mo = "held")
def M3 (mo le : Str) : Prop := le = "always" ∨ (le = "call" ∧ mo = "held")
def M4 (mo gr : Str) : Prop := gr = "slot" ∨ ((gr = "place" ∨ gr = "pin") ∧ mo = "held")
def M5 (mo : Str) (R : Rule) : Prop := ruleB R = true ∧ (mo = "held" ∨ R = [still6])
/-- s is the name of the first part that is not in order -/
def Wrong (mo sh le gr : Str) (R : Rule) (s : Str) : Prop :=
  (¬ M1 mo ∧ s = "mode") ∨ (M1 mo ∧ ¬ M2 mo sh ∧ s = "sharing") ∨ (M1 mo ∧ M2 mo sh ∧ ¬ M3 mo le ∧ s = "lease") ∨ (M1 mo ∧ M2 mo sh ∧ M3 mo le ∧ ¬ M4 mo gr ∧ s = "grip") ∨
  (M1 mo ∧ M2 mo sh ∧ M3 mo le ∧ M4 mo gr ∧ ¬ M5 mo R ∧ s = "rule")
def Right (mo sh le gr : Str) (R : Rule) : Prop := M1 mo ∧ M2 mo sh ∧ M3 mo le ∧ M4 mo gr ∧ M5 mo R
theorem Wrong.uniq {mo sh le gr s t : Str} {R : Rule} (h : Wrong mo sh le gr R s) (g : Wrong mo sh le gr R t) : s = t := by
  rcases h with ⟨h1, rfl⟩ | ⟨h1, h2, rfl⟩ | ⟨h1, h2, h3, rfl⟩ | ⟨h1, h2, h3, h4, rfl⟩ | ⟨h1, h2, h3, h4, h5, rfl⟩ <;>
  rcases g with ⟨g1, rfl⟩ | ⟨g1, g2, rfl⟩ | ⟨g1, g2, g3, rfl⟩ | ⟨g1, g2, g3, g4, rfl⟩ | ⟨g1, g2, g3, g4, g5, rfl⟩ <;>
  first | rfl | (exfalso; first | exact h1 g1 | exact g1 h1 | exact h2 g2 | exact g2 h2 | exact h3 g3 | exact g3 h3 | exact h4 g4 | exact g4 h4)
theorem Wrong.not {mo sh le gr s : Str} {R : Rule} (h : Wrong mo sh le gr R s) (g : Right mo sh le gr R) : False := by
  obtain ⟨g1, g2, g3, g4, g5⟩ := g
  rcases h with ⟨h1, rfl⟩ | ⟨h1, h2, rfl⟩ | ⟨h1, h2, h3, rfl⟩ | ⟨h1, h2, h3, h4, rfl⟩ | ⟨h1, h2, h3, h4, h5, rfl⟩
  · exact h1 g1
  · exact h2 g2
  · exact h3 g3
  · exact h4 g4
  · exact h5 g5
theorem Wrong.ne {mo sh le gr s : Str} {R : Rule} (h : Wrong mo sh le gr R s) : ¬ s = "" := by
  rcases h with ⟨h1, rfl⟩ | ⟨h1, h2, rfl⟩ | ⟨h1, h2, h3, rfl⟩ | ⟨h1, h2, h3, h4, rfl⟩ | ⟨h1, h2, h3, h4, h5, rfl⟩ <;> decide +kernel
theorem Wrong.len {mo sh le gr s : Str} {R : Rule} (h : Wrong mo sh le gr R s) : s.length ≤ 1000 := by
  rcases h with ⟨h1, rfl⟩ | ⟨h1, h2, rfl⟩ | ⟨h1, h2, h3, rfl⟩ | ⟨h1, h2, h3, h4, rfl⟩ | ⟨h1, h2, h3, h4, h5, rfl⟩ <;> decide +kernel

instance (mo : Str) : Decidable (M1 mo) := inferInstanceAs (Decidable (mo = "held" ∨ mo = "copied" ∨ mo = "refused"))
theorem inTwo {s a b : Str} : inV (.str s) [V.str a, V.str b] = decide (s = a ∨ s = b) := by rw [inV_two]; simp only [Bool.decide_or]
theorem inThree {s a b c : Str} : inV (.str s) [V.str a, V.str b, V.str c] = decide (s = a ∨ s = b ∨ s = c) := by rw [inV_three]; simp only [Bool.decide_or]
theorem inM1 {mo : Str} : inV (.str mo) [V.str "held", V.str "copied", V.str "refused"] = decide (M1 mo) := inThree
theorem ok_InvalidRow_init_ {ad : Ad} (T : Txt K mg ad) : FnOk P w K mg base CX0 1 ad.a_InvalidRow_init_ ad.d_InvalidRow_init_ ["self", "what"] (Rd.spEx1 ad.c_InvalidRow "what") := by
  refine T.F_InvalidRow_init_.ok sc_InvalidRow_init_ (fun vs H Q E h => ?_) (fun cdv A outer s H vs Q E hr h => ?_)
  · obtain ⟨a, s1, rfl, hs, ha, k⟩ := h
    rfl
  · obtain ⟨a, s1, rfl, hs, ha, k⟩ := h
    refine ⟨_, (pss_cons (ps_expr (pe_ovinit rfl T.mg_BridgeError T.ov_BridgeError (pa_cons (pv 0) (pa_cons (pe_op Rd.op_addS pe_str (pv 1)) pa_nil))))
      (pss_one (ps_ost (pv 0) (pv 1)))), ?_⟩
    try dsimp only [L2.cxOf, L2.Cx.nox, L2.Cx.wish]
    change (_ : TS) _ ([some (.ref a), some (.str s1)] : St) _
    have cl_Row := T.cl_Row
    have n_Row_grip := T.n_Row_grip
    have n_Row_lease := T.n_Row_lease
    have n_Row_mode := T.n_Row_mode
    have n_Row_rule := T.n_Row_rule
    have n_Row_sharing := T.n_Row_sharing
    walk_at "rd"
    refine Rd.catS (by rw [show (PySem.Str.ofString "invalid row: ").length = 13 from by rfl]; omega) ?_
    walk_at "rd"
    refine Rd.xvei T.ox_InvalidRow ha rfl ?_
    walk_at "rd"
    refine Rd.xost T.ox_InvalidRow T.nx_InvalidRow_what ha fun dx nx ne => ?_
    walk_at "rd"
    exact k dx nx ne
def spRowX (C X : Addr) (K : PySem.W.Frag) : Sp := fun vs H Q E => ∃ (x dx rl : Addr) (mo sh le gr : Str) (R : Rule) (ds : List PyData), vs = [.ref x, .str mo, .str sh, .str le, .str gr, .ref rl] ∧ H x = some (.ins C dx []) ∧ Dp K H (.ref rl) (.list ds) ∧ Marks ds R ∧ R.length ≤ 100 ∧ (∀ m ∈ R, m.length ≤ 100) ∧
  (Right mo sh le gr R → ∀ (tr : Addr) (H' : Hp), H' x = some (.ins C dx (fs_Row (.str mo) (.str sh) (.str le) (.str gr) (.ref tr))) → Dp K H' (.ref tr) (ruleT R) → (∀ b o, b ≠ x → H b = some o → H' b = some o) → Q .non H') ∧
  (∀ s d H', Wrong mo sh le gr R s → Evl.Ex H H' → H' d = some (.xd [("what", .str s)]) → E (.ref X) (some d) H')
theorem exBut2 {H H1 H2 : Hp} {x : Addr} {o : HO} (e : Evl.Ex H H1) (h : ∀ b o, b ≠ x → H1 b = some o → H2 b = some o) : ∀ b o, b ≠ x → H b = some o → H2 b = some o := fun b o hb hbo => h b o hb (e b o hbo)
theorem ok_Row_init_ {ad : Ad} (T : Txt K mg ad) : FnOk P w K mg base (L2.CX P w) 3 ad.a_Row_init_ ad.d_Row_init_ ["self", "mode", "sharing", "lease", "grip", "rule"] (spRowX ad.c_Row ad.c_InvalidRow K) := by
  refine T.F_Row_init_.okX sc_Row_init_ (fun vs H Q E h => ?_) (fun cdv A outer s H vs Q E hr h => ?_)
  · obtain ⟨x, dx, rl, mo, sh, le, gr, R, ds, rfl, hx, hR, hds, hR100, hM100, k, ke⟩ := h
    rfl
  · obtain ⟨x, dx, rl, mo, sh, le, gr, R, ds, rfl, hx, hR, hds, hR100, hM100, k, ke⟩ := h
    refine ⟨_, (Evl.pss_cut (ps_if (pt_cmpR op_notIn_seq (pv 1) (pe_glob (v := .ref ad.k_MODES) rfl T.mc_MODES rfl) (by with_unfolding_all rfl)) (pss_one (ps_raise rfl (takes_of rfl rfl rfl rfl) (pmk_oex T.ox_InvalidRow T.ix_InvalidRow T.tx_InvalidRow (ok_InvalidRow_init_ T) (hr.mono (by decide)) T.b_InvalidRow_init_ .nil pass0 rfl T.mg_InvalidRow (pa_cons pe_str pa_nil)))) pss_nil)
      (pss_cons (ps_set (i := 6) sc_Row_init_.nd rfl (Or.inl rfl) (pe_cmpR op_eq (pv 1) pe_str (nomark _)))
      (Evl.pss_cut (ps_if (PW.pt (pw_or (pt_cmpR op_notIn_seq (pv 2) (pe_glob (v := .ref ad.k_SHARINGS) rfl T.mc_SHARINGS rfl) (by with_unfolding_all rfl)) (pw_or1 (PW.pt (pw_and (pt_not (pt_val (pv 6))) (pw_and1 (pt_cmpR op_ne (pv 2) pe_str (nomark _)))))))) (pss_one (ps_raise rfl (takes_of rfl rfl rfl rfl) (pmk_oex T.ox_InvalidRow T.ix_InvalidRow T.tx_InvalidRow (ok_InvalidRow_init_ T) (hr.mono (by decide)) T.b_InvalidRow_init_ .nil pass0 rfl T.mg_InvalidRow (pa_cons pe_str pa_nil)))) pss_nil)
      (Evl.pss_cut (ps_if (PW.pt (pw_or (pt_cmpR op_notIn_seq (pv 3) (pe_glob (v := .ref ad.k_LEASES) rfl T.mc_LEASES rfl) (by with_unfolding_all rfl)) (pw_or1 (PW.pt (pw_and (pt_not (pt_val (pv 6))) (pw_and1 (pt_cmpR op_ne (pv 3) pe_str (nomark _)))))))) (pss_one (ps_raise rfl (takes_of rfl rfl rfl rfl) (pmk_oex T.ox_InvalidRow T.ix_InvalidRow T.tx_InvalidRow (ok_InvalidRow_init_ T) (hr.mono (by decide)) T.b_InvalidRow_init_ .nil pass0 rfl T.mg_InvalidRow (pa_cons pe_str pa_nil)))) pss_nil)
      (Evl.pss_cut (ps_if (PW.pt (pw_or (pt_cmpR op_notIn_seq (pv 4) (pe_glob (v := .ref ad.k_GRIPS) rfl T.mc_GRIPS rfl) (by with_unfolding_all rfl)) (pw_or1 (PW.pt (pw_and (pt_not (pt_val (pv 6))) (pw_and1 (pt_cmpR op_ne (pv 4) pe_str (nomark _)))))))) (pss_one (ps_raise rfl (takes_of rfl rfl rfl rfl) (pmk_oex T.ox_InvalidRow T.ix_InvalidRow T.tx_InvalidRow (ok_InvalidRow_init_ T) (hr.mono (by decide)) T.b_InvalidRow_init_ .nil pass0 rfl T.mg_InvalidRow (pa_cons pe_str pa_nil)))) pss_nil)
      (pss_cons (ps_set (i := 7) sc_Row_init_.nd rfl (Or.inl rfl) (pe_lst pa_nil))
      (pss_cons (ps_for (passes_of rfl) rfl (pi_list (pv 5)) (pg_name (i := 8) sc_Row_init_.nd rfl (Or.inl rfl)) (pss_one (ps_expr (pe_bm PySem.F.plainAttrs_list PySem.F.slot_list_append PySem.F.type_list_append mt_append (pv 7) (pa_cons (pe_callTy (T := "tuple") Rd.c_tup (by rfl) T.z_tuple (by decide +kernel) (pa_cons (pe_lc (own := [("pair", 9)]) (g := gName 9) (tt := tYes) rfl sc_Row_init_.nd (Rd.pi_seq (pv 8)) (blkOk_by (N := ["self", "mode", "sharing", "lease", "grip", "rule", "held", "marks", "mark", "pair"]) (sc := defScope s_Row_init_) (by decide +kernel)) (fun _ _ _ _ _ => (pg_name (i := 9) sc_Row_init_.nd rfl (Or.inl rfl))) (fun _ _ _ _ _ => pts_nil) (fun _ _ _ _ _ => (pe_callTy (T := "tuple") (Rd.c_tup : CallR _ _ (Rd.rTupOf K)) (by rfl) T.z_tuple (by decide +kernel) (pa_cons (pv 9) pa_nil)))) pa_nil)) pa_nil)))))
      (Evl.pss_cut (ps_if (PW.pt (pw_or (pt_not (pt_val (pe_call (ok_is_rule T) (hr.mono (by decide)) rfl T.m_is_rule T.F_is_rule.kp T.b_is_rule .nil pass0 (pa_cons (pv 7) pa_nil)))) (pw_or1 (PW.pt (pw_and (pt_not (pt_val (pv 6))) (pw_and1 (pt_cmpR (op_neD hr.units) (pv 7) (pe_lst (pa_cons (pe_glob (v := .ref ad.k_STILL) rfl T.mc_STILL rfl) pa_nil)) (nomark _)))))))) (pss_one (ps_raise rfl (takes_of rfl rfl rfl rfl) (pmk_oex T.ox_InvalidRow T.ix_InvalidRow T.tx_InvalidRow (ok_InvalidRow_init_ T) (hr.mono (by decide)) T.b_InvalidRow_init_ .nil pass0 rfl T.mg_InvalidRow (pa_cons pe_str pa_nil)))) pss_nil)
      (pss_cons (ps_fld (pv 0) (pv 1) rfl)
      (pss_cons (ps_fld (pv 0) (pv 2) rfl)
      (pss_cons (ps_fld (pv 0) (pv 3) rfl)
      (pss_cons (ps_fld (pv 0) (pv 4) rfl)
      (pss_one (ps_fld (pv 0) (pe_callTy (T := "tuple") Rd.c_tup (by rfl) T.z_tuple (by decide +kernel) (pa_cons (pv 7) pa_nil)) rfl)))))))))))))), ?_⟩
    try dsimp only [L2.cxOf, L2.Cx.nox, L2.Cx.wish]
    change (_ : TS) _ ([some (.ref x), some (.str mo), some (.str sh), some (.str le), some (.str gr), some (.ref rl), none, none, none, none] : St) _
    have cl_Row := T.cl_Row
    have n_Row_grip := T.n_Row_grip
    have n_Row_lease := T.n_Row_lease
    have n_Row_mode := T.n_Row_mode
    have n_Row_rule := T.n_Row_rule
    have n_Row_sharing := T.n_Row_sharing
    obtain ⟨al, vs, eal, hs, hA⟩ := Dt.inv_l hR
    cases eal
    have hl : vs.length = R.length := by rw [Dt.lenA hA, marks_len hds]
    walk_at "rd"
    refine ⟨fun σ H' => σ = [some (.ref x), some (.str mo), some (.str sh), some (.str le), some (.str gr), some (.ref rl), none, none, none, none] ∧ H' = H ∧ M1 mo, ?_, ?_⟩
    · walk_at "rd"
      refine Rd.ninT (T.tv_MODES H) rfl rfl inM1 ?_
      walk_at "rd"
      refine Rd.ifNd (fun h => ?_) (fun h => ?_)
      · walk_at "rd"
        refine Rd.xmko1 (by decide) fun d H2 n2 e2 hd => ?_
        exact ke "mode" d H2 (.inl ⟨h, rfl⟩) e2 hd
      · walk_at "rd"
        exact ⟨rfl, rfl, h⟩
    rintro σ Hc ⟨rfl, rfl, hm1⟩
    walk_at "rd"
    refine ⟨fun σ H' => σ = [some (.ref x), some (.str mo), some (.str sh), some (.str le), some (.str gr), some (.ref rl), some (.bl (decide (mo = "held"))), none, none, none] ∧ H' = Hc ∧ M2 mo sh, ?_, ?_⟩
    · walk_at "rd"
      refine Rd.ninT (T.tv_SHARINGS _) rfl rfl inTwo ?_
      walk_at "rd"
      refine Rd.ifNd (fun h => ?_) (fun h => ?_)
      · walk_at "rd"
        refine Rd.xmko1 (by decide) fun d H2 n2 e2 hd => ?_
        exact ke "sharing" d H2 (.inr (.inl ⟨hm1, fun z => h (z.elim .inl fun z => .inr z.1), rfl⟩)) e2 hd
      · by_cases hh : mo = "held"
        · walk_at "rd"
          exact ⟨rfl, rfl, h.elim .inl fun z => .inr ⟨z, hh⟩⟩
        · walk_at "rd"
          refine Rd.ifNd (fun h2 => ?_) (fun h2 => ?_)
          · walk_at "rd"
            refine Rd.xmko1 (by decide) fun d H2 n2 e2 hd => ?_
            exact ke "sharing" d H2 (.inr (.inl ⟨hm1, fun z => z.elim h2 fun z => hh z.2, rfl⟩)) e2 hd
          · walk_at "rd"
            exact ⟨rfl, rfl, .inl h2⟩
    rintro σ Hd ⟨rfl, rfl, hm2⟩
    walk_at "rd"
    refine ⟨fun σ H' => σ = [some (.ref x), some (.str mo), some (.str sh), some (.str le), some (.str gr), some (.ref rl), some (.bl (decide (mo = "held"))), none, none, none] ∧ H' = Hd ∧ M3 mo le, ?_, ?_⟩
    · walk_at "rd"
      refine Rd.ninT (T.tv_LEASES _) rfl rfl inTwo ?_
      walk_at "rd"
      refine Rd.ifNd (fun h => ?_) (fun h => ?_)
      · walk_at "rd"
        refine Rd.xmko1 (by decide) fun d H2 n2 e2 hd => ?_
        exact ke "lease" d H2 (.inr (.inr (.inl ⟨hm1, hm2, fun z => h (z.elim .inl fun z => .inr z.1), rfl⟩))) e2 hd
      · by_cases hh : mo = "held"
        · walk_at "rd"
          exact ⟨rfl, rfl, h.elim .inl fun z => .inr ⟨z, hh⟩⟩
        · walk_at "rd"
          refine Rd.ifNd (fun h2 => ?_) (fun h2 => ?_)
          · walk_at "rd"
            refine Rd.xmko1 (by decide) fun d H2 n2 e2 hd => ?_
            exact ke "lease" d H2 (.inr (.inr (.inl ⟨hm1, hm2, fun z => z.elim h2 fun z => hh z.2, rfl⟩))) e2 hd
          · walk_at "rd"
            exact ⟨rfl, rfl, .inl h2⟩
    rintro σ He ⟨rfl, rfl, hm3⟩
    walk_at "rd"
    refine ⟨fun σ H' => σ = [some (.ref x), some (.str mo), some (.str sh), some (.str le), some (.str gr), some (.ref rl), some (.bl (decide (mo = "held"))), none, none, none] ∧ H' = He ∧ M4 mo gr, ?_, ?_⟩
    · walk_at "rd"
      refine Rd.ninT (T.tv_GRIPS _) rfl rfl inThree ?_
      walk_at "rd"
      refine Rd.ifNd (fun h => ?_) (fun h => ?_)
      · walk_at "rd"
        refine Rd.xmko1 (by decide) fun d H2 n2 e2 hd => ?_
        exact ke "grip" d H2 (.inr (.inr (.inr (.inl ⟨hm1, hm2, hm3, fun z => h (z.elim .inl fun z => .inr z.1), rfl⟩)))) e2 hd
      · by_cases hh : mo = "held"
        · walk_at "rd"
          exact ⟨rfl, rfl, h.elim .inl fun z => .inr ⟨z, hh⟩⟩
        · walk_at "rd"
          refine Rd.ifNd (fun h2 => ?_) (fun h2 => ?_)
          · walk_at "rd"
            refine Rd.xmko1 (by decide) fun d H2 n2 e2 hd => ?_
            exact ke "grip" d H2 (.inr (.inr (.inr (.inl ⟨hm1, hm2, hm3, fun z => z.elim h2 fun z => hh z.2, rfl⟩)))) e2 hd
          · walk_at "rd"
            exact ⟨rfl, rfl, .inl h2⟩
    rintro σ Hf ⟨rfl, rfl, hm4⟩
    walk_at "rd"
    refine Rd.xlst rfl fun lm H1 nm e1 hlm => ?_
    walk_at "rd"
    refine Rd.xfl (K := K) (xs := vs) (Evl.ex_l e1 hs) (fun i σ H' => ∃ v8, σ = [some (.ref x), some (.str mo), some (.str sh), some (.str le), some (.str gr), some (.ref rl), some (.bl (decide (mo = "held"))), some (.ref lm), v8, none] ∧ Evl.Ex Hf H' ∧ ∃ ws, H' lm = some (.lst ws) ∧ DpAll K H' ws ((R.take i).map markT)) ⟨_, rfl, e1, [], hlm, .nil⟩ (fun i σ H' _ ⟨_, _, e, _⟩ => Evl.ex_l e hs) ?_ ?_
    · rintro i y σ H2 hi ⟨v8, rfl, e2, ws, hw, hwA⟩
      obtain ⟨m, am, vm, hm, rfl, hsm0, hAm0⟩ := marks_get hds hA hi
      have hAm := Dt.mnA hAm0 e2
      have hwl := lenMap hwA
      have hm100 : vm.length ≤ 40000 := by
        have h1 := lenMap hAm
        have h2 := hM100 m (mem_get hm)
        omega
      walk_at "rd"
      have hel : ∀ (j : Nat) (z : V) (Hz : Hp), Evl.Ex H2 Hz → vm[j]? = some z → ∀ H4, Evl.Ex Hz H4 → ∃ q, z = .ref q ∧ vm.getD j .non = .ref q ∧ ∃ a b, SqT K H4 q [.int a, .int b] := by
        intro j z Hz ez hz H4 e4
        obtain ⟨p, hp, hpv⟩ := mapA hAm hz
        obtain ⟨q, rfl, hq⟩ := pair_inv hpv
        exact ⟨q, rfl, by rw [List.getD_eq_getElem?_getD, hz]; rfl, _, _, Evl.ex_t (ez.trans e4) hq⟩
      have hgv : Evl.given vm.length (fun _ => true) (fun j => vm.getD j .non) = vm := by
        rw [Rd.given_all]
        refine List.ext_getElem? fun j => ?_
        rw [List.getElem?_map]
        by_cases hj : j < vm.length
        · rw [List.getElem?_range hj, Option.map_some, List.getD_eq_getElem?_getD, List.getElem?_eq_getElem hj]; rfl
        · rw [List.getElem?_eq_none (by rw [List.length_range]; omega), List.getElem?_eq_none (by omega)]; rfl
      rcases hsm0 with hsm0 | hsm0
      · refine Rd.lcQL ?_
        walk_at "rd"
        refine Rd.xlcL (xs := vm) (fun _ => true) (fun j => vm.getD j .non) (Evl.ex_l e2 hsm0) hm100 (fun _ => rfl) (fun _ _ _ _ _ => Rd.evYes) (fun j z Hz ez hz _ H4 e4 Q4 q4 => ?_) fun lc H3 nc e3 hc => ?_
        · obtain ⟨q, rfl, hgd, a, b, hq4⟩ := hel j z Hz ez hz H4 e4
          walk_at "rd"
          rw [hgd] at q4
          exact q4 _ (Evl.Ex.refl _)
        rw [hgv] at hc
        walk_at "rd"
        intro lt H4 nt e4 ht
        have e24 := e3.trans e4
        have hw4 := e24 _ _ hw
        walk_at "rd"
        refine Rd.append hw4 (by rw [List.length_take] at hwl; omega) ?_
        walk_at "rd"
        refine ⟨_, rfl, Evl.Ex.mut (e2.trans e24) nm, _, upd_same, ?_⟩
        have hnew : Dp K H4 (.ref lt) (markT m) := Dt.ofT ht (Dt.mnA hAm e24)
        have hall : DpAll K H4 (ws ++ [.ref lt]) ((R.take (i + 1)).map markT) := by
          rw [List.take_add_one, hm, List.map_append]
          exact Dt.snocA (Dt.mnA hwA e24) hnew
        exact Dt.updLA hw4 _ _ (fun d hd => by obtain ⟨m', _, rfl⟩ := List.mem_map.mp hd; exact noL_markT m') hall
      · refine Rd.lcQT ?_
        walk_at "rd"
        refine Rd.xlcT (xs := vm) (fun _ => true) (fun j => vm.getD j .non) (Evl.ex_t e2 hsm0) hm100 (fun _ => rfl) (fun _ _ _ _ _ => Rd.evYes) (fun j z Hz ez hz _ H4 e4 Q4 q4 => ?_) fun lc H3 nc e3 hc => ?_
        · obtain ⟨q, rfl, hgd, a, b, hq4⟩ := hel j z Hz ez hz H4 e4
          walk_at "rd"
          rw [hgd] at q4
          exact q4 _ (Evl.Ex.refl _)
        rw [hgv] at hc
        walk_at "rd"
        intro lt H4 nt e4 ht
        have e24 := e3.trans e4
        have hw4 := e24 _ _ hw
        walk_at "rd"
        refine Rd.append hw4 (by rw [List.length_take] at hwl; omega) ?_
        walk_at "rd"
        refine ⟨_, rfl, Evl.Ex.mut (e2.trans e24) nm, _, upd_same, ?_⟩
        have hnew : Dp K H4 (.ref lt) (markT m) := Dt.ofT ht (Dt.mnA hAm e24)
        have hall : DpAll K H4 (ws ++ [.ref lt]) ((R.take (i + 1)).map markT) := by
          rw [List.take_add_one, hm, List.map_append]
          exact Dt.snocA (Dt.mnA hwA e24) hnew
        exact Dt.updLA hw4 _ _ (fun d hd => by obtain ⟨m', _, rfl⟩ := List.mem_map.mp hd; exact noL_markT m') hall
    · rintro σ H2 ⟨v8, rfl, e2, ws, hw, hwA⟩
      rw [hl, List.take_length] at hwA
      walk_at "rd"
      refine ⟨fun σ H' => σ = [some (.ref x), some (.str mo), some (.str sh), some (.str le), some (.str gr), some (.ref rl), some (.bl (decide (mo = "held"))), some (.ref lm), v8, none] ∧ Evl.Ex H2 H' ∧ M5 mo R, ?_, ?_⟩
      · walk_at "rd"
        refine ⟨lm, R, rfl, Dt.ofL hw hwA, ?_⟩
        walk_at "rd"
        cases hb : ruleB R with
        | false =>
          walk_at "rd"
          refine Rd.xmko1 (by decide) fun d H3 n3 e3 hd => ?_
          exact ke "rule" d H3 (.inr (.inr (.inr (.inr ⟨hm1, hm2, hm3, hm4, fun z => (by have z1 := z.1; rw [hb] at z1; cases z1), rfl⟩)))) (e2.trans e3) hd
        | true =>
          walk_at "rd"
          by_cases hh : mo = "held"
          · walk_at "rd"
            exact ⟨rfl, Evl.Ex.refl _, hb, .inl hh⟩
          · walk_at "rd"
            refine Rd.xlst rfl fun ls H3 ns e3 hls => ?_
            refine Rd.neD (d := .list (R.map markT)) (e := .list ([still6].map markT)) (Dt.ofL (e3 _ _ hw) (Dt.mnA hwA e3)) (Dt.ofL hls (.cons (T.tv_STILL H3) .nil)) (shp_marksT R) (shp_marksT [still6]) ?_
            rw [show PyData.eqv (.list (R.map markT)) (.list ([still6].map markT)) = decide (R = [still6]) from by simp only [PyData.eqv, eqv_marksT]]
            walk_at "rd"
            refine Rd.ifNd (fun h => ?_) (fun h => ?_)
            · walk_at "rd"
              refine Rd.xmko1 (by decide) fun d H4 n4 e4 hd => ?_
              exact ke "rule" d H4 (.inr (.inr (.inr (.inr ⟨hm1, hm2, hm3, hm4, fun z => z.2.elim hh h, rfl⟩)))) ((e2.trans e3).trans e4) hd
            · walk_at "rd"
              exact ⟨rfl, e3, hb, .inr h⟩
      · rintro σ H3 ⟨rfl, e3, hm5⟩
        have e23 := e2.trans e3
        have hx3 := e23 _ _ hx
        have hw3 := e3 _ _ hw
        have nlx : lm ≠ x := ne_of hw3 hx3 (by intro z; cases z)
        walk_at "rd"
        intro lt H4 nt e4 ht
        walk_at "rd"
        have hx4 := e4 _ _ upd_same
        have ntx : lt ≠ x := Ne.symm (ne_of_none upd_same nt)
        simp only [pf_Row_mode, pf_Row_sharing, pf_Row_lease, pf_Row_grip, pf_Row_rule]
        have hA3 : DpAll K H3 ws (R.map markT) := Dt.mnA hwA e3
        have hA4 : DpAll K (upd H4 x (.ins ad.c_Row dx (fs_Row (.str mo) (.str sh) (.str le) (.str gr) (.ref lt)))) ws (R.map markT) := by
          simp only [upd_upd] at e4
          exact Dt.updIA hx4 _ _ (Dt.mnA (Dt.updIA hx3 _ _ hA3) e4)
        refine k ⟨hm1, hm2, hm3, hm4, hm5⟩ lt _ upd_same (Dt.ofT (by rw [upd_ne ntx]; exact ht) hA4) fun b o hb hbo => ?_
        rw [upd_ne hb]
        refine e4 _ _ ?_
        simp only [upd_upd]
        rw [upd_ne hb]
        exact e23 _ _ hbo
theorem x_rowX {K : PySem.W.Frag} {C X : Addr} {H : Hp} {Q : VK} {E : XK} {rl : Addr} {mo sh le gr : Str} {R : Rule} {ds : List PyData} (hR : Dp K H (.ref rl) (.list ds)) (hds : Marks ds R) (h100 : R.length ≤ 100) (hM : ∀ m ∈ R, m.length ≤ 100)
    (q : Right mo sh le gr R → ∀ x H', Evl.Ex H H' → H x = none → RowAt K C H' x mo sh le gr R → Q (.ref x) H') (qe : ∀ s d H', Wrong mo sh le gr R s → Evl.Ex H H' → H' d = some (.xd [("what", .str s)]) → E (.ref X) (some d) H') :
    Rd.xMk C (fun x H2 Q2 => spRowX C X K (x :: [.str mo, .str sh, .str le, .str gr, .ref rl]) H2 Q2 E) H Q := Rd.xmk fun x dx H' e n hx =>
  ⟨x, dx, rl, mo, sh, le, gr, R, ds, rfl, hx, Dt.mn hR e, hds, h100, hM, fun ok tr H2 h2 hd same => ⟨rfl, q ok x H2 (Rd.exBut e n same) n ⟨dx, tr, h2, hd⟩⟩, fun s d H2 hw e2 hd => qe s d H2 hw (e.trans e2) hd⟩
def spPlainX (C X : Addr) (K : PySem.W.Frag) : Sp := fun vs H Q E => ∃ mo : Str, vs = [.str mo] ∧
  (mo = "copied" ∨ mo = "refused" → ∀ x H', Evl.Ex H H' → RowAt K C H' x mo "one" "always" "slot" [still6] → Q (.ref x) H') ∧
  (¬ (mo = "copied" ∨ mo = "refused") → ∀ d H', Evl.Ex H H' → H' d = some (.xd [("what", .str "mode")]) → E (.ref X) (some d) H')
theorem plain_right {mo : Str} (h : mo = "copied" ∨ mo = "refused") : Right mo "one" "always" "slot" [still6] := ⟨.inr h, .inl rfl, .inl rfl, .inl rfl, by decide +kernel, .inr rfl⟩
theorem ok_plain_row {ad : Ad} (T : Txt K mg ad) : FnOk P w K mg base (L2.CX P w) 5 ad.a_plain_row ad.d_plain_row ["mode"] (spPlainX ad.c_Row ad.c_InvalidRow K) := by
  refine T.F_plain_row.okX sc_plain_row (fun vs H Q E h => ?_) (fun cdv A outer s H vs Q E hr h => ?_)
  · obtain ⟨mo, rfl, k, ke⟩ := h
    rfl
  · obtain ⟨mo, rfl, k, ke⟩ := h
    refine ⟨_, (pss_cons (ps_if (pt_cmpR op_eq (pv 0) pe_str (nomark _)) (pss_one (ps_raise rfl (takes_of rfl rfl rfl rfl) (pmk_oex T.ox_InvalidRow T.ix_InvalidRow T.tx_InvalidRow (ok_InvalidRow_init_ T) (hr.mono (by decide)) T.b_InvalidRow_init_ .nil pass0 rfl T.mg_InvalidRow (pa_cons pe_str pa_nil)))) pss_nil)
      (pss_one (ps_ret (pe_make T.mk_Row (ok_Row_init_ T) (hr.mono (by decide)) rfl T.mg_Row T.b_Row_init_ .nil (passes_call (takes_of rfl rfl rfl rfl) (fun _ _ _ _ h => h)) (pa_cons (pv 0) (pa_cons pe_str (pa_cons pe_str (pa_cons pe_str (pa_cons (pe_lst (pa_cons (pe_glob (v := .ref ad.k_STILL) rfl T.mc_STILL rfl) pa_nil)) pa_nil))))))))), ?_⟩
    try dsimp only [L2.cxOf, L2.Cx.nox, L2.Cx.wish]
    change (_ : TS) _ ([some (.str mo)] : St) _
    walk_at "rd"
    refine Rd.ifd (fun hh => ?_) (fun hh => ?_)
    · walk_at "rd"
      refine Rd.xmko1 (by decide) fun d H2 n2 e2 hd => ?_
      exact ke (by rw [hh]; decide +kernel) d H2 e2 hd
    · walk_at "rd"
      refine Rd.xlst rfl fun l H1 n1 e1 hl => ?_
      walk_at "rd"
      have hD : Dp K H1 (.ref l) (.list [markT still6]) := Dt.ofL hl (.cons (T.tv_STILL H1) .nil)
      refine x_rowX (R := [still6]) hD (.inr rfl) (by decide) (by decide) (fun ok x H2 e2 n2 h2 => ?_) (fun s d H2 hw e2 hd => ?_)
      · refine k ?_ x H2 (e1.trans e2) h2
        obtain ⟨o1, _⟩ := ok
        exact o1.resolve_left hh
      · rcases hw with ⟨h1, rfl⟩ | ⟨h1, h2, _⟩ | ⟨h1, h2, h3, _⟩ | ⟨h1, h2, h3, h4, _⟩ | ⟨h1, h2, h3, h4, h5, _⟩
        · exact ke (fun z => h1 (.inr z)) d H2 (e1.trans e2) hd
        · exact (h2 (.inl rfl)).elim
        · exact (h3 (.inl rfl)).elim
        · exact (h4 (.inl rfl)).elim
        · exact (h5 ⟨by decide +kernel, .inr rfl⟩).elim

/-! split -/
/-! ### a rule under way: its marks are lists of their own -/
theorem setA {K : PySem.W.Frag} {H : Hp} {v : V} {d : PyData} (h : Dp K H v d) : ∀ (j : Nat) {vs : List V} {ds : List PyData}, DpAll K H vs ds → DpAll K H (vs.set j v) (ds.set j d)
  | _, _, [], hA => by cases hA; exact .nil
  | 0, _, d' :: ds, hA => by
    cases hA with
    | cons h1 h2 => exact .cons h h2
  | j + 1, _, d' :: ds, hA => by
    cases hA with
    | cons h1 h2 => exact .cons h1 (setA h j h2)
theorem ofGet {K : PySem.W.Frag} {H : Hp} : ∀ {vs : List V} {ds : List PyData}, vs.length = ds.length → (∀ (i : Nat) (v : V) (d : PyData), vs[i]? = some v → ds[i]? = some d → Dp K H v d) → DpAll K H vs ds
  | [], [], _, _ => .nil
  | v :: vs, d :: ds, hl, h => .cons (h 0 v d rfl rfl) (ofGet (by simpa using hl) fun i v' d' h1 h2 => h (i + 1) v' d' (by simpa using h1) (by simpa using h2))
  | [], d :: ds, hl, _ => by cases hl
  | v :: vs, [], hl, _ => by cases hl
structure MkAs (K : PySem.W.Frag) (G H : Hp) (as : List Addr) (R : Rule) : Prop where
  ex : Evl.Ex G H
  nod : as.Nodup
  len : as.length = R.length
  get : ∀ (i : Nat) (a : Addr) (m : List (Int × Int)), as[i]? = some a → R[i]? = some m → G a = none ∧ ∃ vs, H a = some (.lst vs) ∧ DpAll K H vs (m.map pairD)
theorem MkAs.nil0 {K : PySem.W.Frag} (H : Hp) : MkAs K H H [] [] := ⟨Evl.Ex.refl H, List.nodup_nil, rfl, fun i a m h => by cases h⟩
theorem MkAs.there {K : PySem.W.Frag} {G H : Hp} {as : List Addr} {R : Rule} (h : MkAs K G H as R) {a : Addr} (ha : a ∈ as) : ∃ vs, H a = some (.lst vs) := by
  obtain ⟨i, hi, e⟩ := List.getElem_of_mem ha
  obtain ⟨_, vs, h1, _⟩ := h.get i a (R[i]'(by rw [← h.len]; exact hi)) (by rw [List.getElem?_eq_getElem hi, e]) (List.getElem?_eq_getElem _)
  exact ⟨vs, h1⟩
theorem MkAs.mono {K : PySem.W.Frag} {G H H' : Hp} {as : List Addr} {R : Rule} (h : MkAs K G H as R) (e : Evl.Ex H H') : MkAs K G H' as R :=
  ⟨h.ex.trans e, h.nod, h.len, fun i a m h1 h2 => by obtain ⟨n, vs, h3, h4⟩ := h.get i a m h1 h2; exact ⟨n, vs, e _ _ h3, Dt.mnA h4 e⟩⟩
theorem MkAs.onto {K : PySem.W.Frag} {F G H : Hp} {as : List Addr} {R : Rule} (h : MkAs K G H as R) (e : Evl.Ex F G) : MkAs K F H as R :=
  ⟨e.trans h.ex, h.nod, h.len, fun i a m h1 h2 => by obtain ⟨n, vs, h3, h4⟩ := h.get i a m h1 h2; exact ⟨Evl.fresh_back e n, vs, h3, h4⟩⟩
theorem MkAs.snoc {K : PySem.W.Frag} {G H H2 : Hp} {as : List Addr} {R : Rule} {a : Addr} {vs : List V} {m : List (Int × Int)} (h : MkAs K G H as R) (e : Evl.Ex H H2) (n : H a = .none) (ha : H2 a = some (.lst vs)) (hd : DpAll K H2 vs (m.map pairD)) : MkAs K G H2 (as ++ [a]) (R ++ [m]) where
  ex := h.ex.trans e
  nod := by
    rw [List.nodup_append]
    refine ⟨h.nod, List.nodup_cons.mpr ⟨List.not_mem_nil, List.nodup_nil⟩, ?_⟩
    intro x hx y hy
    cases List.mem_singleton.mp hy
    obtain ⟨vs', hv⟩ := h.there hx
    exact ne_of_none hv n
  len := by rw [List.length_append, List.length_append, h.len]; rfl
  get := fun i a' m' h1 h2 => by
    by_cases hi : i < as.length
    · rw [List.getElem?_append_left hi] at h1
      rw [List.getElem?_append_left (by rw [← h.len]; exact hi)] at h2
      obtain ⟨n', vs', h3, h4⟩ := h.get i a' m' h1 h2
      exact ⟨n', vs', e _ _ h3, Dt.mnA h4 e⟩
    · have hi2 := (List.getElem?_eq_some_iff.mp h1).1
      rw [List.length_append] at hi2
      have e0 : i = as.length := by simp at hi2; omega
      subst e0
      rw [List.getElem?_append_right (Nat.le_refl _), Nat.sub_self] at h1
      rw [List.getElem?_append_right (by rw [h.len]; exact Nat.le_refl _), h.len, Nat.sub_self] at h2
      cases h1
      cases h2
      exact ⟨Evl.fresh_back h.ex n, vs, ha, hd⟩
theorem noL_pairs (m : List (Int × Int)) : ∀ d ∈ m.map pairD, Dt.noL d = true := fun d hd => by obtain ⟨p, _, rfl⟩ := List.mem_map.mp hd; exact noL_pair p
/-- another list changes -/
theorem MkAs.other {K : PySem.W.Frag} {G H : Hp} {as : List Addr} {R : Rule} {l : Addr} {ws : List V} {o : HO} (h : MkAs K G H as R) (hl : H l = some (.lst ws)) (n : G l = .none) (na : l ∉ as) : MkAs K G (upd H l o) as R :=
  ⟨Evl.Ex.mut h.ex n, h.nod, h.len, fun i a m h1 h2 => by
    obtain ⟨n', vs, h3, h4⟩ := h.get i a m h1 h2
    refine ⟨n', vs, ?_, Dt.updLA hl _ _ (noL_pairs m) h4⟩
    rw [upd_ne (fun z => by subst z; exact na (List.mem_of_getElem? h1))]; exact h3⟩
/-- one pair changes -/
theorem MkAs.set {K : PySem.W.Frag} {G H : Hp} {as : List Addr} {R : Rule} {a q : Addr} {i j : Nat} {vs : List V} {m : List (Int × Int)} {p : Int × Int} (h : MkAs K G H as R) (h1 : as[i]? = some a) (h2 : R[i]? = some m) (h3 : H a = some (.lst vs)) (h4 : DpAll K H vs (m.map pairD)) (hq : H q = some (.tup [.int p.1, .int p.2])) :
    MkAs K G (upd H a (.lst (vs.set j (.ref q)))) as (R.set i (m.set j p)) where
  ex := Evl.Ex.mut h.ex (h.get i a m h1 h2).1
  nod := h.nod
  len := by rw [List.length_set]; exact h.len
  get := fun i' a' m' g1 g2 => by
    have hi : i < R.length := (List.getElem?_eq_some_iff.mp h2).1
    by_cases hii : i = i'
    · subst hii
      rw [g1] at h1
      cases h1
      rw [List.getElem?_set_self hi] at g2
      cases g2
      refine ⟨(h.get i a m g1 h2).1, _, upd_same, ?_⟩
      rw [List.map_set]
      refine Dt.updLA h3 _ _ ?_ (setA (Dt.ofT hq (.cons (.int _) (.cons (.int _) .nil))) j h4)
      intro d hd
      rcases List.mem_or_eq_of_mem_set hd with hd | rfl
      · exact noL_pairs m d hd
      · exact noL_pair p
    · rw [List.getElem?_set_ne hii] at g2
      obtain ⟨n', vs', h5, h6⟩ := h.get i' a' m' g1 g2
      refine ⟨n', vs', ?_, Dt.updLA h3 _ _ (noL_pairs m') h6⟩
      have hne : a' ≠ a := fun z => by
        subst z
        have q1 := (List.getElem?_eq_some_iff.mp g1)
        have q2 := (List.getElem?_eq_some_iff.mp h1)
        obtain ⟨l1, e1⟩ := q1
        obtain ⟨l2, e2⟩ := q2
        exact hii ((List.getElem_inj h.nod).mp (e2.trans e1.symm))
      rw [upd_ne hne]; exact h5
/-- the rule itself -/
structure RuleAs (K : PySem.W.Frag) (G H : Hp) (rl : Addr) (as : List Addr) (R : Rule) : Prop where
  mks : MkAs K G H as R
  new : G rl = none
  at_ : H rl = some (.lst (as.map V.ref))
  out : rl ∉ as
theorem RuleAs.mono {K : PySem.W.Frag} {G H H' : Hp} {rl : Addr} {as : List Addr} {R : Rule} (h : RuleAs K G H rl as R) (e : Evl.Ex H H') : RuleAs K G H' rl as R := ⟨h.mks.mono e, h.new, e _ _ h.at_, h.out⟩
theorem RuleAs.onto {K : PySem.W.Frag} {F G H : Hp} {rl : Addr} {as : List Addr} {R : Rule} (h : RuleAs K G H rl as R) (e : Evl.Ex F G) : RuleAs K F H rl as R := ⟨h.mks.onto e, Evl.fresh_back e h.new, h.at_, h.out⟩
theorem RuleAs.snoc {K : PySem.W.Frag} {G H H2 : Hp} {rl : Addr} {as : List Addr} {R : Rule} {a : Addr} {vs : List V} {m : List (Int × Int)} (h : RuleAs K G H rl as R) (e : Evl.Ex H H2) (n : H a = none) (ha : H2 a = some (.lst vs)) (hd : DpAll K H2 vs (m.map pairD)) : RuleAs K G (upd H2 rl (.lst (as.map V.ref ++ [.ref a]))) rl (as ++ [a]) (R ++ [m]) := by
  have hne : rl ≠ a := ne_of_none h.at_ n
  have hout : rl ∉ as ++ [a] := fun z => by
    rcases List.mem_append.mp z with z | z
    · exact h.out z
    · exact hne (List.mem_singleton.mp z)
  exact ⟨(h.mks.snoc e n ha hd).other (e _ _ h.at_) h.new hout, h.new, by rw [upd_same, List.map_append]; rfl, hout⟩
theorem MkAs.close {K : PySem.W.Frag} {G H H' : Hp} {rl : Addr} {as : List Addr} {R : Rule} (h : MkAs K G H as R) (n : H rl = .none) (e : Evl.Ex H H') (hr : H' rl = some (.lst (as.map V.ref))) : RuleAs K G H' rl as R :=
  ⟨h.mono e, Evl.fresh_back h.ex n, hr, fun z => by obtain ⟨vs, hv⟩ := h.there z; exact ne_of_none hv n rfl⟩
theorem RuleAs.set {K : PySem.W.Frag} {G H : Hp} {rl : Addr} {as : List Addr} {R : Rule} {a q : Addr} {i j : Nat} {vs : List V} {m : List (Int × Int)} {p : Int × Int} (h : RuleAs K G H rl as R) (h1 : as[i]? = some a) (h2 : R[i]? = some m) (h3 : H a = some (.lst vs)) (h4 : DpAll K H vs (m.map pairD)) (hq : H q = some (.tup [.int p.1, .int p.2])) :
    RuleAs K G (upd H a (.lst (vs.set j (.ref q)))) rl as (R.set i (m.set j p)) :=
  ⟨h.mks.set h1 h2 h3 h4 hq, h.new, by rw [upd_ne (fun z => h.out (by rw [z]; exact List.mem_of_getElem? h1))]; exact h.at_, h.out⟩
theorem RuleAs.dp {K : PySem.W.Frag} {G H : Hp} {rl : Addr} {as : List Addr} {R : Rule} (h : RuleAs K G H rl as R) : Dp K H (.ref rl) (ruleL R) := by
  refine Dt.ofL h.at_ (ofGet (by rw [List.length_map, List.length_map, h.mks.len]) fun i v d h1 h2 => ?_)
  rw [List.getElem?_map] at h1 h2
  cases e1 : as[i]? with
  | none => rw [e1] at h1; cases h1
  | some a =>
    cases e2 : R[i]? with
    | none => rw [e2] at h2; cases h2
    | some m =>
      rw [e1] at h1
      rw [e2] at h2
      cases h1
      cases h2
      obtain ⟨_, vs, h3, h4⟩ := h.mks.get i a m e1 e2
      exact Dt.ofL h3 h4
def RuleAt (K : PySem.W.Frag) (G H : Hp) (rl : Addr) (R : Rule) : Prop := ∃ as, RuleAs K G H rl as R
def OkP (n : Nat) (p : Int × Int) : Prop := 0 ≤ p.1 ∧ p.1 < n ∧ -3 ≤ p.2 ∧ p.2 ≤ 3
def OkM (n : Nat) (m : List (Int × Int)) : Prop := m.length = 6 ∧ ∀ p ∈ m, OkP n p
theorem WF.of {R : Rule} {n : Nat} (hn : R.length = n) (h1 : 1 ≤ n) (h4 : n ≤ 4) (h : ∀ m ∈ R, OkM n m) : WF R := ⟨by omega, by omega, fun m hm => ⟨(h m hm).1, fun p hp => by rw [hn]; exact (h m hm).2 p hp⟩⟩
theorem WF.set {R : Rule} (h : WF R) {i j : Nat} {m : List (Int × Int)} {p : Int × Int} (hm : R[i]? = some m) (hp : OkP R.length p) : WF (R.set i (m.set j p)) := by
  obtain ⟨h1, h2, h3⟩ := h
  refine ⟨by rw [List.length_set]; exact h1, by rw [List.length_set]; exact h2, fun m' hm' => ?_⟩
  rw [List.length_set]
  rcases List.mem_or_eq_of_mem_set hm' with hm' | rfl
  · exact h3 m' hm'
  · obtain ⟨h4, h5⟩ := h3 m (List.mem_of_getElem? hm)
    refine ⟨by rw [List.length_set]; exact h4, fun p' hp' => ?_⟩
    rcases List.mem_or_eq_of_mem_set hp' with hp' | rfl
    · exact h5 p' hp'
    · exact hp
theorem OkM.nil_snoc {n : Nat} {m : List (Int × Int)} {p : Int × Int} (h : ∀ p ∈ m, OkP n p) (hp : OkP n p) : ∀ q ∈ m ++ [p], OkP n q := fun q hq => by
  rcases List.mem_append.mp hq with hq | hq
  · exact h q hq
  · cases List.mem_singleton.mp hq; exact hp
theorem OkR.snoc {n : Nat} {R : Rule} {m : List (Int × Int)} (h : ∀ m ∈ R, OkM n m) (hm : OkM n m) : ∀ q ∈ R ++ [m], OkM n q := fun q hq => by
  rcases List.mem_append.mp hq with hq | hq
  · exact h q hq
  · cases List.mem_singleton.mp hq; exact hm
/-- drawn from the deck: a rule -/
def spRuleOf (K : PySem.W.Frag) : Sp := fun vs H Q _ => ∃ dk : Addr, vs = [.ref dk] ∧ H dk = some (Dk.DkO dk) ∧ ∀ rl R H', WF R → RuleAt K H H' rl R → Q (.ref rl) H'

def spWhole : Sp := fun vs H Q _ => ∃ i : Int, vs = [.int i] ∧ Q (.bl true) H
theorem ok_law_whole {ad : Ad} (T : Txt K mg ad) : FnOk P w K mg base CX0 1 ad.a_law_whole ad.d_law_whole ["value"] (spWhole) := by
  refine T.F_law_whole.ok sc_law_whole (fun vs H Q E h => ?_) (fun cdv A outer s H vs Q E hr h => ?_)
  · obtain ⟨i, rfl, k⟩ := h
    rfl
  · obtain ⟨i, rfl, k⟩ := h
    refine ⟨_, (pss_one (ps_ret (pe_and (pe_callB (id := "isinstance") call_isi (by rfl) T.z_isinstance (by decide +kernel) (pa_cons (pv 0) (pa_cons (pe_bltn rfl T.z_int (by decide +kernel) (v := .ty "int") rfl) pa_nil))) (pe_one (pe_not (pe_callB (id := "isinstance") call_isi (by rfl) T.z_isinstance (by decide +kernel) (pa_cons (pv 0) (pa_cons (pe_bltn rfl T.z_bool (by decide +kernel) (v := .ty "bool") rfl) pa_nil)))))))), ?_⟩
    try dsimp only [L2.cxOf, L2.Cx.nox, L2.Cx.wish]
    change (_ : TS) _ ([some (.int i)] : St) _
    walk_at "rd"
    exact k

/-! ### the law's own rows -/
theorem MkAs.dpA {K : PySem.W.Frag} {G H : Hp} {as : List Addr} {R : Rule} (h : MkAs K G H as R) : DpAll K H (as.map V.ref) (R.map markL) :=
  ofGet (by rw [List.length_map, List.length_map, h.len]) fun i v d h1 h2 => by
    rw [List.getElem?_map] at h1 h2
    cases e1 : as[i]? with
    | none => rw [e1] at h1; cases h1
    | some a =>
      cases e2 : R[i]? with
      | none => rw [e2] at h2; cases h2
      | some m =>
        rw [e1] at h1
        rw [e2] at h2
        cases h1
        cases h2
        obtain ⟨_, vs, h3, h4⟩ := h.get i a m e1 e2
        exact Dt.ofL h3 h4
/-- a rule whose marks are not changed any more -/
def RuleD (K : PySem.W.Frag) (H H' : Hp) (rl : Addr) (R : Rule) : Prop := Evl.Ex H H' ∧ Dp K H' (.ref rl) (ruleL R) ∧ R.length ≤ 5 ∧ ∀ m ∈ R, m.length ≤ 7
theorem RuleAs.setMark {K : PySem.W.Frag} {G H H2 : Hp} {rl a : Addr} {as : List Addr} {R : Rule} {i : Nat} {vs : List V} {m : List (Int × Int)} (h : RuleAs K G H rl as R) (e : Evl.Ex H H2) (n : H a = none) (ha : H2 a = some (.lst vs)) (hd : DpAll K H2 vs (m.map pairD)) (hl : R.length ≤ 5) (hm : ∀ m ∈ R, m.length ≤ 7) (h7 : m.length ≤ 7) :
    RuleD K G (upd H2 rl (.lst ((as.map V.ref).set i (.ref a)))) rl (R.set i m) := by
  have hne : rl ≠ a := ne_of_none h.at_ n
  refine ⟨Evl.Ex.mut (h.mks.ex.trans e) h.new, Dt.ofL upd_same ?_, by rw [List.length_set]; exact hl, fun m' hm' => ?_⟩
  · rw [List.map_set]
    refine setA (Dt.ofL (by rw [upd_ne (Ne.symm hne)]; exact ha) (Dt.updLA (e _ _ h.at_) _ _ (noL_pairs m) hd)) i ?_
    exact ((h.mks.mono e).other (e _ _ h.at_) h.new h.out).dpA
  · rcases List.mem_or_eq_of_mem_set hm' with q | rfl
    · exact hm m' q
    · exact h7
theorem dropA {K : PySem.W.Frag} {H : Hp} : ∀ (n : Nat) {vs : List V} {ds : List PyData}, DpAll K H vs ds → DpAll K H (vs.drop n) (ds.drop n)
  | 0, _, _, h => h
  | n + 1, _, [], h => by cases h; exact .nil
  | n + 1, _, d :: ds, h => by
    cases h with
    | cons h1 h2 => exact dropA n h2
theorem cutA {K : PySem.W.Frag} {H : Hp} {vs : List V} {m : List (Int × Int)} {lo hi : Option Int} (h : DpAll K H vs (m.map pairD)) : ∃ m' : List (Int × Int), DpAll K H (cutV vs lo hi) (m'.map pairD) ∧ m'.length ≤ m.length := by
  refine ⟨(m.drop (HT.sIx vs.length 0 lo)).take (HT.sIx vs.length vs.length hi - HT.sIx vs.length 0 lo), ?_, ?_⟩
  · unfold cutV
    rw [List.map_take, List.map_drop]
    exact Dt.takeA _ (dropA _ h)
  · rw [List.length_take, List.length_drop]; omega
theorem x_slL {K : PySem.W.Frag} {H : Hp} {Q : VK} {a : Addr} {xs : List V} {lo hi : Option Int} (h : SqL K H a xs) (q : ∀ p H', H p = none → Evl.Ex H H' → H' p = some (.lst (cutV xs lo hi)) → Q (.ref p) H') : rSlL K (.ref a) lo hi H Q :=
  ⟨a, xs, rfl, h, fun p hp => q p _ hp (Evl.Ex.new hp) upd_same⟩
theorem pairs_of : ∀ {ds : List PyData}, (∀ (i : Nat) d, ds[i]? = some d → ∃ p : Int × Int, d = pairD p) → ∃ ps : List (Int × Int), ds = ps.map pairD
  | [], _ => ⟨[], rfl⟩
  | d :: ds, h => by
    obtain ⟨p, hp⟩ := h 0 d rfl
    obtain ⟨ps, hps⟩ := pairs_of (ds := ds) fun i d' hd => h (i + 1) d' hd
    exact ⟨p :: ps, by rw [hp, hps]; rfl⟩
theorem at3i {a b c k : Int} (h0 : 0 ≤ k) (h1 : k < 3) : ∃ x : Int, atI [V.int a, V.int b, V.int c] k = some (.int x) := by
  obtain rfl | rfl | rfl : k = 0 ∨ k = 1 ∨ k = 2 := by omega
  · exact ⟨a, rfl⟩
  · exact ⟨b, rfl⟩
  · exact ⟨c, rfl⟩
def spWordIn (K : PySem.W.Frag) : Sp := fun vs H Q _ => ∃ (dk lg lb : Addr) (gs bs : List Str), vs = [.ref dk, .ref lg, .ref lb] ∧ H dk = some (Dk.DkO dk) ∧ SqL K H lg (gs.map V.str) ∧ SqL K H lb (bs.map V.str) ∧ 0 < gs.length ∧ 0 < bs.length ∧ ∀ s, Q (.str s) H
theorem ok_law_word {ad : Ad} (T : Txt K mg ad) : FnOk P w K mg base CX0 2 ad.a_law_word ad.d_law_word ["deck", "good", "bad"] (spWordIn K) := by
  refine T.F_law_word.ok sc_law_word (fun vs H Q E h => ?_) (fun cdv A outer s H vs Q E hr h => ?_)
  · obtain ⟨dk, lg, lb, gs, bs, rfl, hD, hg, hb, hg0, hb0, k⟩ := h
    rfl
  · obtain ⟨dk, lg, lb, gs, bs, rfl, hD, hg, hb, hg0, hb0, k⟩ := h
    refine ⟨_, (pss_cons (ps_if (pt_cmpR op_eq (pe_call (ok_law_take T) (hr.mono (by decide)) rfl T.m_law_take T.F_law_take.kp T.b_law_take .nil pass0 (pa_cons (pv 0) (pa_cons pe_int pa_nil))) pe_int (nomark _)) (pss_one (ps_ret (pe_ix ix_list (pv 2) (pe_call (ok_law_take T) (hr.mono (by decide)) rfl T.m_law_take T.F_law_take.kp T.b_law_take .nil pass0 (pa_cons (pv 0) (pa_cons (pe_callB (id := "len") Rd.c_len (by rfl) T.z_len (by decide +kernel) (pa_cons (pv 2) pa_nil)) pa_nil))) (fun _ _ => rfl)))) pss_nil)
      (pss_one (ps_ret (pe_ix ix_list (pv 1) (pe_call (ok_law_take T) (hr.mono (by decide)) rfl T.m_law_take T.F_law_take.kp T.b_law_take .nil pass0 (pa_cons (pv 0) (pa_cons (pe_callB (id := "len") Rd.c_len (by rfl) T.z_len (by decide +kernel) (pa_cons (pv 1) pa_nil)) pa_nil))) (fun _ _ => rfl))))), ?_⟩
    try dsimp only [L2.cxOf, L2.Cx.nox, L2.Cx.wish]
    change (_ : TS) _ ([some (.ref dk), some (.ref lg), some (.ref lb)] : St) _
    have hgl : (gs.map V.str).length = gs.length := List.length_map ..
    have hbl : (bs.map V.str).length = bs.length := List.length_map ..
    have pick : ∀ (ss : List Str) (t : Int), 0 ≤ t → t < ((ss.map V.str).length : Nat) → ∃ s, atI (ss.map V.str) t = some (.str s) := fun ss t t0 t1 => by
      rw [List.length_map] at t1
      obtain ⟨n, rfl⟩ := Int.eq_ofNat_of_zero_le t0
      have hn : n < ss.length := by omega
      exact ⟨ss[n]'hn, atI_nat (by rw [List.getElem?_map, List.getElem?_eq_getElem hn]; rfl)⟩
    walk_at "rd"
    intro z z0 z1
    walk_at "rd"
    refine Rd.ifd (fun c1 => ?_) (fun c1 => ?_)
    · walk_at "rd"
      intro t t0 t1
      obtain ⟨s1, hs1⟩ := pick bs t t0 t1
      refine Rd.ixL hb hs1 ?_
      exact k _
    · walk_at "rd"
      intro t t0 t1
      obtain ⟨s1, hs1⟩ := pick gs t t0 t1
      refine Rd.ixL hg hs1 ?_
      exact k _
def spRuleN (K : PySem.W.Frag) : Sp := fun vs H Q _ => ∃ (dk : Addr) (n : Nat), vs = [.ref dk, .int n] ∧ H dk = some (Dk.DkO dk) ∧ n ≤ 5 ∧ ∀ rl R H', RuleAt K H H' rl R → R.length = n → (∀ m ∈ R, m.length = 6) → Q (.ref rl) H'
theorem ok_law_rule {ad : Ad} (T : Txt K mg ad) : FnOk P w K mg base CX0 2 ad.a_law_rule ad.d_law_rule ["deck", "size"] (spRuleN K) := by
  refine T.F_law_rule.ok sc_law_rule (fun vs H Q E h => ?_) (fun cdv A outer s H vs Q E hr h => ?_)
  · obtain ⟨dk, n, rfl, hD, hn, k⟩ := h
    rfl
  · obtain ⟨dk, n, rfl, hD, hn, k⟩ := h
    refine ⟨_, (pss_cons (ps_set (i := 2) sc_law_rule.nd rfl (Or.inl rfl) (pe_lst pa_nil))
      (pss_cons (ps_for PassesOwn.never rfl (pi_range1 rfl T.z_range (pa_cons (pv 1) pa_nil)) (pg_name (i := 3) sc_law_rule.nd rfl (Or.inl rfl)) (pss_one (ps_expr (pe_bm PySem.F.plainAttrs_list PySem.F.slot_list_append PySem.F.type_list_append mt_append (pv 2) (pa_cons (pe_lc (own := [("event", 4)]) (g := gName 4) (tt := tYes) rfl sc_law_rule.nd (pi_range1 rfl T.z_range (pa_cons pe_int pa_nil)) (blkOk_by (N := ["deck", "size", "rule", "mark", "event"]) (sc := defScope s_law_rule) (by decide +kernel)) (fun _ _ _ _ _ => (pg_name (i := 4) sc_law_rule.nd rfl (Or.inl rfl))) (fun _ _ _ _ _ => pts_nil) (fun _ _ _ _ _ => (pe_tup (pa_cons (pe_call (ok_law_take T) (hr.mono (by decide)) rfl T.m_law_take T.F_law_take.kp T.b_law_take .nil pass0 (pa_cons (pv 0) (pa_cons (pe_callB (id := "max") (Rd.c_max2 rfl) (by rfl) T.z_max (by decide +kernel) (pa_cons pe_int (pa_cons (pv 1) pa_nil))) pa_nil))) (pa_cons (pe_op op_sub (pe_call (ok_law_take T) (hr.mono (by decide)) rfl T.m_law_take T.F_law_take.kp T.b_law_take .nil pass0 (pa_cons (pv 0) (pa_cons pe_int pa_nil))) pe_int) pa_nil))))) pa_nil)))))
      (pss_one (ps_ret (pv 2))))), ?_⟩
    try dsimp only [L2.cxOf, L2.Cx.nox, L2.Cx.wish]
    change (_ : TS) _ ([some (.ref dk), some (.int n), none, none, none] : St) _
    have cl_Row := T.cl_Row
    have n_Row_grip := T.n_Row_grip
    have n_Row_lease := T.n_Row_lease
    have n_Row_mode := T.n_Row_mode
    have n_Row_rule := T.n_Row_rule
    have n_Row_sharing := T.n_Row_sharing
    walk_at "rd"
    refine Rd.xlst rfl fun rl H1 n1 e1 hl => ?_
    walk_at "rd"
    refine Rd.xfr1 ⟨by omega, by omega⟩ (fun i σ H' => ∃ v3 v4, σ = [some (.ref dk), some (.int n), some (.ref rl), v3, v4] ∧ ∃ as R, RuleAs K H H' rl as R ∧ R.length = i ∧ ∀ m ∈ R, m.length = 6)
      ⟨_, _, rfl, [], [], (MkAs.nil0 H).close n1 e1 hl, rfl, fun m hm => by cases hm⟩ ?_ ?_
    · rintro i σ H2 hi ⟨v3, v4, rfl, as, R, hR, hRl, hRk⟩
      have hD2 := hR.mks.ex _ _ hD
      have hrat := hR.at_
      walk_at "rd"
      refine Rd.xlcGR (K := K) (fun _ d => ∃ p : Int × Int, d = pairD p) ⟨by omega, by omega⟩ (fun _ => rfl) ?_ ?_
      · intro j D G H' acc hj hDn eG eH gD hacc Q' q
        have hD3 := eH _ _ (eG _ _ hD2)
        walk_at "rd"
        intro t t0 t1
        walk_at "rd"
        intro u u0 u1
        walk_at "rd"
        refine Rd.xtup rfl fun p H3 np e3 hp => ?_
        refine q _ H3 (upd G p (.tup [.int t, .int (u - 3)])) (pairD (t, u - 3)) (Rd.grow1 eH np) (Rd.grow2 eH e3 hp) (Rd.grow3 gD np hacc) e3 ?_ ⟨_, rfl⟩
        exact Dt.ofT upd_same (.cons (.int _) (.cons (.int _) .nil))
      · intro p G' H' ys ds np e2 e3 gp hp hd hdl hdR
        obtain ⟨ps, rfl⟩ := pairs_of hdR
        rw [List.length_map] at hdl
        have hr4 := e3 _ _ (e2 _ _ hR.at_)
        walk_at "rd"
        refine Rd.append hr4 (by rw [List.length_map, hR.mks.len]; omega) ?_
        walk_at "rd"
        refine ⟨_, _, rfl, as ++ [p], R ++ [ps], hR.snoc (e2.trans e3) np hp (Dt.mnA hd e3), by rw [List.length_append, hRl]; rfl, fun m hm => ?_⟩
        rcases List.mem_append.mp hm with hm | hm
        · exact hRk m hm
        · cases List.mem_singleton.mp hm; exact hdl
    · rintro σ H2 ⟨v3, v4, rfl, as, R, hR, hRl, hRk⟩
      walk_at "rd"
      exact k rl R H2 ⟨as, hR⟩ (by omega) hRk
def spSpoiltN (K : PySem.W.Frag) : Sp := fun vs H Q _ => ∃ (dk : Addr) (n : Nat), vs = [.ref dk, .int n] ∧ H dk = some (Dk.DkO dk) ∧ 1 ≤ n ∧ n ≤ 4 ∧ ∀ rl R H', RuleD K H H' rl R → Q (.ref rl) H'
theorem RuleAt.toD {K : PySem.W.Frag} {G H : Hp} {rl : Addr} {R : Rule} (h : RuleAt K G H rl R) (hl : R.length ≤ 5) (hm : ∀ m ∈ R, m.length ≤ 7) : RuleD K G H rl R := by
  obtain ⟨as, h⟩ := h
  exact ⟨h.mks.ex, h.dp, hl, hm⟩
theorem ok_law_spoilt_rule {ad : Ad} (T : Txt K mg ad) : FnOk P w K mg base CX0 3 ad.a_law_spoilt_rule ad.d_law_spoilt_rule ["deck", "size"] (spSpoiltN K) := by
  refine T.F_law_spoilt_rule.ok sc_law_spoilt_rule (fun vs H Q E h => ?_) (fun cdv A outer s H vs Q E hr h => ?_)
  · obtain ⟨dk, n, rfl, hD, hn1, hn4, k⟩ := h
    rfl
  · obtain ⟨dk, n, rfl, hD, hn1, hn4, k⟩ := h
    refine ⟨_, (pss_cons (ps_set (i := 2) sc_law_spoilt_rule.nd rfl (Or.inl rfl) (pe_call (ok_law_take T) (hr.mono (by decide)) rfl T.m_law_take T.F_law_take.kp T.b_law_take .nil pass0 (pa_cons (pv 0) (pa_cons pe_int pa_nil))))
      (pss_cons (ps_if (pt_cmpR op_eq (pv 2) pe_int (nomark _)) (pss_one (ps_ret (pe_lst pa_nil))) pss_nil)
      (pss_cons (ps_if (pt_cmpR op_eq (pv 2) pe_int (nomark _)) (pss_one (ps_ret (pe_call (ok_law_rule T) (hr.mono (by decide)) rfl T.m_law_rule T.F_law_rule.kp T.b_law_rule .nil pass0 (pa_cons (pv 0) (pa_cons pe_int pa_nil))))) pss_nil)
      (pss_cons (ps_set (i := 3) sc_law_spoilt_rule.nd rfl (Or.inl rfl) (pe_call (ok_law_rule T) (hr.mono (by decide)) rfl T.m_law_rule T.F_law_rule.kp T.b_law_rule .nil pass0 (pa_cons (pv 0) (pa_cons (pv 1) pa_nil))))
      (pss_cons (ps_set (i := 4) sc_law_spoilt_rule.nd rfl (Or.inl rfl) (pe_call (ok_law_take T) (hr.mono (by decide)) rfl T.m_law_take T.F_law_take.kp T.b_law_take .nil pass0 (pa_cons (pv 0) (pa_cons (pv 1) pa_nil))))
      (pss_cons (ps_set (i := 5) sc_law_spoilt_rule.nd rfl (Or.inl rfl) (pe_call (ok_law_take T) (hr.mono (by decide)) rfl T.m_law_take T.F_law_take.kp T.b_law_take .nil pass0 (pa_cons (pv 0) (pa_cons pe_int pa_nil))))
      (pss_cons (ps_set (i := 6) sc_law_spoilt_rule.nd rfl (Or.inl rfl) (pe_ix ix_list (pe_ix ix_list (pv 3) (pv 4) (fun _ _ => rfl)) (pv 5) (fun _ _ => rfl)))
      (Evl.pss_cut (ps_if (pt_cmpR op_eq (pv 2) pe_int (nomark _)) (pss_one (ps_asg (pe_slice sl_list (pe_ix ix_list (pv 3) (pv 4) (fun _ _ => rfl)) (po_some pe_int) po_none) (pg_sub (pv 3) (pv 4) set_list))) (pss_one (ps_if (pt_cmpR op_eq (pv 2) pe_int (nomark _)) (pss_one (ps_asg (pe_op op_cat (pe_ix ix_list (pv 3) (pv 4) (fun _ _ => rfl)) (pe_lst (pa_cons (pv 6) pa_nil))) (pg_sub (pv 3) (pv 4) set_list))) (pss_one (ps_if (pt_cmpR op_eq (pv 2) pe_int (nomark _)) (pss_one (ps_asg (pe_tup (pa_cons (pe_ix ix_list (pe_lst (pa_cons (pe_un un_neg pe_int) (pa_cons (pv 1) (pa_cons (pe_op op_add (pe_op op_add (pv 1) pe_int) (pe_call (ok_law_take T) (hr.mono (by decide)) rfl T.m_law_take T.F_law_take.kp T.b_law_take .nil pass0 (pa_cons (pv 0) (pa_cons pe_int pa_nil)))) pa_nil)))) (pe_call (ok_law_take T) (hr.mono (by decide)) rfl T.m_law_take T.F_law_take.kp T.b_law_take .nil pass0 (pa_cons (pv 0) (pa_cons pe_int pa_nil))) (fun _ _ => rfl)) (pa_cons (pe_ix ix_tup (pv 6) pe_int (fun _ _ => rfl)) pa_nil))) (pg_sub (pe_ix ix_list (pv 3) (pv 4) (fun _ _ => rfl)) (pv 5) set_list))) (pss_one (ps_asg (pe_tup (pa_cons (pe_ix ix_tup (pv 6) pe_int (fun _ _ => rfl)) (pa_cons (pe_ix ix_list (pe_lst (pa_cons (pe_un un_neg pe_int) (pa_cons pe_int (pa_cons (pe_op op_add pe_int (pe_call (ok_law_take T) (hr.mono (by decide)) rfl T.m_law_take T.F_law_take.kp T.b_law_take .nil pass0 (pa_cons (pv 0) (pa_cons pe_int pa_nil)))) pa_nil)))) (pe_call (ok_law_take T) (hr.mono (by decide)) rfl T.m_law_take T.F_law_take.kp T.b_law_take .nil pass0 (pa_cons (pv 0) (pa_cons pe_int pa_nil))) (fun _ _ => rfl)) pa_nil))) (pg_sub (pe_ix ix_list (pv 3) (pv 4) (fun _ _ => rfl)) (pv 5) set_list))))))))
      (pss_one (ps_ret (pv 3))))))))))), ?_⟩
    try dsimp only [L2.cxOf, L2.Cx.nox, L2.Cx.wish]
    change (_ : TS) _ ([some (.ref dk), some (.int n), none, none, none, none, none] : St) _
    walk_at "rd"
    intro kd kd0 kd1
    walk_at "rd"
    refine Rd.ifd (fun c0 => ?_) (fun c0 => ?_)
    · walk_at "rd"
      refine Rd.xlst rfl fun rl H1 n1 e1 hl => ?_
      exact k rl [] H1 ⟨e1, Dt.ofL hl .nil, by decide, fun m hm => by cases hm⟩
    · walk_at "rd"
      refine Rd.ifd (fun c1 => ?_) (fun c1 => ?_)
      · walk_at "rd"
        refine ⟨dk, 5, rfl, hD, by decide, fun rl R H1 hR hl hm => ?_⟩
        exact k rl R H1 (hR.toD (by omega) fun m q => by rw [hm m q]; decide)
      · walk_at "rd"
        refine ⟨dk, n, rfl, hD, by omega, fun rl R H1 ⟨as, hR⟩ hRl hRm => ?_⟩
        have hD1 := hR.mks.ex _ _ hD
        have hat := hR.at_
        have hal : (as.map V.ref).length = R.length := by rw [List.length_map, hR.mks.len]
        walk_at "rd"
        intro z z0 z1
        walk_at "rd"
        intro y y0 y1
        walk_at "rd"
        obtain ⟨i, rfl⟩ := Int.eq_ofNat_of_zero_le z0
        obtain ⟨j, rfl⟩ := Int.eq_ofNat_of_zero_le y0
        have hi : i < R.length := by omega
        have hia : i < as.length := by rw [hR.mks.len]; exact hi
        have h1 : as[i]? = some (as[i]'hia) := List.getElem?_eq_getElem hia
        have h2 : R[i]? = some (R[i]'hi) := List.getElem?_eq_getElem hi
        generalize as[i]'hia = a at h1
        generalize R[i]'hi = m at h2
        obtain ⟨na, vs, h3, h4⟩ := hR.mks.get i a m h1 h2
        have hm6 := hRm m (List.mem_of_getElem? h2)
        have hvl := lenMap h4
        have hj : j < m.length := by omega
        have h5 : m[j]? = some (m[j]'hj) := List.getElem?_eq_getElem hj
        generalize m[j]'hj = p at h5
        obtain ⟨vp, hvp, hdp⟩ := mapA2 h4 h5
        obtain ⟨tp, rfl, hsp⟩ := pair_inv hdp
        have hax : atI (as.map V.ref) (i : Int) = some (.ref a) := atI_nat (by rw [List.getElem?_map, h1]; rfl)
        have hixr : ixN (as.map V.ref).length (i : Int) = some i := Evl.ixN_nat (by omega)
        have hixm : ixN vs.length (j : Int) = some j := Evl.ixN_nat (by omega)
        have hle7 : ∀ m ∈ R, m.length ≤ 7 := fun m q => by rw [hRm m q]; decide
        refine Rd.ixL (SqL.of hat) hax ?_
        walk_at "rd"
        refine Rd.ixL (SqL.of h3) (atI_nat hvp) ?_
        walk_at "rd"
        refine ⟨fun σ H' => σ = [some (.ref dk), some (.int n), some (.int kd), some (.ref rl), some (.int i), some (.int j), some (.ref tp)] ∧ ∃ R', RuleD K H H' rl R', ?_, ?_⟩
        · have fin : ∀ (g c : Int) (q : Addr) (H2 : Hp), Evl.Ex H1 H2 → H2 q = some (.tup [.int g, .int c]) → ∃ R', RuleD K H (upd H2 a (.lst (vs.set j (.ref q)))) rl R' := fun g c q H2 e2 hq => by
            have hs := (hR.mono e2).set (j := j) (p := (g, c)) h1 h2 (e2 _ _ h3) (Dt.mnA h4 e2) hq
            refine ⟨_, RuleAt.toD ⟨as, hs⟩ (by rw [List.length_set]; omega) fun m' hm' => ?_⟩
            rcases List.mem_or_eq_of_mem_set hm' with q | rfl
            · exact hle7 m' q
            · rw [List.length_set]; omega
          walk_at "rd"
          refine Rd.ifd (fun c2 => ?_) (fun c2 => ?_)
          · walk_at "rd"
            refine Rd.ixL (SqL.of hat) hax ?_
            walk_at "rd"
            refine x_slL (SqL.of h3) fun q H2 n2 e2 hq => ?_
            obtain ⟨m', hm', hml⟩ := cutA (lo := some 1) (hi := none) (Dt.mnA h4 e2)
            walk_at "rd"
            refine Rd.setL (e2 _ _ hat) hixr ?_
            exact ⟨rfl, _, hR.setMark e2 n2 hq hm' (by omega) hle7 (by omega)⟩
          · walk_at "rd"
            refine Rd.ifd (fun c3 => ?_) (fun c3 => ?_)
            · walk_at "rd"
              refine Rd.ixL (SqL.of hat) hax ?_
              walk_at "rd"
              refine Rd.xlst rfl fun l1 H2 n2 e2 hl1 => ?_
              refine Rd.cat (e2 _ _ h3) hl1 (by rw [hvl]; simp; omega) fun q H3 n3 e3 hq => ?_
              have hm' : DpAll K H3 (vs ++ [V.ref tp]) ((m ++ [p]).map pairD) := by
                rw [List.map_append]
                exact Dt.snocA (Dt.mnA h4 (e2.trans e3)) (Dt.mn hdp (e2.trans e3))
              walk_at "rd"
              refine Rd.setL (e3 _ _ (e2 _ _ hat)) hixr ?_
              exact ⟨rfl, _, hR.setMark (e2.trans e3) (Evl.fresh_back e2 n3) hq hm' (by omega) hle7 (by rw [List.length_append, hm6]; exact Nat.le_refl _)⟩
            · walk_at "rd"
              refine Rd.ifd (fun c4 => ?_) (fun c4 => ?_)
              · walk_at "rd"
                intro t t0 t1
                walk_at "rd"
                refine Rd.xlst rfl fun l1 H2 n2 e2 hl1 => ?_
                have hD2 := e2 _ _ hD1
                walk_at "rd"
                intro u u0 u1
                obtain ⟨x, hx⟩ := at3i u0 u1
                refine Rd.ixL (SqL.of hl1) hx ?_
                have hsp2 := Evl.ex_t e2 hsp
                walk_at "rd"
                refine Rd.xtup rfl fun q H3 n3 e3 hq => ?_
                walk_at "rd"
                have e23 := e2.trans e3
                refine Rd.ixL (SqL.of (e23 _ _ hat)) hax ?_
                walk_at "rd"
                refine Rd.setL (e23 _ _ h3) hixm ?_
                exact ⟨rfl, fin _ _ q H3 e23 hq⟩
              · walk_at "rd"
                intro t t0 t1
                walk_at "rd"
                refine Rd.xlst rfl fun l1 H2 n2 e2 hl1 => ?_
                have hD2 := e2 _ _ hD1
                walk_at "rd"
                intro u u0 u1
                obtain ⟨x, hx⟩ := at3i u0 u1
                refine Rd.ixL (SqL.of hl1) hx ?_
                walk_at "rd"
                refine Rd.xtup rfl fun q H3 n3 e3 hq => ?_
                walk_at "rd"
                have e23 := e2.trans e3
                refine Rd.ixL (SqL.of (e23 _ _ hat)) hax ?_
                walk_at "rd"
                refine Rd.setL (e23 _ _ h3) hixm ?_
                exact ⟨rfl, fin _ _ q H3 e23 hq⟩
        · rintro σ H2 ⟨rfl, R', hR'⟩
          walk_at "rd"
          exact k rl R' H2 hR'
/-- the parts of a row, held in a list -/
def SpecAt (K : PySem.W.Frag) (H : Hp) (sp : Addr) (mo sh le gr : Str) (R : Rule) : Prop := ∃ rl, SqL K H sp [.str mo, .str sh, .str le, .str gr, .ref rl] ∧ Dp K H (.ref rl) (ruleL R)
theorem SpecAt.mono {K : PySem.W.Frag} {H H' : Hp} {sp : Addr} {mo sh le gr : Str} {R : Rule} (h : SpecAt K H sp mo sh le gr R) (e : Evl.Ex H H') : SpecAt K H' sp mo sh le gr R := by
  obtain ⟨rl, h1, h2⟩ := h
  exact ⟨rl, Evl.ex_l e h1, Dt.mn h2 e⟩
def spParts (K : PySem.W.Frag) : Sp := fun vs H Q _ => ∃ dk : Addr, vs = [.ref dk] ∧ H dk = some (Dk.DkO dk) ∧ ∀ (sp : Addr) (mo sh le gr : Str) (R : Rule) (H' : Hp), Evl.Ex H H' → SpecAt K H' sp mo sh le gr R → R.length ≤ 5 → (∀ m ∈ R, m.length ≤ 7) → Q (.ref sp) H'
theorem ok_law_parts {ad : Ad} (T : Txt K mg ad) : FnOk P w K mg base CX0 4 ad.a_law_parts ad.d_law_parts ["deck"] (spParts K) := by
  refine T.F_law_parts.ok sc_law_parts (fun vs H Q E h => ?_) (fun cdv A outer s H vs Q E hr h => ?_)
  · obtain ⟨dk, rfl, hD, k⟩ := h
    rfl
  · obtain ⟨dk, rfl, hD, k⟩ := h
    refine ⟨_, (pss_cons (ps_set (i := 1) sc_law_parts.nd rfl (Or.inl rfl) (pe_call (ok_law_word T) (hr.mono (by decide)) rfl T.m_law_word T.F_law_word.kp T.b_law_word .nil pass0 (pa_cons (pv 0) (pa_cons (pe_lst (pa_cons pe_str (pa_cons pe_str (pa_cons pe_str (pa_cons pe_str pa_nil))))) (pa_cons (pe_lst (pa_cons pe_str (pa_cons pe_str (pa_cons pe_str (pa_cons pe_str pa_nil))))) pa_nil)))))
      (pss_cons (ps_set (i := 2) sc_law_parts.nd rfl (Or.inl rfl) (pe_op op_add pe_int (pe_call (ok_law_take T) (hr.mono (by decide)) rfl T.m_law_take T.F_law_take.kp T.b_law_take .nil pass0 (pa_cons (pv 0) (pa_cons pe_int pa_nil)))))
      (pss_cons (ps_set (i := 3) sc_law_parts.nd rfl (Or.inl rfl) (pe_call (ok_law_rule T) (hr.mono (by decide)) rfl T.m_law_rule T.F_law_rule.kp T.b_law_rule .nil pass0 (pa_cons (pv 0) (pa_cons (pv 2) pa_nil))))
      (Evl.pss_cut (ps_if (pt_cmpR op_eq (pe_call (ok_law_take T) (hr.mono (by decide)) rfl T.m_law_take T.F_law_take.kp T.b_law_take .nil pass0 (pa_cons (pv 0) (pa_cons pe_int pa_nil))) pe_int (nomark _)) (pss_one (ps_set (i := 3) sc_law_parts.nd rfl (Or.inl rfl) (pe_call (ok_law_spoilt_rule T) (hr.mono (by decide)) rfl T.m_law_spoilt_rule T.F_law_spoilt_rule.kp T.b_law_spoilt_rule .nil pass0 (pa_cons (pv 0) (pa_cons (pv 2) pa_nil))))) pss_nil)
      (pss_cons (ps_if (PW.pt (pw_and (pt_cmpR op_ne (pv 1) pe_str (nomark _)) (pw_and1 (pt_cmpR op_eq (pe_call (ok_law_take T) (hr.mono (by decide)) rfl T.m_law_take T.F_law_take.kp T.b_law_take .nil pass0 (pa_cons (pv 0) (pa_cons pe_int pa_nil))) pe_int (nomark _))))) (pss_cons (ps_set (i := 3) sc_law_parts.nd rfl (Or.inl rfl) (pe_lst (pa_cons (pe_lst (pa_cons (pe_tup (pa_cons pe_int (pa_cons pe_int pa_nil))) (pa_cons (pe_tup (pa_cons pe_int (pa_cons pe_int pa_nil))) (pa_cons (pe_tup (pa_cons pe_int (pa_cons pe_int pa_nil))) (pa_cons (pe_tup (pa_cons pe_int (pa_cons pe_int pa_nil))) (pa_cons (pe_tup (pa_cons pe_int (pa_cons pe_int pa_nil))) (pa_cons (pe_tup (pa_cons pe_int (pa_cons pe_int pa_nil))) pa_nil))))))) pa_nil)))
      (Evl.pss_cut (ps_if (pt_cmpR op_eq (pe_call (ok_law_take T) (hr.mono (by decide)) rfl T.m_law_take T.F_law_take.kp T.b_law_take .nil pass0 (pa_cons (pv 0) (pa_cons pe_int pa_nil))) pe_int (nomark _)) (pss_one (ps_asg (pe_tup (pa_cons pe_int (pa_cons (pe_op op_sub pe_int (pe_op op_mul pe_int (pe_call (ok_law_take T) (hr.mono (by decide)) rfl T.m_law_take T.F_law_take.kp T.b_law_take .nil pass0 (pa_cons (pv 0) (pa_cons pe_int pa_nil))))) pa_nil))) (pg_sub (pe_ix ix_list (pv 3) pe_int (fun _ _ => rfl)) (pe_call (ok_law_take T) (hr.mono (by decide)) rfl T.m_law_take T.F_law_take.kp T.b_law_take .nil pass0 (pa_cons (pv 0) (pa_cons pe_int pa_nil))) set_list))) pss_nil)
      (pss_cons (ps_set (i := 4) sc_law_parts.nd rfl (Or.inl rfl) (pe_call (ok_law_word T) (hr.mono (by decide)) rfl T.m_law_word T.F_law_word.kp T.b_law_word .nil pass0 (pa_cons (pv 0) (pa_cons (pe_lst (pa_cons pe_str pa_nil)) (pa_cons (pe_lst (pa_cons pe_str (pa_cons pe_str pa_nil))) pa_nil)))))
      (pss_cons (ps_set (i := 5) sc_law_parts.nd rfl (Or.inl rfl) (pe_call (ok_law_word T) (hr.mono (by decide)) rfl T.m_law_word T.F_law_word.kp T.b_law_word .nil pass0 (pa_cons (pv 0) (pa_cons (pe_lst (pa_cons pe_str pa_nil)) (pa_cons (pe_lst (pa_cons pe_str (pa_cons pe_str pa_nil))) pa_nil)))))
      (pss_cons (ps_set (i := 6) sc_law_parts.nd rfl (Or.inl rfl) (pe_call (ok_law_word T) (hr.mono (by decide)) rfl T.m_law_word T.F_law_word.kp T.b_law_word .nil pass0 (pa_cons (pv 0) (pa_cons (pe_lst (pa_cons pe_str pa_nil)) (pa_cons (pe_lst (pa_cons pe_str (pa_cons pe_str (pa_cons pe_str pa_nil)))) pa_nil)))))
      (pss_one (ps_ret (pe_lst (pa_cons (pv 1) (pa_cons (pv 4) (pa_cons (pv 5) (pa_cons (pv 6) (pa_cons (pv 3) pa_nil))))))))))))) pss_nil)
      (pss_cons (ps_set (i := 4) sc_law_parts.nd rfl (Or.inl rfl) (pe_call (ok_law_word T) (hr.mono (by decide)) rfl T.m_law_word T.F_law_word.kp T.b_law_word .nil pass0 (pa_cons (pv 0) (pa_cons (pe_lst (pa_cons pe_str (pa_cons pe_str pa_nil))) (pa_cons (pe_lst (pa_cons pe_str (pa_cons pe_str (pa_cons pe_str pa_nil)))) pa_nil)))))
      (pss_cons (ps_set (i := 5) sc_law_parts.nd rfl (Or.inl rfl) (pe_call (ok_law_word T) (hr.mono (by decide)) rfl T.m_law_word T.F_law_word.kp T.b_law_word .nil pass0 (pa_cons (pv 0) (pa_cons (pe_lst (pa_cons pe_str (pa_cons pe_str pa_nil))) (pa_cons (pe_lst (pa_cons pe_str (pa_cons pe_str (pa_cons pe_str pa_nil)))) pa_nil)))))
      (pss_cons (ps_set (i := 6) sc_law_parts.nd rfl (Or.inl rfl) (pe_call (ok_law_word T) (hr.mono (by decide)) rfl T.m_law_word T.F_law_word.kp T.b_law_word .nil pass0 (pa_cons (pv 0) (pa_cons (pe_lst (pa_cons pe_str (pa_cons pe_str (pa_cons pe_str pa_nil)))) (pa_cons (pe_lst (pa_cons pe_str (pa_cons pe_str (pa_cons pe_str pa_nil)))) pa_nil)))))
      (pss_one (ps_ret (pe_lst (pa_cons (pv 1) (pa_cons (pv 4) (pa_cons (pv 5) (pa_cons (pv 6) (pa_cons (pv 3) pa_nil)))))))))))))))), ?_⟩
    try dsimp only [L2.cxOf, L2.Cx.nox, L2.Cx.wish]
    change (_ : TS) _ ([some (.ref dk), none, none, none, none, none, none] : St) _
    walk_at "rd"
    refine Rd.xlst rfl fun la H1 n1 e1 hla => ?_
    walk_at "rd"
    refine Rd.xlst rfl fun lb H2 n2 e2 hlb => ?_
    have e02 := e1.trans e2
    have hD2 := e02 _ _ hD
    refine ⟨dk, la, lb, ["held", "held", "copied", "refused"], ["hold", "", "Held", "refused "], rfl, hD2, SqL.of (e2 _ _ hla), SqL.of hlb, by decide, by decide, fun mo => ?_⟩
    walk_at "rd"
    intro sz sz0 sz1
    obtain ⟨n, rfl⟩ := Int.eq_ofNat_of_zero_le sz0
    walk_at "rd"
    rw [show (1 : Int) + (n : Int) = ((1 + n : Nat) : Int) by omega]
    refine ⟨dk, 1 + n, rfl, hD2, by omega, fun rl R H3 hR hRl hRm => ?_⟩
    have hRD := hR.toD (by omega) (fun m q => by rw [hRm m q]; decide)
    have e03 := e02.trans hRD.1
    have hD3 := e03 _ _ hD
    walk_at "rd"
    refine ⟨fun σ H' => ∃ rl R, σ = [some (.ref dk), some (.str mo), some (.int ((1 + n : Nat) : Int)), some (.ref rl), none, none, none] ∧ RuleD K H H' rl R, ?_, ?_⟩
    · walk_at "rd"
      intro t t0 t1
      walk_at "rd"
      refine Rd.ifd (fun c1 => ?_) (fun c1 => ?_)
      · walk_at "rd"
        refine ⟨dk, 1 + n, rfl, hD3, by omega, by omega, fun rl' R' H4 hR' => ?_⟩
        walk_at "rd"
        exact ⟨rl', R', rfl, e03.trans hR'.1, hR'.2⟩
      · walk_at "rd"
        exact ⟨rl, R, rfl, e03, hRD.2⟩
    · rintro σ H4 ⟨rl4, R4, rfl, e4, hd4, hl4, hm4⟩
      have hD4 := e4 _ _ hD
      walk_at "rd"
      by_cases hmo : mo = "held"
      · walk_at "rd"
        refine Rd.xlst rfl fun l1 J1 m1 f1 g1 => ?_
        walk_at "rd"
        refine Rd.xlst rfl fun l2 J2 m2 f2 g2 => ?_
        have hDa := f2 _ _ (f1 _ _ hD4)
        refine ⟨dk, l1, l2, ["one", "each"], ["both", "", "One"], rfl, hDa, SqL.of (f2 _ _ g1), SqL.of g2, by decide, by decide, fun sh => ?_⟩
        walk_at "rd"
        refine Rd.xlst rfl fun l3 J3 m3 f3 g3 => ?_
        walk_at "rd"
        refine Rd.xlst rfl fun l4 J4 m4 f4 g4 => ?_
        have hDb := f4 _ _ (f3 _ _ hDa)
        refine ⟨dk, l3, l4, ["always", "call"], ["never", "", "calls"], rfl, hDb, SqL.of (f4 _ _ g3), SqL.of g4, by decide, by decide, fun le => ?_⟩
        walk_at "rd"
        refine Rd.xlst rfl fun l5 J5 m5 f5 g5 => ?_
        walk_at "rd"
        refine Rd.xlst rfl fun l6 J6 m6 f6 g6 => ?_
        have hDc := f6 _ _ (f5 _ _ hDb)
        refine ⟨dk, l5, l6, ["slot", "place", "pin"], ["pins", "", "slot,"], rfl, hDc, SqL.of (f6 _ _ g5), SqL.of g6, by decide, by decide, fun gr => ?_⟩
        walk_at "rd"
        refine Rd.xlst rfl fun sp J7 m7 f7 g7 => ?_
        have f17 := (((((f1.trans f2).trans f3).trans f4).trans f5).trans f6).trans f7
        exact k sp mo sh le gr R4 J7 (e4.trans f17) ⟨rl4, SqL.of g7, Dt.mn hd4 f17⟩ hl4 hm4
      · walk_at "rd"
        intro t t0 t1
        walk_at "rd"
        refine Rd.ifd (fun c1 => ?_) (fun c1 => ?_)
        · walk_at "rd"
          refine Rd.xtup rfl fun q1 J1 m1 f1 g1 => ?_
          walk_at "rd"
          refine Rd.xtup rfl fun q2 J2 m2 f2 g2 => ?_
          walk_at "rd"
          refine Rd.xtup rfl fun q3 J3 m3 f3 g3 => ?_
          walk_at "rd"
          refine Rd.xtup rfl fun q4 J4 m4 f4 g4 => ?_
          walk_at "rd"
          refine Rd.xtup rfl fun q5 J5 m5 f5 g5 => ?_
          walk_at "rd"
          refine Rd.xtup rfl fun q6 J6 m6 f6 g6 => ?_
          walk_at "rd"
          refine Rd.xlst rfl fun ml J7 m7 f7 g7 => ?_
          walk_at "rd"
          refine Rd.xlst rfl fun rl J8 m8 f8 g8 => ?_
          have d0 : DpAll K J7 [.ref q1, .ref q2, .ref q3, .ref q4, .ref q5, .ref q6] (still6.map pairD) := by
            unfold still6
            repeat (first | exact .nil | refine .cons ?_ ?_ | (refine Dt.ofT (by walk_at "hp") ?_) | exact .int _)
          have f16 := ((((f1.trans f2).trans f3).trans f4).trans f5).trans f6
          have b0 : RuleAs K H4 J8 rl [ml] [still6] := ((((MkAs.nil0 (K := K) H4).mono f16).snoc f7 m7 g7 d0)).close m8 f8 g8
          have f18 := b0.mks.ex
          have hD8 := f18 _ _ hD4
          have hml : J8 ml = some (.lst [.ref q1, .ref q2, .ref q3, .ref q4, .ref q5, .ref q6]) := f8 _ _ g7
          walk_at "rd"
          refine ⟨fun σ H' => ∃ R, σ = [some (.ref dk), some (.str mo), some (.int ((1 + n : Nat) : Int)), some (.ref rl), none, none, none] ∧ RuleD K H4 H' rl R, ?_, ?_⟩
          · walk_at "rd"
            intro u u0 u1
            walk_at "rd"
            refine Rd.ifd (fun c2 => ?_) (fun c2 => ?_)
            · walk_at "rd"
              intro w0 w00 w01
              walk_at "rd"
              refine Rd.xtup rfl fun q H9 n9 e9 hq => ?_
              have hD9 := e9 _ _ hD8
              walk_at "rd"
              intro x x0 x1
              obtain ⟨j, rfl⟩ := Int.eq_ofNat_of_zero_le x0
              refine Rd.setL (e9 _ _ hml) (n := j) (Evl.ixN_nat (by simp; omega)) ?_
              have hs := (b0.mono e9).set (i := 0) (j := j) (p := (0, 1 - 2 * w0)) rfl rfl (e9 _ _ hml) (Dt.mnA (Dt.mnA d0 f8) e9) hq
              refine ⟨_, rfl, RuleAt.toD ⟨_, hs⟩ (by simp) fun m' hm' => ?_⟩
              rcases List.mem_or_eq_of_mem_set hm' with q | rfl
              · cases List.mem_singleton.mp q; decide
              · rw [List.length_set]; decide
            · walk_at "rd"
              exact ⟨_, rfl, RuleAt.toD ⟨_, b0⟩ (by decide) fun m' hm' => by cases List.mem_singleton.mp hm'; decide⟩
          · rintro σ H5 ⟨R5, rfl, e5, hd5, hl5, hm5⟩
            have hD5 := e5 _ _ hD4
            clear f1 f2 f3 f4 f5 f6 f7 f8 g1 g2 g3 g4 g5 g6 g7 g8 m1 m2 m3 m4 m5 m6 m7 m8 f16 f18 b0 d0 hD8 hml
            walk_at "rd"
            refine Rd.xlst rfl fun l1 J1 m1 f1 g1 => ?_
            walk_at "rd"
            refine Rd.xlst rfl fun l2 J2 m2 f2 g2 => ?_
            have hDa := f2 _ _ (f1 _ _ hD5)
            refine ⟨dk, l1, l2, ["one"], ["each", "all"], rfl, hDa, SqL.of (f2 _ _ g1), SqL.of g2, by decide, by decide, fun sh => ?_⟩
            walk_at "rd"
            refine Rd.xlst rfl fun l3 J3 m3 f3 g3 => ?_
            walk_at "rd"
            refine Rd.xlst rfl fun l4 J4 m4 f4 g4 => ?_
            have hDb := f4 _ _ (f3 _ _ hDa)
            refine ⟨dk, l3, l4, ["always"], ["call", "calls"], rfl, hDb, SqL.of (f4 _ _ g3), SqL.of g4, by decide, by decide, fun le => ?_⟩
            walk_at "rd"
            refine Rd.xlst rfl fun l5 J5 m5 f5 g5 => ?_
            walk_at "rd"
            refine Rd.xlst rfl fun l6 J6 m6 f6 g6 => ?_
            have hDc := f6 _ _ (f5 _ _ hDb)
            refine ⟨dk, l5, l6, ["slot"], ["place", "pin", "slots"], rfl, hDc, SqL.of (f6 _ _ g5), SqL.of g6, by decide, by decide, fun gr => ?_⟩
            walk_at "rd"
            refine Rd.xlst rfl fun sp J7 m7 f7 g7 => ?_
            have f17 := (((((f1.trans f2).trans f3).trans f4).trans f5).trans f6).trans f7
            exact k sp mo sh le gr R5 J7 ((e4.trans e5).trans f17) ⟨rl, SqL.of g7, Dt.mn hd5 f17⟩ hl5 hm5
        · walk_at "rd"
          refine Rd.xlst rfl fun l1 J1 m1 f1 g1 => ?_
          walk_at "rd"
          refine Rd.xlst rfl fun l2 J2 m2 f2 g2 => ?_
          have hDa := f2 _ _ (f1 _ _ hD4)
          refine ⟨dk, l1, l2, ["one", "each"], ["both", "", "One"], rfl, hDa, SqL.of (f2 _ _ g1), SqL.of g2, by decide, by decide, fun sh => ?_⟩
          walk_at "rd"
          refine Rd.xlst rfl fun l3 J3 m3 f3 g3 => ?_
          walk_at "rd"
          refine Rd.xlst rfl fun l4 J4 m4 f4 g4 => ?_
          have hDb := f4 _ _ (f3 _ _ hDa)
          refine ⟨dk, l3, l4, ["always", "call"], ["never", "", "calls"], rfl, hDb, SqL.of (f4 _ _ g3), SqL.of g4, by decide, by decide, fun le => ?_⟩
          walk_at "rd"
          refine Rd.xlst rfl fun l5 J5 m5 f5 g5 => ?_
          walk_at "rd"
          refine Rd.xlst rfl fun l6 J6 m6 f6 g6 => ?_
          have hDc := f6 _ _ (f5 _ _ hDb)
          refine ⟨dk, l5, l6, ["slot", "place", "pin"], ["pins", "", "slot,"], rfl, hDc, SqL.of (f6 _ _ g5), SqL.of g6, by decide, by decide, fun gr => ?_⟩
          walk_at "rd"
          refine Rd.xlst rfl fun sp J7 m7 f7 g7 => ?_
          have f17 := (((((f1.trans f2).trans f3).trans f4).trans f5).trans f6).trans f7
          exact k sp mo sh le gr R4 J7 (e4.trans f17) ⟨rl4, SqL.of g7, Dt.mn hd4 f17⟩ hl4 hm4
/-! split -/
def spInOrder (K : PySem.W.Frag) : Sp := fun vs H Q _ => ∃ (l : Addr) (R : Rule), vs = [.ref l] ∧ Dp K H (.ref l) (ruleL R) ∧ Q (.bl (ruleB R)) H
theorem ruleB_bad {R : Rule} {m : List (Int × Int)} (hm : m ∈ R) (h : markB R.length m = false) : ruleB R = false := by
  unfold ruleB
  rw [Bool.and_eq_false_iff]
  right
  rw [List.all_eq_false]
  exact ⟨m, hm, by rw [h]; decide⟩
theorem markB_bad {n : Int} {m : List (Int × Int)} {p : Int × Int} (hp : p ∈ m) (h : ¬ (0 ≤ p.1 ∧ p.1 < n ∧ p.2.natAbs ≤ 3)) : markB n m = false := by
  unfold markB
  rw [Bool.and_eq_false_iff]
  right
  rw [List.all_eq_false]
  refine ⟨p, hp, ?_⟩
  simp
  omega
theorem markB_six {n : Int} {m : List (Int × Int)} (h : ¬ m.length = 6) : markB n m = false := by
  unfold markB; rw [decide_eq_false h]; rfl
theorem ok_law_rule_in_order {ad : Ad} (T : Txt K mg ad) : FnOk P w K mg base CX0 1 ad.a_law_rule_in_order ad.d_law_rule_in_order ["rule"] (spInOrder K) := by
  refine T.F_law_rule_in_order.ok sc_law_rule_in_order (fun vs H Q E h => ?_) (fun cdv A outer s H vs Q E hr h => ?_)
  · obtain ⟨l, R, rfl, hR, k⟩ := h
    rfl
  · obtain ⟨l, R, rfl, hR, k⟩ := h
    refine ⟨_, (pss_cons (ps_if (pt_not (pt_chain op_le op_le pe_int (pe_callB (id := "len") Rd.c_len (by rfl) T.z_len (by decide +kernel) (pa_cons (pv 0) pa_nil)) pe_int)) (pss_one (ps_ret pe_bl)) pss_nil)
      (pss_cons (ps_for PassesOwn.never rfl (pi_list (pv 0)) (pg_name (i := 1) sc_law_rule_in_order.nd rfl (Or.inl rfl)) (pss_cons (ps_if (pt_cmpR op_ne (pe_callB (id := "len") Rd.c_len (by rfl) T.z_len (by decide +kernel) (pa_cons (pv 1) pa_nil)) pe_int (nomark _)) (pss_one (ps_ret pe_bl)) pss_nil)
      (pss_one (ps_for PassesOwn.never rfl (pi_list (pv 1)) (pg_name (i := 2) sc_law_rule_in_order.nd rfl (Or.inl rfl)) (pss_one (ps_if (PW.pt (pw_or (pt_not (pt_chain op_le op_lt pe_int (pe_ix ix_tup (pv 2) pe_int (fun _ _ => rfl)) (pe_callB (id := "len") Rd.c_len (by rfl) T.z_len (by decide +kernel) (pa_cons (pv 0) pa_nil)))) (pw_or1 (pt_not (pt_chain op_le op_le (pe_un un_neg pe_int) (pe_ix ix_tup (pv 2) pe_int (fun _ _ => rfl)) pe_int))))) (pss_one (ps_ret pe_bl)) pss_nil))))))
      (pss_one (ps_ret pe_bl)))), ?_⟩
    try dsimp only [L2.cxOf, L2.Cx.nox, L2.Cx.wish]
    change (_ : TS) _ ([some (.ref l), none, none] : St) _
    obtain ⟨l', vs, e, hs, hA⟩ := Dt.inv_l hR
    cases e
    have hl := lenMap hA
    have no : ruleB R = false → Q (.bl false) H := fun h => by rw [h] at k; exact k
    have yes : ruleB R = true → Q (.bl true) H := fun h => by rw [h] at k; exact k
    clear k
    walk_at "rd"
    refine Rd.ifd (fun c1 => ?_) (fun c1 => ?_)
    · walk_at "rd"
      refine Rd.ifNd (fun c2 => ?_) (fun c2 => ?_)
      · walk_at "rd"
        exact no (by unfold ruleB; rw [decide_eq_false (p := R.length ≤ 4) (by omega)]; simp)
      · walk_at "rd"
        refine Rd.xfl hs (fun i σ H' => ∃ v1 v2, σ = [some (.ref l), v1, v2] ∧ H' = H ∧ (R.take i).all (markB R.length) = true) ⟨_, _, rfl, rfl, rfl⟩ (fun i σ H' _ ⟨_, _, _, e, _⟩ => by rw [e]; exact hs) ?_ ?_
        · rintro i y σ Hc hi ⟨v1, v2, rfl, rfl, hal⟩
          obtain ⟨m, hm, hv⟩ := mapA hA hi
          obtain ⟨am, vm, rfl, hsm, hAm⟩ := Dt.inv_l hv
          have hml := lenMap hAm
          have bad : markB R.length m = false → Q (.bl false) _ := fun h => no (ruleB_bad (mem_get hm) h)
          walk_at "rd"
          refine Rd.ifNd (fun c3 => ?_) (fun c3 => ?_)
          · walk_at "rd"
            exact bad (markB_six (by omega))
          · walk_at "rd"
            have h6 : m.length = 6 := by omega
            refine Rd.xfl hsm (fun j σ H' => ∃ v2, σ = [some (.ref l), some (.ref am), v2] ∧ H' = Hc ∧ (m.take j).all (fun p => decide (0 ≤ p.1) && decide (p.1 < R.length) && decide (p.2.natAbs ≤ 3)) = true) ⟨_, rfl, rfl, rfl⟩ (fun j σ H' _ ⟨_, _, e, _⟩ => by rw [e]; exact hsm) ?_ ?_
            · rintro j z σ Hd hj ⟨v2, rfl, rfl, hal2⟩
              obtain ⟨p, hp, hpv⟩ := mapA hAm hj
              obtain ⟨q, rfl, hq⟩ := pair_inv hpv
              have hpm := mem_get hp
              have good : 0 ≤ p.1 ∧ p.1 < R.length ∧ p.2.natAbs ≤ 3 → (m.take (j + 1)).all (fun p => decide (0 ≤ p.1) && decide (p.1 < R.length) && decide (p.2.natAbs ≤ 3)) = true := fun ⟨g1, g2, g3⟩ => by
                rw [List.take_add_one, hp, List.all_append, hal2]
                simp [g1, g2, g3]
              walk_at "rd"
              refine Rd.ifd (fun c4 => ?_) (fun c4 => ?_)
              · walk_at "rd"
                refine Rd.ifNd (fun c5 => ?_) (fun c5 => ?_)
                · walk_at "rd"
                  exact bad (markB_bad hpm (by omega))
                · walk_at "rd"
                  refine Rd.ifd (fun c6 => ?_) (fun c6 => ?_)
                  · walk_at "rd"
                    refine Rd.ifNd (fun c7 => ?_) (fun c7 => ?_)
                    · walk_at "rd"
                      exact bad (markB_bad hpm (by omega))
                    · walk_at "rd"
                      exact ⟨_, rfl, rfl, good (by omega)⟩
                  · walk_at "rd"
                    exact bad (markB_bad hpm (by omega))
              · walk_at "rd"
                exact bad (markB_bad hpm (by omega))
            · rintro σ Hd ⟨v2, rfl, rfl, hal2⟩
              refine ⟨_, _, rfl, rfl, ?_⟩
              have e : markB R.length m = true := by
                unfold markB
                rw [decide_eq_true h6, Bool.true_and]
                rw [hml, List.take_length] at hal2
                exact hal2
              rw [List.take_add_one, hm, List.all_append, hal]
              simp [e]
        · rintro σ Hc ⟨v1, v2, rfl, rfl, hal⟩
          walk_at "rd"
          refine yes ?_
          unfold ruleB
          rw [decide_eq_true (p := 1 ≤ R.length) (by omega), decide_eq_true (p := R.length ≤ 4) (by omega), Bool.true_and, Bool.true_and]
          rw [hl, List.take_length] at hal
          exact hal
    · walk_at "rd"
      exact no (by unfold ruleB; rw [decide_eq_false (p := 1 ≤ R.length) (by omega)]; rfl)
def spFirstWrong (K : PySem.W.Frag) : Sp := fun vs H Q _ => ∃ (sp : Addr) (mo sh le gr : Str) (R : Rule), vs = [.ref sp] ∧ SpecAt K H sp mo sh le gr R ∧
  (∀ s H', Wrong mo sh le gr R s → Evl.Ex H H' → Q (.str s) H') ∧ (Right mo sh le gr R → ∀ H', Evl.Ex H H' → Q (.str "") H')
theorem ok_law_first_wrong {ad : Ad} (T : Txt K mg ad) : FnOk P w K mg base CX0 2 ad.a_law_first_wrong ad.d_law_first_wrong ["parts"] (spFirstWrong K) := by
  refine T.F_law_first_wrong.ok sc_law_first_wrong (fun vs H Q E h => ?_) (fun cdv A outer s H vs Q E hr h => ?_)
  · obtain ⟨sp, mo, sh, le, gr, R, rfl, ⟨rl, hsp, hrl⟩, kw, kr⟩ := h
    rfl
  · obtain ⟨sp, mo, sh, le, gr, R, rfl, ⟨rl, hsp, hrl⟩, kw, kr⟩ := h
    refine ⟨_, (pss_cons (ps_set (i := 1) sc_law_first_wrong.nd rfl (Or.inl rfl) (pe_cmpR op_eq (pe_ix ix_list (pv 0) pe_int (fun _ _ => rfl)) pe_str (nomark _)))
      (Evl.pss_cut (ps_if (pt_cmpR op_notIn_seq (pe_ix ix_list (pv 0) pe_int (fun _ _ => rfl)) (pe_tup (pa_cons pe_str (pa_cons pe_str (pa_cons pe_str pa_nil)))) (by with_unfolding_all rfl)) (pss_one (ps_ret pe_str)) pss_nil)
      (Evl.pss_cut (ps_if (PW.pt (pw_and (pt_cmpR op_ne (pe_ix ix_list (pv 0) pe_int (fun _ _ => rfl)) pe_str (nomark _)) (pw_and1 (PW.pt (pw_or (pt_cmpR op_ne (pe_ix ix_list (pv 0) pe_int (fun _ _ => rfl)) pe_str (nomark _)) (pw_or1 (pt_not (pt_val (pv 1))))))))) (pss_one (ps_ret pe_str)) pss_nil)
      (Evl.pss_cut (ps_if (PW.pt (pw_and (pt_cmpR op_ne (pe_ix ix_list (pv 0) pe_int (fun _ _ => rfl)) pe_str (nomark _)) (pw_and1 (PW.pt (pw_or (pt_cmpR op_ne (pe_ix ix_list (pv 0) pe_int (fun _ _ => rfl)) pe_str (nomark _)) (pw_or1 (pt_not (pt_val (pv 1))))))))) (pss_one (ps_ret pe_str)) pss_nil)
      (Evl.pss_cut (ps_if (PW.pt (pw_and (pt_cmpR op_ne (pe_ix ix_list (pv 0) pe_int (fun _ _ => rfl)) pe_str (nomark _)) (pw_and1 (PW.pt (pw_or (pt_cmpR op_notIn_seq (pe_ix ix_list (pv 0) pe_int (fun _ _ => rfl)) (pe_tup (pa_cons pe_str (pa_cons pe_str pa_nil))) (by with_unfolding_all rfl)) (pw_or1 (pt_not (pt_val (pv 1))))))))) (pss_one (ps_ret pe_str)) pss_nil)
      (Evl.pss_cut (ps_if (pt_not (pt_val (pe_call (ok_law_rule_in_order T) (hr.mono (by decide)) rfl T.m_law_rule_in_order T.F_law_rule_in_order.kp T.b_law_rule_in_order .nil pass0 (pa_cons (pe_ix ix_list (pv 0) pe_int (fun _ _ => rfl)) pa_nil)))) (pss_one (ps_ret pe_str)) pss_nil)
      (Evl.pss_cut (ps_if (PW.pt (pw_and (pt_not (pt_val (pv 1))) (pw_and1 (pt_cmpR (op_neD hr.units) (pe_ix ix_list (pv 0) pe_int (fun _ _ => rfl)) (pe_lst (pa_cons (pe_lst (pa_cons (pe_tup (pa_cons pe_int (pa_cons pe_int pa_nil))) (pa_cons (pe_tup (pa_cons pe_int (pa_cons pe_int pa_nil))) (pa_cons (pe_tup (pa_cons pe_int (pa_cons pe_int pa_nil))) (pa_cons (pe_tup (pa_cons pe_int (pa_cons pe_int pa_nil))) (pa_cons (pe_tup (pa_cons pe_int (pa_cons pe_int pa_nil))) (pa_cons (pe_tup (pa_cons pe_int (pa_cons pe_int pa_nil))) pa_nil))))))) pa_nil)) (nomark _))))) (pss_one (ps_ret pe_str)) pss_nil)
      (pss_one (ps_ret pe_str))))))))), ?_⟩
    try dsimp only [L2.cxOf, L2.Cx.nox, L2.Cx.wish]
    change (_ : TS) _ ([some (.ref sp), none] : St) _
    walk_at "rd"
    refine ⟨fun σ H' => σ = [some (.ref sp), some (.bl (decide (mo = "held")))] ∧ Evl.Ex H H' ∧ M1 mo, ?_, ?_⟩
    · walk_at "rd"
      refine Rd.xtup rfl fun q1 J1 m1 f1 g1 => ?_
      refine Rd.ninT (K := K) (SqT.of g1) rfl rfl inM1 ?_
      walk_at "rd"
      refine Rd.ifNd (fun h => ?_) (fun h => ?_)
      · walk_at "rd"
        exact kw "mode" _ (.inl ⟨h, rfl⟩) f1
      · walk_at "rd"
        exact ⟨rfl, f1, h⟩
    rintro σ Hc ⟨rfl, ec, hm1⟩
    have hspc := Evl.ex_l ec hsp
    walk_at "rd"
    refine ⟨fun σ H' => σ = [some (.ref sp), some (.bl (decide (mo = "held")))] ∧ Evl.Ex H H' ∧ M2 mo sh, ?_, ?_⟩
    · walk_at "rd"
      by_cases h : sh = "one"
      · walk_at "rd"
        exact ⟨rfl, ec, .inl h⟩
      · walk_at "rd"
        by_cases h2 : sh = "each"
        · walk_at "rd"
          by_cases hh : mo = "held"
          · walk_at "rd"
            exact ⟨rfl, ec, .inr ⟨h2, hh⟩⟩
          · walk_at "rd"
            exact kw "sharing" _ (.inr (.inl ⟨hm1, fun z => z.elim h fun z => hh z.2, rfl⟩)) ec
        · walk_at "rd"
          exact kw "sharing" _ (.inr (.inl ⟨hm1, fun z => z.elim h fun z => h2 z.1, rfl⟩)) ec
    rintro σ Hd ⟨rfl, ed, hm2⟩
    clear hspc ec
    have hspd := Evl.ex_l ed hsp
    walk_at "rd"
    refine ⟨fun σ H' => σ = [some (.ref sp), some (.bl (decide (mo = "held")))] ∧ Evl.Ex H H' ∧ M3 mo le, ?_, ?_⟩
    · walk_at "rd"
      by_cases h : le = "always"
      · walk_at "rd"
        exact ⟨rfl, ed, .inl h⟩
      · walk_at "rd"
        by_cases h2 : le = "call"
        · walk_at "rd"
          by_cases hh : mo = "held"
          · walk_at "rd"
            exact ⟨rfl, ed, .inr ⟨h2, hh⟩⟩
          · walk_at "rd"
            exact kw "lease" _ (.inr (.inr (.inl ⟨hm1, hm2, fun z => z.elim h fun z => hh z.2, rfl⟩))) ed
        · walk_at "rd"
          exact kw "lease" _ (.inr (.inr (.inl ⟨hm1, hm2, fun z => z.elim h fun z => h2 z.1, rfl⟩))) ed
    rintro σ He ⟨rfl, ee, hm3⟩
    clear hspd ed
    have hspe := Evl.ex_l ee hsp
    walk_at "rd"
    refine ⟨fun σ H' => σ = [some (.ref sp), some (.bl (decide (mo = "held")))] ∧ Evl.Ex H H' ∧ M4 mo gr, ?_, ?_⟩
    · walk_at "rd"
      by_cases h : gr = "slot"
      · walk_at "rd"
        exact ⟨rfl, ee, .inl h⟩
      · walk_at "rd"
        refine Rd.xtup rfl fun q1 J1 m1 f1 g1 => ?_
        refine Rd.ninT (K := K) (SqT.of g1) rfl rfl inTwo ?_
        walk_at "rd"
        refine Rd.ifNd (fun h2 => ?_) (fun h2 => ?_)
        · walk_at "rd"
          exact kw "grip" _ (.inr (.inr (.inr (.inl ⟨hm1, hm2, hm3, fun z => z.elim h fun z => h2 z.1, rfl⟩)))) (ee.trans f1)
        · by_cases hh : mo = "held"
          · walk_at "rd"
            exact ⟨rfl, ee.trans f1, .inr ⟨h2, hh⟩⟩
          · walk_at "rd"
            exact kw "grip" _ (.inr (.inr (.inr (.inl ⟨hm1, hm2, hm3, fun z => z.elim h fun z => hh z.2, rfl⟩)))) (ee.trans f1)
    rintro σ Hf ⟨rfl, ef, hm4⟩
    clear hspe ee
    have hspf := Evl.ex_l ef hsp
    have hrlf := Dt.mn hrl ef
    walk_at "rd"
    refine ⟨fun σ H' => σ = [some (.ref sp), some (.bl (decide (mo = "held")))] ∧ H' = Hf ∧ ruleB R = true, ?_, ?_⟩
    · walk_at "rd"
      refine ⟨rl, R, rfl, hrlf, ?_⟩
      cases hb : ruleB R with
      | false =>
        walk_at "rd"
        exact kw "rule" _ (.inr (.inr (.inr (.inr ⟨hm1, hm2, hm3, hm4, fun z => (by have z1 := z.1; rw [hb] at z1; cases z1), rfl⟩)))) ef
      | true =>
        walk_at "rd"
        exact ⟨rfl, rfl, rfl⟩
    rintro σ Hg ⟨rfl, rfl, hb⟩
    walk_at "rd"
    refine ⟨fun σ H' => σ = [some (.ref sp), some (.bl (decide (mo = "held")))] ∧ Evl.Ex H H' ∧ M5 mo R, ?_, ?_⟩
    · by_cases hh : mo = "held"
      · walk_at "rd"
        exact ⟨rfl, ef, hb, .inl hh⟩
      · walk_at "rd"
        refine Rd.xtup rfl fun q1 J1 m1 f1 g1 => ?_
        walk_at "rd"
        refine Rd.xtup rfl fun q2 J2 m2 f2 g2 => ?_
        walk_at "rd"
        refine Rd.xtup rfl fun q3 J3 m3 f3 g3 => ?_
        walk_at "rd"
        refine Rd.xtup rfl fun q4 J4 m4 f4 g4 => ?_
        walk_at "rd"
        refine Rd.xtup rfl fun q5 J5 m5 f5 g5 => ?_
        walk_at "rd"
        refine Rd.xtup rfl fun q6 J6 m6 f6 g6 => ?_
        walk_at "rd"
        refine Rd.xlst rfl fun ml J7 m7 f7 g7 => ?_
        walk_at "rd"
        refine Rd.xlst rfl fun sl J8 m8 f8 g8 => ?_
        have hd : Dp K J8 (.ref sl) (ruleL [still6]) := by
          refine Dt.ofL (by walk_at "hp") (.cons (Dt.ofL (by walk_at "hp") ?_) .nil)
          unfold still6
          repeat (first | exact .nil | refine .cons ?_ ?_ | (refine Dt.ofT (by walk_at "hp") ?_) | exact .int _)
        have f18 := (((((((f1.trans f2).trans f3).trans f4).trans f5).trans f6).trans f7).trans f8)
        refine Rd.neD (Dt.mn hrlf f18) hd (shp_ruleL R) (shp_ruleL [still6]) ?_
        rw [show PyData.eqv (ruleL R) (ruleL [still6]) = decide (R = [still6]) from by unfold ruleL; simp only [PyData.eqv, eqv_marksL]]
        walk_at "rd"
        refine Rd.ifNd (fun h => ?_) (fun h => ?_)
        · walk_at "rd"
          exact kw "rule" _ (.inr (.inr (.inr (.inr ⟨hm1, hm2, hm3, hm4, fun z => z.2.elim hh h, rfl⟩)))) (ef.trans f18)
        · walk_at "rd"
          exact ⟨rfl, ef.trans f18, hb, .inr h⟩
    rintro σ Hg2 ⟨rfl, eg, hm5⟩
    walk_at "rd"
    exact kr ⟨hm1, hm2, hm3, hm4, hm5⟩ _ eg
/-! split -/
/-! ### rows handed in -/
theorem x_copy {K : PySem.W.Frag} {σ : L2.St} {vs : List Nat} {H : Hp} {Q : VK} {rl : Addr} {R : Rule} {te : TE} {j : Nat} (hR : Dp K H (.ref rl) (ruleL R)) (h5 : R.length ≤ 5) (hw : ∀ x, wipe ((wipe σ vs).set j (some x)) vs = wipe σ vs)
    (ht : ∀ (H' : Hp) (am : Addr) (vm : List V) (Q' : VK), SqL K H' am vm → (∀ p H2, H' p = none → Evl.Ex H' H2 → H2 p = some (.lst vm) → Q' (.ref p) H2) → te ((wipe σ vs).set j (some (.ref am))) H' Q')
    (q : ∀ p as H', RuleAs K H H' p as R → Q (.ref p) H') : Rd.xLcL K (gName j) tYes te vs σ (.ref rl) H Q := by
  obtain ⟨al, ws, eal, hs, hA⟩ := Dt.inv_l hR
  cases eal
  have hl := lenMap hA
  refine ⟨rl, rfl, ⟨ws, hs⟩, fun D hD => lc_list (xs := ws) (fun i H' => ∃ as, RuleAs K H H' D as (R.take i)) ⟨[], (MkAs.nil0 H).close hD (Evl.Ex.new hD) upd_same⟩ (fun i H' _ ⟨as, h⟩ => Evl.ex_l h.mks.ex hs) ?_ ?_⟩
  · rintro i x H' hi ⟨as, h⟩
    obtain ⟨m, hm, hv⟩ := mapA hA hi
    obtain ⟨am, vm, rfl, hsm, hAm⟩ := Dt.inv_l hv
    have hi2 := (List.getElem?_eq_some_iff.mp hi).1
    have hal : as.length ≤ 5 := by rw [h.mks.len, List.length_take]; omega
    refine ⟨hw _, iteT (B := ∃ as, RuleAs K H H' D as (R.take (i + 1))) (ht H' am vm _ (Evl.ex_l h.mks.ex hsm) fun p H2 np e2 hp => ?_)⟩
    refine ⟨as.map V.ref, e2 _ _ h.at_, Evl.sz_lt (by rw [List.length_map]; omega), as ++ [p], ?_⟩
    rw [List.take_add_one, hm]
    exact h.snoc e2 np hp (Dt.mnA hAm (h.mks.ex.trans e2))
  · rintro H' ⟨as, h⟩
    rw [hl, List.take_length] at h
    exact q D as H' h
theorem RowAt.updl {K : PySem.W.Frag} {C : Addr} {H : Hp} {r l : Addr} {mo sh le gr : Str} {R : Rule} {ws : List V} {o : HO} (h : RowAt K C H r mo sh le gr R) (hl : H l = some (.lst ws)) : RowAt K C (upd H l o) r mo sh le gr R := by
  obtain ⟨dx, tr, h1, h2⟩ := h
  exact ⟨dx, tr, by rw [upd_ne (ne_of h1 hl (by intro z; cases z))]; exact h1, Dt.updL hl _ _ (noL_ruleT R) h2⟩
theorem ruleB_six {R : Rule} (h : ruleB R = true) {m : List (Int × Int)} (hm : m ∈ R) : m.length = 6 := by
  unfold ruleB at h
  rw [Bool.and_eq_true, List.all_eq_true] at h
  have h2 := h.2 m hm
  unfold markB at h2
  rw [Bool.and_eq_true, decide_eq_true_eq] at h2
  exact h2.1
theorem ruleB_ne {R : Rule} (h : ruleB R = true) : 0 < R.length := by
  unfold ruleB at h
  rw [Bool.and_eq_true, Bool.and_eq_true, decide_eq_true_eq] at h
  omega
def spRefused (K : PySem.W.Frag) : Sp := fun vs H Q _ => ∃ (sp : Addr) (mo sh le gr s : Str) (R : Rule), vs = [.ref sp, .str s] ∧ SpecAt K H sp mo sh le gr R ∧ Wrong mo sh le gr R s ∧ R.length ≤ 5 ∧ (∀ m ∈ R, m.length ≤ 7) ∧ ∀ H', Evl.Ex H H' → Q (.bl true) H'
theorem ok_law_refused {ad : Ad} (T : Txt K mg ad) : FnOk P w K mg base CX0 5 ad.a_law_refused ad.d_law_refused ["parts", "what"] (spRefused K) := by
  refine T.F_law_refused.ok sc_law_refused (fun vs H Q E h => ?_) (fun cdv A outer s H vs Q E hr h => ?_)
  · obtain ⟨sp, mo, sh, le, gr, s1, R, rfl, ⟨rl, hsp, hrl⟩, hw, h5, h7, k⟩ := h
    rfl
  · obtain ⟨sp, mo, sh, le, gr, s1, R, rfl, ⟨rl, hsp, hrl⟩, hw, h5, h7, k⟩ := h
    refine ⟨_, (pss_cons (ps_try_as (i := 3) (tb := fun W => (tDrop (tMakeS _ _ (WE W) _))) (ts := fun a cls d => (tSeq (tIfS (tOr (tNot (tB (tCB (rIsD K cls d a) _))) (tNot (tB (tCB (rIsD K cls d a) _)))) _ _) (tSeq (tIfS (tOr (tB (tCB (rIsD K cls d a) _)) (tB (tCB (rIsD K cls d a) _))) _ _) (tRet (tAndV (tCB _ (tCons (tXf a cls d _ _ (tVar 3)) (tCons _ tNil))) (tOp _ (tXf a cls d _ _ (tVar 3)) _)))))) (Wout := fun _ _ _ _ => False) rfl rfl sc_law_refused.nd rfl rfl ⟨rfl, by decide, Or.inl T.mg_BridgeError⟩ takes0 (fun W pn xe tk hp => (pss_one (ps_expr (pe_makeS T.mk_Row (ok_Row_init_ T) (hr.mono (by decide)) rfl T.mg_Row T.b_Row_init_ (fun σ => passAt tk σ) (pa_cons (pe_ix (ix_list : IxR _ (rIxL K)) (pv 0) pe_int (fun _ _ => rfl)) (pa_cons (pe_ix (ix_list : IxR _ (rIxL K)) (pv 0) pe_int (fun _ _ => rfl)) (pa_cons (pe_ix (ix_list : IxR _ (rIxL K)) (pv 0) pe_int (fun _ _ => rfl)) (pa_cons (pe_ix (ix_list : IxR _ (rIxL K)) (pv 0) pe_int (fun _ _ => rfl)) (pa_cons (pe_lc (own := [("mark", 2)]) (g := gName 2) (tt := tYes) rfl sc_law_refused.nd (pi_list (pe_ix (ix_list : IxR _ (rIxL K)) (pv 0) pe_int (fun _ _ => rfl)) : PI _ _ _ (iList K _)) (blkOk_by (N := ["parts", "what", "mark", "e"]) (sc := defScope s_law_refused) (by decide +kernel)) (fun _ _ _ _ _ => (pg_name (i := 2) sc_law_refused.nd rfl (Or.inl rfl))) (fun _ _ _ _ _ => pts_nil) (fun _ _ _ _ _ => (pe_callTy (T := "list") (Rd.c_list : CallR _ _ (Rd.rListOf K)) (by rfl) T.z_list (by decide +kernel) (pa_cons (pv 2) pa_nil)))) pa_nil))))))))) (fun a oe cls d pn hz hf => (pss_cons (ps_if (PW.pt (pw_or (pt_not (pt_val (pe_callB (id := "isinstance") (call_isD hz hf) (by rfl) T.z_isinstance (by decide +kernel) (pa_cons (pv 3) (pa_cons (pe_glob (v := .ref ad.c_InvalidRow) rfl T.mg_InvalidRow rfl) pa_nil))))) (pw_or1 (pt_not (pt_val (pe_callB (id := "isinstance") (call_isD hz hf) (by rfl) T.z_isinstance (by decide +kernel) (pa_cons (pv 3) (pa_cons (pe_bltn rfl T.z_ValueError (by decide +kernel) (v := .ty "ValueError") rfl) pa_nil)))))))) (pss_one (ps_ret pe_bl)) pss_nil)
      (pss_cons (ps_if (PW.pt (pw_or (pt_val (pe_callB (id := "isinstance") (call_isD hz hf) (by rfl) T.z_isinstance (by decide +kernel) (pa_cons (pv 3) (pa_cons (pe_glob (v := .ref ad.c_InvalidMap) rfl T.mg_InvalidMap rfl) pa_nil)))) (pw_or1 (pt_val (pe_callB (id := "isinstance") (call_isD hz hf) (by rfl) T.z_isinstance (by decide +kernel) (pa_cons (pv 3) (pa_cons (pe_glob (v := .ref ad.c_ImpossibleLife) rfl T.mg_ImpossibleLife rfl) pa_nil))))))) (pss_one (ps_ret pe_bl)) pss_nil)
      (pss_one (ps_ret (pe_and (pe_callB (id := "isinstance") (call_isi : CallR _ _ (rIsi K)) (by rfl) T.z_isinstance (by decide +kernel) (pa_cons (pe_xf T.xd_InvalidRow.xf T.nx_InvalidRow_what hz hf (pv 3)) (pa_cons (pe_bltn rfl T.z_str (by decide +kernel) (v := .ty "str") rfl) pa_nil))) (pe_one (pe_cmpR op_eq (pe_xf T.xd_InvalidRow.xf T.nx_InvalidRow_what hz hf (pv 3)) (pv 1) (nomark _))))))))))
      (pss_one (ps_ret pe_bl))), ?_⟩
    try dsimp only [L2.cxOf, L2.Cx.nox, L2.Cx.wish]
    change (_ : TS) _ ([some (.ref sp), some (.str s1), none, none] : St) _
    have cl_Row := T.cl_Row
    have n_Row_grip := T.n_Row_grip
    have n_Row_lease := T.n_Row_lease
    have n_Row_mode := T.n_Row_mode
    have n_Row_rule := T.n_Row_rule
    have n_Row_sharing := T.n_Row_sharing
    walk_at "rd"
    refine x_copy hrl h5 (fun _ => rfl) (fun H' am vm Q' hsm q => ?_) fun p as H1 hR => ?_
    · walk_at "rd"
      exact Rd.listOf hsm q
    · walk_at "rd"
      refine x_rowX hR.dp (.inl rfl) (by omega) (fun m hm => by have := h7 m hm; omega) (fun ok x H2 e2 n2 h2 => (hw.not ok).elim) (fun s2 d H2 hw2 e2 hd => ?_)
      obtain rfl := hw.uniq hw2
      refine ⟨true, T.em_InvalidRow_BridgeError, fun _ a na => ?_, fun q => Bool.noConfusion q⟩
      walk_at "rd"
      refine Rd.isD T.xd_InvalidRow hd (.own _) T.kt_InvalidRow_InvalidRow ?_
      walk_at "rd"
      refine Rd.isD T.xd_InvalidRow hd (.ty _) T.kt_InvalidRow_ValueError ?_
      walk_at "rd"
      refine Rd.isD T.xd_InvalidRow hd (.own _) T.kt_InvalidRow_InvalidMap ?_
      walk_at "rd"
      refine Rd.isD T.xd_InvalidRow hd (.own _) T.kt_InvalidRow_ImpossibleLife ?_
      walk_at "rd"
      refine Rd.xxf hd rfl ?_
      walk_at "rd"
      refine Rd.xxf hd rfl ?_
      walk_at "rd"
      rw [show decide (s1 = s1) = true from decide_eq_true rfl]
      exact k _ (hR.mks.ex.trans e2)
def spSameRule (K : PySem.W.Frag) : Sp := fun vs H Q _ => ∃ (t l : Addr) (R : Rule), vs = [.ref t, .ref l] ∧ Dp K H (.ref t) (ruleT R) ∧ Dp K H (.ref l) (ruleL R) ∧ ruleB R = true ∧ Q (.bl true) H
theorem ok_law_same_rule {ad : Ad} (T : Txt K mg ad) : FnOk P w K mg base CX0 2 ad.a_law_same_rule ad.d_law_same_rule ["rule", "marks"] (spSameRule K) := by
  refine T.F_law_same_rule.ok sc_law_same_rule (fun vs H Q E h => ?_) (fun cdv A outer s H vs Q E hr h => ?_)
  · obtain ⟨t, l, R, rfl, hT, hL, hB, k⟩ := h
    rfl
  · obtain ⟨t, l, R, rfl, hT, hL, hB, k⟩ := h
    refine ⟨_, (pss_cons (ps_if (PW.pt (pw_or (pt_not (pt_val (pe_callB (id := "isinstance") call_isi (by rfl) T.z_isinstance (by decide +kernel) (pa_cons (pv 0) (pa_cons (pe_bltn rfl T.z_tuple (by decide +kernel) (v := .ty "tuple") rfl) pa_nil))))) (pw_or1 (pt_cmpR op_ne (pe_callB (id := "len") Rd.c_len (by rfl) T.z_len (by decide +kernel) (pa_cons (pv 0) pa_nil)) (pe_callB (id := "len") Rd.c_len (by rfl) T.z_len (by decide +kernel) (pa_cons (pv 1) pa_nil)) (nomark _))))) (pss_one (ps_ret pe_bl)) pss_nil)
      (pss_cons (ps_for PassesOwn.never rfl (pi_range1 rfl T.z_range (pa_cons (pe_callB (id := "len") Rd.c_len (by rfl) T.z_len (by decide +kernel) (pa_cons (pv 1) pa_nil)) pa_nil)) (pg_name (i := 2) sc_law_same_rule.nd rfl (Or.inl rfl)) (pss_cons (ps_if (PW.pt (pw_or (pt_not (pt_val (pe_callB (id := "isinstance") call_isi (by rfl) T.z_isinstance (by decide +kernel) (pa_cons (pe_ix ix_tup (pv 0) (pv 2) (fun _ _ => rfl)) (pa_cons (pe_bltn rfl T.z_tuple (by decide +kernel) (v := .ty "tuple") rfl) pa_nil))))) (pw_or1 (pt_cmpR op_ne (pe_callB (id := "len") Rd.c_len (by rfl) T.z_len (by decide +kernel) (pa_cons (pe_ix ix_tup (pv 0) (pv 2) (fun _ _ => rfl)) pa_nil)) pe_int (nomark _))))) (pss_one (ps_ret pe_bl)) pss_nil)
      (pss_one (ps_for PassesOwn.never rfl (pi_range1 rfl T.z_range (pa_cons pe_int pa_nil)) (pg_name (i := 3) sc_law_same_rule.nd rfl (Or.inl rfl)) (pss_cons (ps_set (i := 4) sc_law_same_rule.nd rfl (Or.inl rfl) (pe_ix ix_tup (pe_ix ix_tup (pv 0) (pv 2) (fun _ _ => rfl)) (pv 3) (fun _ _ => rfl)))
      (pss_cons (ps_if (PW.pt (pw_or (pt_not (pt_val (pe_callB (id := "isinstance") call_isi (by rfl) T.z_isinstance (by decide +kernel) (pa_cons (pv 4) (pa_cons (pe_bltn rfl T.z_tuple (by decide +kernel) (v := .ty "tuple") rfl) pa_nil))))) (pw_or1 (pt_cmpR op_ne (pe_callB (id := "len") Rd.c_len (by rfl) T.z_len (by decide +kernel) (pa_cons (pv 4) pa_nil)) pe_int (nomark _))))) (pss_one (ps_ret pe_bl)) pss_nil)
      (pss_one (ps_if (PW.pt (pw_or (pt_not (pt_val (pe_call (ok_law_whole T) (hr.mono (by decide)) rfl T.m_law_whole T.F_law_whole.kp T.b_law_whole .nil pass0 (pa_cons (pe_ix ix_tup (pv 4) pe_int (fun _ _ => rfl)) pa_nil)))) (pw_or (pt_not (pt_val (pe_call (ok_law_whole T) (hr.mono (by decide)) rfl T.m_law_whole T.F_law_whole.kp T.b_law_whole .nil pass0 (pa_cons (pe_ix ix_tup (pv 4) pe_int (fun _ _ => rfl)) pa_nil)))) (pw_or1 (pt_cmpR (op_neD hr.units) (pv 4) (pe_ix ix_list (pe_ix ix_list (pv 1) (pv 2) (fun _ _ => rfl)) (pv 3) (fun _ _ => rfl)) (nomark _)))))) (pss_one (ps_ret pe_bl)) pss_nil))))))))
      (pss_one (ps_ret pe_bl)))), ?_⟩
    try dsimp only [L2.cxOf, L2.Cx.nox, L2.Cx.wish]
    change (_ : TS) _ ([some (.ref t), some (.ref l), none, none, none] : St) _
    obtain ⟨t', vt, e, hst, hTA⟩ := Dt.inv_t hT
    cases e
    obtain ⟨l', vl, e, hsl, hLA⟩ := Dt.inv_l hL
    cases e
    have htl := lenMap hTA
    have hll := lenMap hLA
    have h4 : R.length ≤ 4 := by
      have h := hB
      unfold ruleB at h
      rw [Bool.and_eq_true, Bool.and_eq_true, decide_eq_true_eq, decide_eq_true_eq] at h
      omega
    walk_at "rd"
    refine Rd.xfr1 ⟨by omega, by omega⟩ (fun i σ H' => ∃ v2 v3 v4, σ = [some (.ref t), some (.ref l), v2, v3, v4] ∧ H' = H) ⟨_, _, _, rfl, rfl⟩ ?_ ?_
    · rintro i σ Hc hi ⟨v2, v3, v4, rfl, rfl⟩
      have hi2 : i < R.length := by omega
      have hm : R[i]? = some (R[i]'hi2) := List.getElem?_eq_getElem hi2
      generalize R[i]'hi2 = m at hm
      have hm6 := ruleB_six hB (List.mem_of_getElem? hm)
      obtain ⟨u, hu, hud⟩ := mapA2 hTA hm
      obtain ⟨um, uv, rfl, hus, huA⟩ := Dt.inv_t hud
      obtain ⟨z, hz, hzd⟩ := mapA2 hLA hm
      obtain ⟨zm, zv, rfl, hzs, hzA⟩ := Dt.inv_l hzd
      have hul := lenMap huA
      have hzl := lenMap hzA
      walk_at "rd"
      refine Rd.ixT hst (atI_nat hu) ?_
      walk_at "rd"
      refine Rd.ixT hst (atI_nat hu) ?_
      walk_at "rd"
      refine Rd.xfr1 ⟨by omega, by omega⟩ (fun j σ H' => ∃ v3 v4, σ = [some (.ref t), some (.ref l), some (.int i), v3, v4] ∧ H' = Hc) ⟨_, _, rfl, rfl⟩ ?_ ?_
      · rintro j σ Hd hj ⟨v3, v4, rfl, rfl⟩
        have hj2 : j < m.length := by omega
        have hp : m[j]? = some (m[j]'hj2) := List.getElem?_eq_getElem hj2
        generalize m[j]'hj2 = p at hp
        obtain ⟨pu, hpu, hpud⟩ := mapA2 huA hp
        obtain ⟨qu, rfl, hqu⟩ := pair_inv hpud
        obtain ⟨pz, hpz, hpzd⟩ := mapA2 hzA hp
        walk_at "rd"
        refine Rd.ixT hst (atI_nat hu) ?_
        walk_at "rd"
        refine Rd.ixT hus (atI_nat hpu) ?_
        walk_at "rd"
        refine ⟨_, rfl, ?_⟩
        walk_at "rd"
        refine ⟨_, rfl, ?_⟩
        walk_at "rd"
        refine Rd.ixL hsl (atI_nat hz) ?_
        walk_at "rd"
        refine Rd.ixL hzs (atI_nat hpz) ?_
        refine Rd.neDr hpud hpzd (shp_pair p) ?_
        walk_at "rd"
        exact ⟨_, _, rfl, rfl⟩
      · rintro σ Hd ⟨v3, v4, rfl, rfl⟩
        exact ⟨_, _, _, rfl, rfl⟩
    · rintro σ Hc ⟨v2, v3, v4, rfl, rfl⟩
      walk_at "rd"
      exact k
def spFields (C : Addr) (K : PySem.W.Frag) : Sp := fun vs H Q _ => ∃ (r sp : Addr) (mo sh le gr : Str) (R : Rule), vs = [.ref r, .ref sp] ∧ RowAt K C H r mo sh le gr R ∧ SpecAt K H sp mo sh le gr R ∧ ruleB R = true ∧ ∀ H', Evl.Ex H H' → Q (.bl true) H'
theorem ok_law_fields {ad : Ad} (T : Txt K mg ad) : FnOk P w K mg base CX0 3 ad.a_law_fields ad.d_law_fields ["row", "parts"] (spFields ad.c_Row K) := by
  refine T.F_law_fields.ok sc_law_fields (fun vs H Q E h => ?_) (fun cdv A outer s H vs Q E hr h => ?_)
  · obtain ⟨r, sp, mo, sh, le, gr, R, rfl, ⟨dx, tr, h1, h2⟩, ⟨rl, hsp, hrl⟩, hB, k⟩ := h
    rfl
  · obtain ⟨r, sp, mo, sh, le, gr, R, rfl, ⟨dx, tr, h1, h2⟩, ⟨rl, hsp, hrl⟩, hB, k⟩ := h
    refine ⟨_, (pss_cons (ps_for PassesOwn.never rfl (pi_tup (pe_tup (pa_cons (pe_fld (pv 0) rfl) (pa_cons (pe_fld (pv 0) rfl) (pa_cons (pe_fld (pv 0) rfl) (pa_cons (pe_fld (pv 0) rfl) pa_nil)))))) (pg_name (i := 2) sc_law_fields.nd rfl (Or.inl rfl)) (pss_one (ps_if (pt_not (pt_val (pe_callB (id := "isinstance") call_isi (by rfl) T.z_isinstance (by decide +kernel) (pa_cons (pv 2) (pa_cons (pe_bltn rfl T.z_str (by decide +kernel) (v := .ty "str") rfl) pa_nil))))) (pss_one (ps_ret pe_bl)) pss_nil)))
      (pss_cons (ps_if (PW.pt (pw_or (pt_cmpR op_ne (pe_fld (pv 0) rfl) (pe_ix ix_list (pv 1) pe_int (fun _ _ => rfl)) (nomark _)) (pw_or (pt_cmpR op_ne (pe_fld (pv 0) rfl) (pe_ix ix_list (pv 1) pe_int (fun _ _ => rfl)) (nomark _)) (pw_or (pt_cmpR op_ne (pe_fld (pv 0) rfl) (pe_ix ix_list (pv 1) pe_int (fun _ _ => rfl)) (nomark _)) (pw_or1 (pt_cmpR op_ne (pe_fld (pv 0) rfl) (pe_ix ix_list (pv 1) pe_int (fun _ _ => rfl)) (nomark _))))))) (pss_one (ps_ret pe_bl)) pss_nil)
      (pss_one (ps_ret (pe_call (ok_law_same_rule T) (hr.mono (by decide)) rfl T.m_law_same_rule T.F_law_same_rule.kp T.b_law_same_rule .nil pass0 (pa_cons (pe_fld (pv 0) rfl) (pa_cons (pe_ix ix_list (pv 1) pe_int (fun _ _ => rfl)) pa_nil))))))), ?_⟩
    try dsimp only [L2.cxOf, L2.Cx.nox, L2.Cx.wish]
    change (_ : TS) _ ([some (.ref r), some (.ref sp), none] : St) _
    have cl_Row := T.cl_Row
    have n_Row_grip := T.n_Row_grip
    have n_Row_lease := T.n_Row_lease
    have n_Row_mode := T.n_Row_mode
    have n_Row_rule := T.n_Row_rule
    have n_Row_sharing := T.n_Row_sharing
    walk_at "rd"
    refine Rd.xtup rfl fun qa H2 n2 e2 hqa => ?_
    have h12 := e2 _ _ h1
    have h22 := Dt.mn h2 e2
    have hsp2 := Evl.ex_l e2 hsp
    have hrl2 := Dt.mn hrl e2
    walk_at "rd"
    refine Rd.xft (K := K) (SqT.of hqa) (fun j σ H' => ∃ v2, σ = [some (.ref r), some (.ref sp), v2] ∧ H' = H2) ⟨_, rfl, rfl⟩ (fun j σ H' _ ⟨_, _, e⟩ => by rw [e]; exact SqT.of hqa) ?_ ?_
    · rintro j y σ H3 hj ⟨v2, rfl, rfl⟩
      have hy : ∃ s : Str, y = .str s := by
        match j, hj with
        | 0, hj => exact ⟨_, (Option.some.inj hj).symm⟩
        | 1, hj => exact ⟨_, (Option.some.inj hj).symm⟩
        | 2, hj => exact ⟨_, (Option.some.inj hj).symm⟩
        | 3, hj => exact ⟨_, (Option.some.inj hj).symm⟩
        | j + 4, hj => cases hj
      obtain ⟨s1, rfl⟩ := hy
      walk_at "rd"
      exact ⟨_, rfl, rfl⟩
    · rintro σ H3 ⟨v2, rfl, rfl⟩
      walk_at "rd"
      refine ⟨tr, rl, R, rfl, h22, hrl2, hB, ?_⟩
      exact k _ e2
def spBuilt (K : PySem.W.Frag) : Sp := fun vs H Q _ => ∃ (sp : Addr) (mo sh le gr : Str) (R : Rule), vs = [.ref sp] ∧ SpecAt K H sp mo sh le gr R ∧ Right mo sh le gr R ∧ R.length ≤ 5 ∧ ∀ H', Evl.Ex H H' → Q (.bl true) H'
theorem ok_law_built {ad : Ad} (T : Txt K mg ad) : FnOk P w K mg base CX0 5 ad.a_law_built ad.d_law_built ["parts"] (spBuilt K) := by
  refine T.F_law_built.ok sc_law_built (fun vs H Q E h => ?_) (fun cdv A outer s H vs Q E hr h => ?_)
  · obtain ⟨sp, mo, sh, le, gr, R, rfl, hS, hok, h5, k⟩ := h
    rfl
  · obtain ⟨sp, mo, sh, le, gr, R, rfl, hS, hok, h5, k⟩ := h
    refine ⟨_, (pss_cons (ps_setLc (i := 1) (own := [("mark", 2)]) (g := gName 2) (tt := tYes) rfl sc_law_built.nd rfl rfl (sw_true rfl rfl rfl (by decide +kernel)) (pi_list (pe_ix ix_list (pv 0) pe_int (fun _ _ => rfl))) (blkOk_by (N := ["parts", "passed", "mark", "row"]) (sc := defScope s_law_built) (by decide +kernel)) (fun _ _ _ _ _ => (pg_name (i := 2) sc_law_built.nd rfl (Or.inl rfl))) (fun _ _ _ _ _ => pts_nil) (fun _ _ _ _ _ => (pe_callTy (T := "list") (Rd.c_list : CallR _ _ (Rd.rListOf K)) (by rfl) T.z_list (by decide +kernel) (pa_cons (pv 2) pa_nil))))
      (pss_cons (ps_set (i := 3) sc_law_built.nd rfl (Or.inl rfl) (pe_make T.mk_Row (ok_Row_init_ T) (hr.mono (by decide)) rfl T.mg_Row T.b_Row_init_ .nil passL (pa_cons (pe_ix ix_list (pv 0) pe_int (fun _ _ => rfl)) (pa_cons (pe_ix ix_list (pv 0) pe_int (fun _ _ => rfl)) (pa_cons (pe_ix ix_list (pv 0) pe_int (fun _ _ => rfl)) (pa_cons (pe_ix ix_list (pv 0) pe_int (fun _ _ => rfl)) (pa_cons (pv 1) pa_nil)))))))
      (pss_cons (ps_if (PW.pt (pw_or (pt_cmpR (op_neD hr.units) (pv 1) (pe_ix ix_list (pv 0) pe_int (fun _ _ => rfl)) (nomark _)) (pw_or1 (pt_not (pt_val (pe_call (ok_law_fields T) (hr.mono (by decide)) rfl T.m_law_fields T.F_law_fields.kp T.b_law_fields .nil pass0 (pa_cons (pv 3) (pa_cons (pv 0) pa_nil)))))))) (pss_one (ps_ret pe_bl)) pss_nil)
      (pss_cons (ps_asg (pe_tup (pa_cons pe_int (pa_cons pe_int pa_nil))) (pg_sub (pe_ix ix_list (pv 1) pe_int (fun _ _ => rfl)) pe_int set_list))
      (pss_cons (ps_expr (pe_bm PySem.F.plainAttrs_list PySem.F.slot_list_append PySem.F.type_list_append mt_append (pv 1) (pa_cons (pe_lst (pa_cons (pe_tup (pa_cons pe_int (pa_cons pe_int pa_nil))) (pa_cons (pe_tup (pa_cons pe_int (pa_cons pe_int pa_nil))) (pa_cons (pe_tup (pa_cons pe_int (pa_cons pe_int pa_nil))) (pa_cons (pe_tup (pa_cons pe_int (pa_cons pe_int pa_nil))) (pa_cons (pe_tup (pa_cons pe_int (pa_cons pe_int pa_nil))) (pa_cons (pe_tup (pa_cons pe_int (pa_cons pe_int pa_nil))) pa_nil))))))) pa_nil)))
      (pss_one (ps_ret (pe_call (ok_law_fields T) (hr.mono (by decide)) rfl T.m_law_fields T.F_law_fields.kp T.b_law_fields .nil pass0 (pa_cons (pv 3) (pa_cons (pv 0) pa_nil)))))))))), ?_⟩
    try dsimp only [L2.cxOf, L2.Cx.nox, L2.Cx.wish]
    change (_ : TS) _ ([some (.ref sp), none, none, none] : St) _
    have cl_Row := T.cl_Row
    have n_Row_grip := T.n_Row_grip
    have n_Row_lease := T.n_Row_lease
    have n_Row_mode := T.n_Row_mode
    have n_Row_rule := T.n_Row_rule
    have n_Row_sharing := T.n_Row_sharing
    obtain ⟨rl, hsp, hrl⟩ := id hS
    have hB : ruleB R = true := hok.2.2.2.2.1
    walk_at "rd"
    refine x_copy hrl h5 (fun _ => rfl) (fun H' am vm Q' hsm q => ?_) fun p as H1 hR => ?_
    · walk_at "rd"
      exact Rd.listOf hsm q
    · have hsp1 := Evl.ex_l hR.mks.ex hsp
      walk_at "rd"
      refine x_rowX hR.dp (.inl rfl) (by omega) (fun m hm => by rw [ruleB_six hB hm]; decide) (fun ok x H2 e2 n2 h2 => ?_) (fun s2 d H2 hw2 e2 hd => (hw2.not hok).elim)
      have hR2 := hR.mono e2
      have hsp2 := Evl.ex_l e2 hsp1
      have hS2 := hS.mono hR2.mks.ex
      walk_at "rd"
      refine Rd.neDr hR2.dp (Dt.mn hrl hR2.mks.ex) (shp_ruleL R) ?_
      walk_at "rd"
      refine ⟨x, sp, mo, sh, le, gr, R, rfl, h2, hS2, hB, fun H3 e3 => ?_⟩
      have hR3 := hR2.mono e3
      walk_at "rd"
      refine Rd.xtup rfl fun q H4 n4 e4 hq => ?_
      have hR4 := hR3.mono e4
      have h4 := (h2.mono e3).mono e4
      walk_at "rd"
      have hi : 0 < R.length := ruleB_ne hB
      have hia : 0 < as.length := by rw [hR.mks.len]; exact hi
      have g1 : as[0]? = some (as[0]'hia) := List.getElem?_eq_getElem hia
      have g2 : R[0]? = some (R[0]'hi) := List.getElem?_eq_getElem hi
      generalize as[0]'hia = a at g1
      generalize R[0]'hi = m at g2
      obtain ⟨na, vs, g3, g4⟩ := hR4.mks.get 0 a m g1 g2
      have hm6 := ruleB_six hB (List.mem_of_getElem? g2)
      have hvl := lenMap g4
      refine Rd.ixL (SqL.of hR4.at_) (atI_nat (j := 0) (by rw [List.getElem?_map, g1]; rfl)) ?_
      walk_at "rd"
      refine Rd.setL g3 (n := 2) (Evl.ixN_nat (j := 2) (by omega)) ?_
      have hR5 := hR4.set (j := 2) (p := (0, 2)) g1 g2 g3 g4 hq
      have h5' := RowAt.updl (o := .lst (vs.set 2 (V.ref q))) h4 g3
      generalize upd H4 a (.lst (vs.set 2 (V.ref q))) = H5 at hR5 h5' ⊢
      have hat5 := hR5.at_
      walk_at "rd"
      refine Rd.xtup rfl fun q1 J1 m1 f1 u1 => ?_
      walk_at "rd"
      refine Rd.xtup rfl fun q2 J2 m2 f2 u2 => ?_
      walk_at "rd"
      refine Rd.xtup rfl fun q3 J3 m3 f3 u3 => ?_
      walk_at "rd"
      refine Rd.xtup rfl fun q4 J4 m4 f4 u4 => ?_
      walk_at "rd"
      refine Rd.xtup rfl fun q5 J5 m5 f5 u5 => ?_
      walk_at "rd"
      refine Rd.xtup rfl fun q6 J6 m6 f6 u6 => ?_
      walk_at "rd"
      refine Rd.xlst rfl fun ml J7 m7 f7 u7 => ?_
      have f17 := (((((f1.trans f2).trans f3).trans f4).trans f5).trans f6).trans f7
      have hR7 := hR5.mono f17
      walk_at "rd"
      refine Rd.append hR7.at_ (by rw [List.length_map, hR.mks.len]; omega) ?_
      have h7 := RowAt.updl (o := .lst (as.map V.ref ++ [V.ref ml])) (h5'.mono f17) hR7.at_
      have e08 : Evl.Ex H (upd J7 p (.lst (as.map V.ref ++ [V.ref ml]))) := Evl.Ex.mut hR7.mks.ex hR7.new
      generalize upd J7 p (.lst (as.map V.ref ++ [V.ref ml])) = H8 at h7 e08 ⊢
      walk_at "rd"
      refine ⟨x, sp, mo, sh, le, gr, R, rfl, h7, hS.mono e08, hB, fun H9 e9 => ?_⟩
      exact k _ (e08.trans e9)
def spPlainL : Sp := fun vs H Q _ => ∃ mo : Str, vs = [.str mo] ∧ ∀ H', Evl.Ex H H' → Q (.bl true) H'
theorem ok_law_plain {ad : Ad} (T : Txt K mg ad) : FnOk P w K mg base CX0 6 ad.a_law_plain ad.d_law_plain ["mode"] (spPlainL) := by
  refine T.F_law_plain.ok sc_law_plain (fun vs H Q E h => ?_) (fun cdv A outer s H vs Q E hr h => ?_)
  · obtain ⟨mo, rfl, k⟩ := h
    rfl
  · obtain ⟨mo, rfl, k⟩ := h
    refine ⟨_, (pss_cons (ps_set (i := 1) sc_law_plain.nd rfl (Or.inl rfl) (pe_lst (pa_cons (pe_lst (pa_cons (pe_tup (pa_cons pe_int (pa_cons pe_int pa_nil))) (pa_cons (pe_tup (pa_cons pe_int (pa_cons pe_int pa_nil))) (pa_cons (pe_tup (pa_cons pe_int (pa_cons pe_int pa_nil))) (pa_cons (pe_tup (pa_cons pe_int (pa_cons pe_int pa_nil))) (pa_cons (pe_tup (pa_cons pe_int (pa_cons pe_int pa_nil))) (pa_cons (pe_tup (pa_cons pe_int (pa_cons pe_int pa_nil))) pa_nil))))))) pa_nil)))
      (pss_cons (ps_try_as (i := 3) (tb := fun W => (tAsg (tCallS _ (WE W) _) _)) (ts := fun a cls d => (tRet (tAndV _ (tOp _ (tXf a cls d _ _ (tVar 3)) _)))) (Wout := fun _ _ _ _ => False) rfl rfl sc_law_plain.nd rfl rfl ⟨rfl, by decide, Or.inl T.mg_InvalidRow⟩ takes0 (fun W pn xe tk hp => (pss_one (ps_set (i := 2) sc_law_plain.nd rfl (Or.inl rfl) (pe_callS (ok_plain_row T) (hr.mono (by decide)) rfl T.m_plain_row T.F_plain_row.kp T.b_plain_row (fun σ => passAt tk σ) (pa_cons (pv 0) pa_nil))))) (fun a oe cls d pn hz hf => (pss_one (ps_ret (pe_and (pe_cmpR (op_notIn_seq : OpR _ _ (rIn K true)) (pv 0) (pe_tup (pa_cons pe_str (pa_cons pe_str pa_nil))) (by with_unfolding_all rfl)) (pe_one (pe_cmpR op_eq (pe_xf T.xd_InvalidRow.xf T.nx_InvalidRow_what hz hf (pv 3)) pe_str (nomark _))))))))
      (pss_one (ps_ret (pe_and (pe_cmpR op_in_seq (pv 0) (pe_tup (pa_cons pe_str (pa_cons pe_str pa_nil))) (by with_unfolding_all rfl)) (pe_one (pe_call (ok_law_fields T) (hr.mono (by decide)) rfl T.m_law_fields T.F_law_fields.kp T.b_law_fields .nil pass0 (pa_cons (pv 2) (pa_cons (pe_lst (pa_cons (pv 0) (pa_cons pe_str (pa_cons pe_str (pa_cons pe_str (pa_cons (pv 1) pa_nil)))))) pa_nil))))))))), ?_⟩
    try dsimp only [L2.cxOf, L2.Cx.nox, L2.Cx.wish]
    change (_ : TS) _ ([some (.str mo), none, none, none] : St) _
    have cl_Row := T.cl_Row
    have n_Row_grip := T.n_Row_grip
    have n_Row_lease := T.n_Row_lease
    have n_Row_mode := T.n_Row_mode
    have n_Row_rule := T.n_Row_rule
    have n_Row_sharing := T.n_Row_sharing
    walk_at "rd"
    refine Rd.xtup rfl fun q1 J1 m1 f1 g1 => ?_
    walk_at "rd"
    refine Rd.xtup rfl fun q2 J2 m2 f2 g2 => ?_
    walk_at "rd"
    refine Rd.xtup rfl fun q3 J3 m3 f3 g3 => ?_
    walk_at "rd"
    refine Rd.xtup rfl fun q4 J4 m4 f4 g4 => ?_
    walk_at "rd"
    refine Rd.xtup rfl fun q5 J5 m5 f5 g5 => ?_
    walk_at "rd"
    refine Rd.xtup rfl fun q6 J6 m6 f6 g6 => ?_
    walk_at "rd"
    refine Rd.xlst rfl fun ml J7 m7 f7 g7 => ?_
    walk_at "rd"
    refine Rd.xlst rfl fun sl J8 m8 f8 g8 => ?_
    have hd : Dp K J8 (.ref sl) (ruleL [still6]) := by
      refine Dt.ofL (by walk_at "hp") (.cons (Dt.ofL (by walk_at "hp") ?_) .nil)
      unfold still6
      repeat (first | exact .nil | refine .cons ?_ ?_ | (refine Dt.ofT (by walk_at "hp") ?_) | exact .int _)
    have f18 := (((((((f1.trans f2).trans f3).trans f4).trans f5).trans f6).trans f7).trans f8)
    walk_at "rd"
    refine ⟨mo, rfl, fun hmo x H1 e1 hx => ?_, fun hmo d H1 e1 hd1 => ?_⟩
    · walk_at "rd"
      refine Rd.xtup rfl fun qm H2 n2 e2 hqm => ?_
      refine Rd.inT (K := K) (SqT.of hqm) rfl rfl (inTwo.trans (decide_eq_true hmo)) ?_
      walk_at "rd"
      refine Rd.xlst rfl fun sp H3 n3 e3 hsp => ?_
      have e13 := (e1.trans e2).trans e3
      walk_at "rd"
      refine ⟨x, sp, mo, "one", "always", "slot", [still6], rfl, (hx.mono e2).mono e3, ⟨sl, SqL.of hsp, Dt.mn hd e13⟩, by decide +kernel, fun H4 e4 => ?_⟩
      exact k _ ((f18.trans e13).trans e4)
    · refine ⟨true, T.em_InvalidRow_InvalidRow, fun _ a na => ?_, fun q => Bool.noConfusion q⟩
      walk_at "rd"
      refine Rd.xtup rfl fun qm H2 n2 e2 hqm => ?_
      have hd2 := e2 _ _ hd1
      refine Rd.ninT (K := K) (SqT.of hqm) rfl rfl (inTwo.trans (decide_eq_false hmo)) ?_
      walk_at "rd"
      refine Rd.xxf hd2 rfl ?_
      walk_at "rd"
      exact k _ ((f18.trans e1).trans e2)
def spLaw (K : PySem.W.Frag) : Sp := fun vs H Q _ => ∃ (a : Addr) (ns : List Int), vs = [.ref a] ∧ SqL K H a (ns.map V.int) ∧ ns.length ≤ 63 ∧ ∀ H', Q (.bl true) H'
theorem ok_law {ad : Ad} (T : Txt K mg ad) : FnOk P w K mg base CX0 7 ad.a_law ad.d_law ["script"] (spLaw K) := by
  refine T.F_law.ok sc_law (fun vs H Q E h => ?_) (fun cdv A outer s H vs Q E hr h => ?_)
  · obtain ⟨a, ns, rfl, hS, hn, k⟩ := h
    rfl
  · obtain ⟨a, ns, rfl, hS, hn, k⟩ := h
    refine ⟨_, (pss_cons (ps_set (i := 1) sc_law.nd rfl (Or.inl rfl) (pe_call (ok_law_deck T) (hr.mono (by decide)) rfl T.m_law_deck T.F_law_deck.kp T.b_law_deck .nil pass0 (pa_cons (pv 0) (pa_cons pe_int (pa_cons pe_int pa_nil)))))
      (pss_cons (ps_if (pt_cmpR op_ne (C8.pe_gc (v := .str "LGHRFD") rfl T.mc_EVENTS) pe_str (nomark _)) (pss_one (ps_ret pe_bl)) pss_nil)
      (pss_cons (ps_for PassesOwn.never rfl (pi_range1 rfl T.z_range (pa_cons pe_int pa_nil)) (pg_name (i := 2) sc_law.nd rfl (Or.inl rfl)) (pss_cons (ps_set (i := 3) sc_law.nd rfl (Or.inl rfl) (pe_call (ok_law_parts T) (hr.mono (by decide)) rfl T.m_law_parts T.F_law_parts.kp T.b_law_parts .nil pass0 (pa_cons (pv 1) pa_nil)))
      (pss_cons (ps_set (i := 4) sc_law.nd rfl (Or.inl rfl) (pe_call (ok_law_first_wrong T) (hr.mono (by decide)) rfl T.m_law_first_wrong T.F_law_first_wrong.kp T.b_law_first_wrong .nil pass0 (pa_cons (pv 3) pa_nil)))
      (pss_cons (ps_if (PW.pt (pw_and (pt_cmpR op_ne (pv 4) pe_str (nomark _)) (pw_and1 (pt_not (pt_val (pe_call (ok_law_refused T) (hr.mono (by decide)) rfl T.m_law_refused T.F_law_refused.kp T.b_law_refused .nil pass0 (pa_cons (pv 3) (pa_cons (pv 4) pa_nil)))))))) (pss_one (ps_ret pe_bl)) pss_nil)
      (pss_one (ps_if (PW.pt (pw_and (pt_cmpR op_eq (pv 4) pe_str (nomark _)) (pw_and1 (pt_not (pt_val (pe_call (ok_law_built T) (hr.mono (by decide)) rfl T.m_law_built T.F_law_built.kp T.b_law_built .nil pass0 (pa_cons (pv 3) pa_nil))))))) (pss_one (ps_ret pe_bl)) pss_nil))))))
      (pss_cons (ps_for PassesOwn.never rfl (pi_tup (pe_tup (pa_cons pe_str (pa_cons pe_str (pa_cons pe_str (pa_cons pe_str (pa_cons pe_str (pa_cons pe_str pa_nil)))))))) (pg_name (i := 5) sc_law.nd rfl (Or.inl rfl)) (pss_one (ps_if (pt_not (pt_val (pe_call (ok_law_plain T) (hr.mono (by decide)) rfl T.m_law_plain T.F_law_plain.kp T.b_law_plain .nil pass0 (pa_cons (pv 5) pa_nil)))) (pss_one (ps_ret pe_bl)) pss_nil)))
      (pss_one (ps_ret pe_bl)))))), ?_⟩
    try dsimp only [L2.cxOf, L2.Cx.nox, L2.Cx.wish]
    change (_ : TS) _ ([some (.ref a), none, none, none, none, none] : St) _
    walk_at "rd"
    refine ⟨a, ns, 12, 12, rfl, hS, hn, by decide, by decide, by decide, by decide, fun l hl => ?_⟩
    have hD : (upd H l (Dk.DkO l)) l = some (Dk.DkO l) := upd_same
    generalize upd H l (Dk.DkO l) = H1 at *
    obtain ⟨u, hu, ru⟩ := T.mc_EVENTS
    walk_at "rd"
    refine Rd.xfr1 ⟨by omega, by omega⟩ (fun i σ H' => ∃ v2 v3 v4 v5, σ = [some (.ref a), some (.ref l), v2, v3, v4, v5] ∧ Evl.Ex H1 H') ⟨_, _, _, _, rfl, Evl.Ex.refl _⟩ ?_ ?_
    · rintro i σ H2 hi ⟨v2, v3, v4, v5, rfl, e2⟩
      have hD2 := e2 _ _ hD
      walk_at "rd"
      refine ⟨l, rfl, hD2, fun sp mo sh le gr R H3 e3 hsp h5 h7 => ?_⟩
      walk_at "rd"
      refine ⟨sp, mo, sh, le, gr, R, rfl, hsp, fun s1 H4 hw e4 => ?_, fun hok H4 e4 => ?_⟩
      · have hne := hw.ne
        walk_at "rd"
        refine ⟨sp, mo, sh, le, gr, s1, R, rfl, hsp.mono e4, hw, h5, h7, fun H5 e5 => ?_⟩
        walk_at "rd"
        exact ⟨_, _, _, _, rfl, ((e2.trans e3).trans e4).trans e5⟩
      · walk_at "rd"
        refine ⟨sp, mo, sh, le, gr, R, rfl, hsp.mono e4, hok, h5, fun H5 e5 => ?_⟩
        walk_at "rd"
        exact ⟨_, _, _, _, rfl, ((e2.trans e3).trans e4).trans e5⟩
    · rintro σ H2 ⟨v2, v3, v4, v5, rfl, e2⟩
      walk_at "rd"
      refine Rd.xtup rfl fun qm H5 n5 e5 hqm => ?_
      walk_at "rd"
      refine Rd.xft (K := K) (SqT.of hqm) (fun j σ H' => ∃ v5, σ = [some (.ref a), some (.ref l), v2, v3, v4, v5] ∧ Evl.Ex H5 H') ⟨_, rfl, Evl.Ex.refl _⟩ (fun j σ H' _ ⟨_, _, e⟩ => SqT.of (e _ _ hqm)) ?_ ?_
      · rintro j y σ H6 hj ⟨v6, rfl, e6⟩
        have hy : ∃ s : Str, y = .str s := by
          match j, hj with
          | 0, hj => exact ⟨_, (Option.some.inj hj).symm⟩
          | 1, hj => exact ⟨_, (Option.some.inj hj).symm⟩
          | 2, hj => exact ⟨_, (Option.some.inj hj).symm⟩
          | 3, hj => exact ⟨_, (Option.some.inj hj).symm⟩
          | 4, hj => exact ⟨_, (Option.some.inj hj).symm⟩
          | 5, hj => exact ⟨_, (Option.some.inj hj).symm⟩
          | j + 6, hj => cases hj
        obtain ⟨s1, rfl⟩ := hy
        walk_at "rd"
        refine ⟨s1, rfl, fun H7 e7 => ?_⟩
        walk_at "rd"
        exact ⟨_, rfl, e6.trans e7⟩
      · rintro σ H6 ⟨v6, rfl, e6⟩
        walk_at "rd"
        exact k _

/-! split -/
end
theorem all_mk {K : PySem.W.Frag} {h : Heap} {mg : Str → Option Value} {fa : Addr} (X : K.In h) (G : h.Ns mainGlobals mg) (hfa : mg "law" = some (.ref fa))
    {c_BridgeError : Addr}
    {c_ImpossibleLife : Addr}
    {c_InvalidMap : Addr}
    {c_InvalidRow : Addr}
    {c_Row : Addr}
    {nm_InvalidRow q_InvalidRow : Str} {N_InvalidRow : Addr} {bs_InvalidRow : List Value} {sn_InvalidRow : List Str} {sub_InvalidRow : List Value} {ab_InvalidRow : Bool} {col_InvalidRow : Option Bool} {dd_InvalidRow : Option Addr} {m0_InvalidRow m1_InvalidRow m2_InvalidRow m3_InvalidRow m5_InvalidRow : Option Value}
    {t_EVENTS : Tok}
    {k_GRIPS : Addr} {dd_GRIPS : Option Addr} {its_GRIPS : Array Value} {nn_GRIPS : Nat} {sl_GRIPS : Array (Option Value)}
    {k_LEASES : Addr} {dd_LEASES : Option Addr} {its_LEASES : Array Value} {nn_LEASES : Nat} {sl_LEASES : Array (Option Value)}
    {k_MODES : Addr} {dd_MODES : Option Addr} {its_MODES : Array Value} {nn_MODES : Nat} {sl_MODES : Array (Option Value)}
    {t_MOST_CHANGE : Tok}
    {t_MOST_MARKS : Tok}
    {k_SHARINGS : Addr} {dd_SHARINGS : Option Addr} {its_SHARINGS : Array Value} {nn_SHARINGS : Nat} {sl_SHARINGS : Array (Option Value)}
    {k_STILL : Addr} {dd_STILL : Option Addr} {its_STILL : Array Value} {nn_STILL : Nat} {sl_STILL : Array (Option Value)}
    {k_STILL_0 : Addr} {dd_STILL_0 : Option Addr} {its_STILL_0 : Array Value} {nn_STILL_0 : Nat} {sl_STILL_0 : Array (Option Value)}
    {k_STILL_1 : Addr} {dd_STILL_1 : Option Addr} {its_STILL_1 : Array Value} {nn_STILL_1 : Nat} {sl_STILL_1 : Array (Option Value)}
    {k_STILL_2 : Addr} {dd_STILL_2 : Option Addr} {its_STILL_2 : Array Value} {nn_STILL_2 : Nat} {sl_STILL_2 : Array (Option Value)}
    {k_STILL_3 : Addr} {dd_STILL_3 : Option Addr} {its_STILL_3 : Array Value} {nn_STILL_3 : Nat} {sl_STILL_3 : Array (Option Value)}
    {k_STILL_4 : Addr} {dd_STILL_4 : Option Addr} {its_STILL_4 : Array Value} {nn_STILL_4 : Nat} {sl_STILL_4 : Array (Option Value)}
    {k_STILL_5 : Addr} {dd_STILL_5 : Option Addr} {its_STILL_5 : Array Value} {nn_STILL_5 : Nat} {sl_STILL_5 : Array (Option Value)}
    {f_law_take : Addr} {oc_law_take kV_law_take dc_law_take pm_law_take cd_law_take ct_law_take : Value} {od_law_take an_law_take : Option Addr} {sl_law_take : Array (Option Value)}
    {f_law_deck : Addr} {oc_law_deck kV_law_deck dc_law_deck pm_law_deck cd_law_deck ct_law_deck : Value} {od_law_deck an_law_deck : Option Addr} {sl_law_deck : Array (Option Value)}
    {f_is_mark : Addr} {oc_is_mark kV_is_mark dc_is_mark pm_is_mark cd_is_mark ct_is_mark : Value} {od_is_mark an_is_mark : Option Addr} {sl_is_mark : Array (Option Value)}
    {f_is_rule : Addr} {oc_is_rule kV_is_rule dc_is_rule pm_is_rule cd_is_rule ct_is_rule : Value} {od_is_rule an_is_rule : Option Addr} {sl_is_rule : Array (Option Value)}
    {f_InvalidRow_init_ : Addr} {oc_InvalidRow_init_ kV_InvalidRow_init_ dc_InvalidRow_init_ pm_InvalidRow_init_ cd_InvalidRow_init_ ct_InvalidRow_init_ : Value} {od_InvalidRow_init_ an_InvalidRow_init_ : Option Addr} {sl_InvalidRow_init_ : Array (Option Value)}
    {f_Row_init_ : Addr} {oc_Row_init_ kV_Row_init_ dc_Row_init_ pm_Row_init_ cd_Row_init_ ct_Row_init_ : Value} {od_Row_init_ an_Row_init_ : Option Addr} {sl_Row_init_ : Array (Option Value)}
    {f_plain_row : Addr} {oc_plain_row kV_plain_row dc_plain_row pm_plain_row cd_plain_row ct_plain_row : Value} {od_plain_row an_plain_row : Option Addr} {sl_plain_row : Array (Option Value)}
    {f_law_whole : Addr} {oc_law_whole kV_law_whole dc_law_whole pm_law_whole cd_law_whole ct_law_whole : Value} {od_law_whole an_law_whole : Option Addr} {sl_law_whole : Array (Option Value)}
    {f_law_word : Addr} {oc_law_word kV_law_word dc_law_word pm_law_word cd_law_word ct_law_word : Value} {od_law_word an_law_word : Option Addr} {sl_law_word : Array (Option Value)}
    {f_law_rule : Addr} {oc_law_rule kV_law_rule dc_law_rule pm_law_rule cd_law_rule ct_law_rule : Value} {od_law_rule an_law_rule : Option Addr} {sl_law_rule : Array (Option Value)}
    {f_law_spoilt_rule : Addr} {oc_law_spoilt_rule kV_law_spoilt_rule dc_law_spoilt_rule pm_law_spoilt_rule cd_law_spoilt_rule ct_law_spoilt_rule : Value} {od_law_spoilt_rule an_law_spoilt_rule : Option Addr} {sl_law_spoilt_rule : Array (Option Value)}
    {f_law_parts : Addr} {oc_law_parts kV_law_parts dc_law_parts pm_law_parts cd_law_parts ct_law_parts : Value} {od_law_parts an_law_parts : Option Addr} {sl_law_parts : Array (Option Value)}
    {f_law_rule_in_order : Addr} {oc_law_rule_in_order kV_law_rule_in_order dc_law_rule_in_order pm_law_rule_in_order cd_law_rule_in_order ct_law_rule_in_order : Value} {od_law_rule_in_order an_law_rule_in_order : Option Addr} {sl_law_rule_in_order : Array (Option Value)}
    {f_law_first_wrong : Addr} {oc_law_first_wrong kV_law_first_wrong dc_law_first_wrong pm_law_first_wrong cd_law_first_wrong ct_law_first_wrong : Value} {od_law_first_wrong an_law_first_wrong : Option Addr} {sl_law_first_wrong : Array (Option Value)}
    {f_law_refused : Addr} {oc_law_refused kV_law_refused dc_law_refused pm_law_refused cd_law_refused ct_law_refused : Value} {od_law_refused an_law_refused : Option Addr} {sl_law_refused : Array (Option Value)}
    {f_law_same_rule : Addr} {oc_law_same_rule kV_law_same_rule dc_law_same_rule pm_law_same_rule cd_law_same_rule ct_law_same_rule : Value} {od_law_same_rule an_law_same_rule : Option Addr} {sl_law_same_rule : Array (Option Value)}
    {f_law_fields : Addr} {oc_law_fields kV_law_fields dc_law_fields pm_law_fields cd_law_fields ct_law_fields : Value} {od_law_fields an_law_fields : Option Addr} {sl_law_fields : Array (Option Value)}
    {f_law_built : Addr} {oc_law_built kV_law_built dc_law_built pm_law_built cd_law_built ct_law_built : Value} {od_law_built an_law_built : Option Addr} {sl_law_built : Array (Option Value)}
    {f_law_plain : Addr} {oc_law_plain kV_law_plain dc_law_plain pm_law_plain cd_law_plain ct_law_plain : Value} {od_law_plain an_law_plain : Option Addr} {sl_law_plain : Array (Option Value)}
    {f_law : Addr} {oc_law kV_law dc_law pm_law cd_law ct_law : Value} {od_law an_law : Option Addr} {sl_law : Array (Option Value)}
    (A_BridgeError : PySem.W.nsIn K mainGlobals "BridgeError" = some (some (.ref c_BridgeError)))
    (A_ImpossibleLife : PySem.W.nsIn K mainGlobals "ImpossibleLife" = some (some (.ref c_ImpossibleLife)))
    (A_InvalidMap : PySem.W.nsIn K mainGlobals "InvalidMap" = some (some (.ref c_InvalidMap)))
    (A_InvalidRow : PySem.W.nsIn K mainGlobals "InvalidRow" = some (some (.ref c_InvalidRow)))
    (A_Row : PySem.W.nsIn K mainGlobals "Row" = some (some (.ref c_Row)))
    (a_law_take : PySem.W.nsIn K mainGlobals "_law_take" = some (some (.ref f_law_take)))
    (l_law_take : K.lookup f_law_take = some ⟨oc_law_take, od_law_take, .func (PySem.W.fnOf "_law_take" "_law_take" (defArgs s_law_take) (defBody s_law_take) (defScope s_law_take) .none kV_law_take dc_law_take pm_law_take an_law_take cd_law_take ct_law_take), sl_law_take⟩)
    (c_law_take : PySem.W.codeIn K cd_law_take "_law_take" = true)
    (k_law_take : PySem.W.keepIn K (.ref f_law_take) = true)
    (a_law_deck : PySem.W.nsIn K mainGlobals "_law_deck" = some (some (.ref f_law_deck)))
    (l_law_deck : K.lookup f_law_deck = some ⟨oc_law_deck, od_law_deck, .func (PySem.W.fnOf "_law_deck" "_law_deck" (defArgs s_law_deck) (defBody s_law_deck) (defScope s_law_deck) .none kV_law_deck dc_law_deck pm_law_deck an_law_deck cd_law_deck ct_law_deck), sl_law_deck⟩)
    (c_law_deck : PySem.W.codeIn K cd_law_deck "_law_deck" = true)
    (k_law_deck : PySem.W.keepIn K (.ref f_law_deck) = true)
    (a_is_mark : PySem.W.nsIn K mainGlobals "is_mark" = some (some (.ref f_is_mark)))
    (l_is_mark : K.lookup f_is_mark = some ⟨oc_is_mark, od_is_mark, .func (PySem.W.fnOf "is_mark" "is_mark" (defArgs s_is_mark) (defBody s_is_mark) (defScope s_is_mark) .none kV_is_mark dc_is_mark pm_is_mark an_is_mark cd_is_mark ct_is_mark), sl_is_mark⟩)
    (c_is_mark : PySem.W.codeIn K cd_is_mark "is_mark" = true)
    (k_is_mark : PySem.W.keepIn K (.ref f_is_mark) = true)
    (a_is_rule : PySem.W.nsIn K mainGlobals "is_rule" = some (some (.ref f_is_rule)))
    (l_is_rule : K.lookup f_is_rule = some ⟨oc_is_rule, od_is_rule, .func (PySem.W.fnOf "is_rule" "is_rule" (defArgs s_is_rule) (defBody s_is_rule) (defScope s_is_rule) .none kV_is_rule dc_is_rule pm_is_rule an_is_rule cd_is_rule ct_is_rule), sl_is_rule⟩)
    (c_is_rule : PySem.W.codeIn K cd_is_rule "is_rule" = true)
    (k_is_rule : PySem.W.keepIn K (.ref f_is_rule) = true)
    (a_InvalidRow_init_ : PySem.W.findIn K (.ref c_InvalidRow) "__init__" = some (some (.ref f_InvalidRow_init_)))
    (i_InvalidRow_init_ : PySem.W.isFn K (.ref f_InvalidRow_init_) = true)
    (l_InvalidRow_init_ : K.lookup f_InvalidRow_init_ = some ⟨oc_InvalidRow_init_, od_InvalidRow_init_, .func (PySem.W.fnOf "__init__" "InvalidRow.__init__" (defArgs s_InvalidRow_init_) (defBody s_InvalidRow_init_) (defScope s_InvalidRow_init_) .none kV_InvalidRow_init_ dc_InvalidRow_init_ pm_InvalidRow_init_ an_InvalidRow_init_ cd_InvalidRow_init_ ct_InvalidRow_init_), sl_InvalidRow_init_⟩)
    (c_InvalidRow_init_ : PySem.W.codeIn K cd_InvalidRow_init_ "InvalidRow.__init__" = true)
    (k_InvalidRow_init_ : PySem.W.keepIn K (.ref f_InvalidRow_init_) = true)
    (a_Row_init_ : PySem.W.findIn K (.ref c_Row) "__init__" = some (some (.ref f_Row_init_)))
    (i_Row_init_ : PySem.W.isFn K (.ref f_Row_init_) = true)
    (l_Row_init_ : K.lookup f_Row_init_ = some ⟨oc_Row_init_, od_Row_init_, .func (PySem.W.fnOf "__init__" "Row.__init__" (defArgs s_Row_init_) (defBody s_Row_init_) (defScope s_Row_init_) .none kV_Row_init_ dc_Row_init_ pm_Row_init_ an_Row_init_ cd_Row_init_ ct_Row_init_), sl_Row_init_⟩)
    (c_Row_init_ : PySem.W.codeIn K cd_Row_init_ "Row.__init__" = true)
    (k_Row_init_ : PySem.W.keepIn K (.ref f_Row_init_) = true)
    (a_plain_row : PySem.W.nsIn K mainGlobals "plain_row" = some (some (.ref f_plain_row)))
    (l_plain_row : K.lookup f_plain_row = some ⟨oc_plain_row, od_plain_row, .func (PySem.W.fnOf "plain_row" "plain_row" (defArgs s_plain_row) (defBody s_plain_row) (defScope s_plain_row) .none kV_plain_row dc_plain_row pm_plain_row an_plain_row cd_plain_row ct_plain_row), sl_plain_row⟩)
    (c_plain_row : PySem.W.codeIn K cd_plain_row "plain_row" = true)
    (k_plain_row : PySem.W.keepIn K (.ref f_plain_row) = true)
    (a_law_whole : PySem.W.nsIn K mainGlobals "_law_whole" = some (some (.ref f_law_whole)))
    (l_law_whole : K.lookup f_law_whole = some ⟨oc_law_whole, od_law_whole, .func (PySem.W.fnOf "_law_whole" "_law_whole" (defArgs s_law_whole) (defBody s_law_whole) (defScope s_law_whole) .none kV_law_whole dc_law_whole pm_law_whole an_law_whole cd_law_whole ct_law_whole), sl_law_whole⟩)
    (c_law_whole : PySem.W.codeIn K cd_law_whole "_law_whole" = true)
    (k_law_whole : PySem.W.keepIn K (.ref f_law_whole) = true)
    (a_law_word : PySem.W.nsIn K mainGlobals "_law_word" = some (some (.ref f_law_word)))
    (l_law_word : K.lookup f_law_word = some ⟨oc_law_word, od_law_word, .func (PySem.W.fnOf "_law_word" "_law_word" (defArgs s_law_word) (defBody s_law_word) (defScope s_law_word) .none kV_law_word dc_law_word pm_law_word an_law_word cd_law_word ct_law_word), sl_law_word⟩)
    (c_law_word : PySem.W.codeIn K cd_law_word "_law_word" = true)
    (k_law_word : PySem.W.keepIn K (.ref f_law_word) = true)
    (a_law_rule : PySem.W.nsIn K mainGlobals "_law_rule" = some (some (.ref f_law_rule)))
    (l_law_rule : K.lookup f_law_rule = some ⟨oc_law_rule, od_law_rule, .func (PySem.W.fnOf "_law_rule" "_law_rule" (defArgs s_law_rule) (defBody s_law_rule) (defScope s_law_rule) .none kV_law_rule dc_law_rule pm_law_rule an_law_rule cd_law_rule ct_law_rule), sl_law_rule⟩)
    (c_law_rule : PySem.W.codeIn K cd_law_rule "_law_rule" = true)
    (k_law_rule : PySem.W.keepIn K (.ref f_law_rule) = true)
    (a_law_spoilt_rule : PySem.W.nsIn K mainGlobals "_law_spoilt_rule" = some (some (.ref f_law_spoilt_rule)))
    (l_law_spoilt_rule : K.lookup f_law_spoilt_rule = some ⟨oc_law_spoilt_rule, od_law_spoilt_rule, .func (PySem.W.fnOf "_law_spoilt_rule" "_law_spoilt_rule" (defArgs s_law_spoilt_rule) (defBody s_law_spoilt_rule) (defScope s_law_spoilt_rule) .none kV_law_spoilt_rule dc_law_spoilt_rule pm_law_spoilt_rule an_law_spoilt_rule cd_law_spoilt_rule ct_law_spoilt_rule), sl_law_spoilt_rule⟩)
    (c_law_spoilt_rule : PySem.W.codeIn K cd_law_spoilt_rule "_law_spoilt_rule" = true)
    (k_law_spoilt_rule : PySem.W.keepIn K (.ref f_law_spoilt_rule) = true)
    (a_law_parts : PySem.W.nsIn K mainGlobals "_law_parts" = some (some (.ref f_law_parts)))
    (l_law_parts : K.lookup f_law_parts = some ⟨oc_law_parts, od_law_parts, .func (PySem.W.fnOf "_law_parts" "_law_parts" (defArgs s_law_parts) (defBody s_law_parts) (defScope s_law_parts) .none kV_law_parts dc_law_parts pm_law_parts an_law_parts cd_law_parts ct_law_parts), sl_law_parts⟩)
    (c_law_parts : PySem.W.codeIn K cd_law_parts "_law_parts" = true)
    (k_law_parts : PySem.W.keepIn K (.ref f_law_parts) = true)
    (a_law_rule_in_order : PySem.W.nsIn K mainGlobals "_law_rule_in_order" = some (some (.ref f_law_rule_in_order)))
    (l_law_rule_in_order : K.lookup f_law_rule_in_order = some ⟨oc_law_rule_in_order, od_law_rule_in_order, .func (PySem.W.fnOf "_law_rule_in_order" "_law_rule_in_order" (defArgs s_law_rule_in_order) (defBody s_law_rule_in_order) (defScope s_law_rule_in_order) .none kV_law_rule_in_order dc_law_rule_in_order pm_law_rule_in_order an_law_rule_in_order cd_law_rule_in_order ct_law_rule_in_order), sl_law_rule_in_order⟩)
    (c_law_rule_in_order : PySem.W.codeIn K cd_law_rule_in_order "_law_rule_in_order" = true)
    (k_law_rule_in_order : PySem.W.keepIn K (.ref f_law_rule_in_order) = true)
    (a_law_first_wrong : PySem.W.nsIn K mainGlobals "_law_first_wrong" = some (some (.ref f_law_first_wrong)))
    (l_law_first_wrong : K.lookup f_law_first_wrong = some ⟨oc_law_first_wrong, od_law_first_wrong, .func (PySem.W.fnOf "_law_first_wrong" "_law_first_wrong" (defArgs s_law_first_wrong) (defBody s_law_first_wrong) (defScope s_law_first_wrong) .none kV_law_first_wrong dc_law_first_wrong pm_law_first_wrong an_law_first_wrong cd_law_first_wrong ct_law_first_wrong), sl_law_first_wrong⟩)
    (c_law_first_wrong : PySem.W.codeIn K cd_law_first_wrong "_law_first_wrong" = true)
    (k_law_first_wrong : PySem.W.keepIn K (.ref f_law_first_wrong) = true)
    (a_law_refused : PySem.W.nsIn K mainGlobals "_law_refused" = some (some (.ref f_law_refused)))
    (l_law_refused : K.lookup f_law_refused = some ⟨oc_law_refused, od_law_refused, .func (PySem.W.fnOf "_law_refused" "_law_refused" (defArgs s_law_refused) (defBody s_law_refused) (defScope s_law_refused) .none kV_law_refused dc_law_refused pm_law_refused an_law_refused cd_law_refused ct_law_refused), sl_law_refused⟩)
    (c_law_refused : PySem.W.codeIn K cd_law_refused "_law_refused" = true)
    (k_law_refused : PySem.W.keepIn K (.ref f_law_refused) = true)
    (a_law_same_rule : PySem.W.nsIn K mainGlobals "_law_same_rule" = some (some (.ref f_law_same_rule)))
    (l_law_same_rule : K.lookup f_law_same_rule = some ⟨oc_law_same_rule, od_law_same_rule, .func (PySem.W.fnOf "_law_same_rule" "_law_same_rule" (defArgs s_law_same_rule) (defBody s_law_same_rule) (defScope s_law_same_rule) .none kV_law_same_rule dc_law_same_rule pm_law_same_rule an_law_same_rule cd_law_same_rule ct_law_same_rule), sl_law_same_rule⟩)
    (c_law_same_rule : PySem.W.codeIn K cd_law_same_rule "_law_same_rule" = true)
    (k_law_same_rule : PySem.W.keepIn K (.ref f_law_same_rule) = true)
    (a_law_fields : PySem.W.nsIn K mainGlobals "_law_fields" = some (some (.ref f_law_fields)))
    (l_law_fields : K.lookup f_law_fields = some ⟨oc_law_fields, od_law_fields, .func (PySem.W.fnOf "_law_fields" "_law_fields" (defArgs s_law_fields) (defBody s_law_fields) (defScope s_law_fields) .none kV_law_fields dc_law_fields pm_law_fields an_law_fields cd_law_fields ct_law_fields), sl_law_fields⟩)
    (c_law_fields : PySem.W.codeIn K cd_law_fields "_law_fields" = true)
    (k_law_fields : PySem.W.keepIn K (.ref f_law_fields) = true)
    (a_law_built : PySem.W.nsIn K mainGlobals "_law_built" = some (some (.ref f_law_built)))
    (l_law_built : K.lookup f_law_built = some ⟨oc_law_built, od_law_built, .func (PySem.W.fnOf "_law_built" "_law_built" (defArgs s_law_built) (defBody s_law_built) (defScope s_law_built) .none kV_law_built dc_law_built pm_law_built an_law_built cd_law_built ct_law_built), sl_law_built⟩)
    (c_law_built : PySem.W.codeIn K cd_law_built "_law_built" = true)
    (k_law_built : PySem.W.keepIn K (.ref f_law_built) = true)
    (a_law_plain : PySem.W.nsIn K mainGlobals "_law_plain" = some (some (.ref f_law_plain)))
    (l_law_plain : K.lookup f_law_plain = some ⟨oc_law_plain, od_law_plain, .func (PySem.W.fnOf "_law_plain" "_law_plain" (defArgs s_law_plain) (defBody s_law_plain) (defScope s_law_plain) .none kV_law_plain dc_law_plain pm_law_plain an_law_plain cd_law_plain ct_law_plain), sl_law_plain⟩)
    (c_law_plain : PySem.W.codeIn K cd_law_plain "_law_plain" = true)
    (k_law_plain : PySem.W.keepIn K (.ref f_law_plain) = true)
    (a_law : PySem.W.nsIn K mainGlobals "law" = some (some (.ref f_law)))
    (l_law : K.lookup f_law = some ⟨oc_law, od_law, .func (PySem.W.fnOf "law" "law" (defArgs s_law) (defBody s_law) (defScope s_law) .none kV_law dc_law pm_law an_law cd_law ct_law), sl_law⟩)
    (c_law : PySem.W.codeIn K cd_law "law" = true)
    (k_law : PySem.W.keepIn K (.ref f_law) = true)
    (pg_Row : PySem.W.plainGet K c_Row Str.empty = true)
    (hd_Row : PySem.W.hasDictIn K c_Row = true)
    (po_Row : PySem.W.plainOver K c_Row = true)
    (sa_Row : PySem.W.findIn K (.ref c_Row) "__setattr__" = some (some (.builtin "object.__setattr__")))
    (mk_Row : PySem.W.makesIn K c_Row = true)
    (kc_Row : PySem.W.keepIn K (.ref c_Row) = true)
    (n_Row_grip : PySem.W.findIn K (.ref c_Row) "grip" = some none)
    (n_Row_lease : PySem.W.findIn K (.ref c_Row) "lease" = some none)
    (n_Row_mode : PySem.W.findIn K (.ref c_Row) "mode" = some none)
    (n_Row_rule : PySem.W.findIn K (.ref c_Row) "rule" = some none)
    (n_Row_sharing : PySem.W.findIn K (.ref c_Row) "sharing" = some none)
    (ex_BridgeError : PySem.W.subIn K (.ref c_BridgeError) (.type "BaseException") = some true)
    (ty_BridgeError : PySem.W.typeIn K (.ref c_BridgeError) = some (.type "type"))
    (yd_BridgeError : PySem.W.hasDictIn K c_BridgeError = true)
    (og_BridgeError : PySem.W.specialIn K (.ref c_BridgeError) "__getattribute__" = some (some (.builtin "type.__getattribute__")))
    (or_BridgeError : PySem.W.readsIn K c_BridgeError (.type "type") = true)
    (of_BridgeError : PySem.W.findCls K (.ref c_BridgeError) (.type "type") "__init__" = some (.val (.builtin "ValueError.__init__")))
    (ex_ImpossibleLife : PySem.W.subIn K (.ref c_ImpossibleLife) (.type "BaseException") = some true)
    (ty_ImpossibleLife : PySem.W.typeIn K (.ref c_ImpossibleLife) = some (.type "type"))
    (yd_ImpossibleLife : PySem.W.hasDictIn K c_ImpossibleLife = true)
    (ex_InvalidMap : PySem.W.subIn K (.ref c_InvalidMap) (.type "BaseException") = some true)
    (ty_InvalidMap : PySem.W.typeIn K (.ref c_InvalidMap) = some (.type "type"))
    (yd_InvalidMap : PySem.W.hasDictIn K c_InvalidMap = true)
    (ex_InvalidRow : PySem.W.subIn K (.ref c_InvalidRow) (.type "BaseException") = some true)
    (ty_InvalidRow : PySem.W.typeIn K (.ref c_InvalidRow) = some (.type "type"))
    (yd_InvalidRow : PySem.W.hasDictIn K c_InvalidRow = true)
    (xL_InvalidRow : K.lookup c_InvalidRow = some (excClassObj nm_InvalidRow q_InvalidRow c_InvalidRow N_InvalidRow bs_InvalidRow [.ref c_BridgeError, .type "ValueError", .type "Exception", .type "BaseException", .type "object"] true sn_InvalidRow sub_InvalidRow ab_InvalidRow col_InvalidRow dd_InvalidRow m0_InvalidRow m1_InvalidRow m2_InvalidRow m3_InvalidRow m5_InvalidRow "ValueError.__new__"))
    (sx_InvalidRow : PySem.W.findIn K (.ref c_InvalidRow) "__setattr__" = some (some (.builtin "object.__setattr__")))
    (kx_InvalidRow : PySem.W.keepIn K (.ref c_InvalidRow) = true)
    (tf_InvalidRow : PySem.W.typeIn K (.ref f_InvalidRow_init_) = some (.type "function"))
    (ya_InvalidRow : PySem.W.findIn K (.ref c_InvalidRow) "__getattribute__" = some (some (.builtin "BaseException.__getattribute__")))
    (yg_InvalidRow : PySem.W.findIn K (.ref c_InvalidRow) "__getattr__" = some none)
    (yk_InvalidRow : PySem.W.findIn K (.ref c_InvalidRow) "__class__" = some (some (.builtin "object.__class__")))
    (yo_InvalidRow : PySem.W.mroIn K c_InvalidRow (.type "object") = some true)
    (nx_InvalidRow_what : PySem.W.findIn K (.ref c_InvalidRow) "what" = some none)
    (sb_InvalidRow_BridgeError : PySem.W.subIn K (.ref c_InvalidRow) (.ref c_BridgeError) = some true)
    (sb_InvalidRow_InvalidRow : PySem.W.subIn K (.ref c_InvalidRow) (.ref c_InvalidRow) = some true)
    (kt_InvalidRow_InvalidRow : PySem.W.kitOne K (.ref c_InvalidRow) (.ref c_InvalidRow) = some true)
    (kt_InvalidRow_InvalidMap : PySem.W.kitOne K (.ref c_InvalidRow) (.ref c_InvalidMap) = some false)
    (kt_InvalidRow_ImpossibleLife : PySem.W.kitOne K (.ref c_InvalidRow) (.ref c_ImpossibleLife) = some false)
    (kt_InvalidRow_ValueError : PySem.W.kitOne K (.ref c_InvalidRow) (.type "ValueError") = some true)
    (is_get : PySem.W.specialIn K (.builtin "object.__class__") "__get__" = some (some (.builtin "getset_descriptor.__get__")))
    (is_tk : PySem.W.takesIn K (.builtin "object.__class__") = some true)
    (z_ValueError : PySem.W.nsIn K mainGlobals "ValueError" = some none)
    (z_abs : PySem.W.nsIn K mainGlobals "abs" = some none)
    (z_bool : PySem.W.nsIn K mainGlobals "bool" = some none)
    (z_int : PySem.W.nsIn K mainGlobals "int" = some none)
    (z_isinstance : PySem.W.nsIn K mainGlobals "isinstance" = some none)
    (z_len : PySem.W.nsIn K mainGlobals "len" = some none)
    (z_list : PySem.W.nsIn K mainGlobals "list" = some none)
    (z_max : PySem.W.nsIn K mainGlobals "max" = some none)
    (z_range : PySem.W.nsIn K mainGlobals "range" = some none)
    (z_str : PySem.W.nsIn K mainGlobals "str" = some none)
    (z_tuple : PySem.W.nsIn K mainGlobals "tuple" = some none)
    (g_EVENTS : PySem.W.nsIn K mainGlobals "EVENTS" = some (some (.str "LGHRFD" t_EVENTS)))
    (g_GRIPS : PySem.W.nsIn K mainGlobals "GRIPS" = some (some (.ref k_GRIPS)))
    (lk_GRIPS : K.lookup k_GRIPS = some ⟨.type "tuple", dd_GRIPS, .seq its_GRIPS nn_GRIPS, sl_GRIPS⟩)
    (vv_GRIPS : Vals [V.str "slot", V.str "place", V.str "pin"] its_GRIPS.toList)
    (g_LEASES : PySem.W.nsIn K mainGlobals "LEASES" = some (some (.ref k_LEASES)))
    (lk_LEASES : K.lookup k_LEASES = some ⟨.type "tuple", dd_LEASES, .seq its_LEASES nn_LEASES, sl_LEASES⟩)
    (vv_LEASES : Vals [V.str "always", V.str "call"] its_LEASES.toList)
    (g_MODES : PySem.W.nsIn K mainGlobals "MODES" = some (some (.ref k_MODES)))
    (lk_MODES : K.lookup k_MODES = some ⟨.type "tuple", dd_MODES, .seq its_MODES nn_MODES, sl_MODES⟩)
    (vv_MODES : Vals [V.str "held", V.str "copied", V.str "refused"] its_MODES.toList)
    (g_MOST_CHANGE : PySem.W.nsIn K mainGlobals "MOST_CHANGE" = some (some (.int (3) t_MOST_CHANGE)))
    (g_MOST_MARKS : PySem.W.nsIn K mainGlobals "MOST_MARKS" = some (some (.int (4) t_MOST_MARKS)))
    (g_SHARINGS : PySem.W.nsIn K mainGlobals "SHARINGS" = some (some (.ref k_SHARINGS)))
    (lk_SHARINGS : K.lookup k_SHARINGS = some ⟨.type "tuple", dd_SHARINGS, .seq its_SHARINGS nn_SHARINGS, sl_SHARINGS⟩)
    (vv_SHARINGS : Vals [V.str "one", V.str "each"] its_SHARINGS.toList)
    (g_STILL : PySem.W.nsIn K mainGlobals "STILL" = some (some (.ref k_STILL)))
    (lk_STILL : K.lookup k_STILL = some ⟨.type "tuple", dd_STILL, .seq its_STILL nn_STILL, sl_STILL⟩)
    (vv_STILL : Vals [V.ref k_STILL_0, V.ref k_STILL_1, V.ref k_STILL_2, V.ref k_STILL_3, V.ref k_STILL_4, V.ref k_STILL_5] its_STILL.toList)
    (lk_STILL_0 : K.lookup k_STILL_0 = some ⟨.type "tuple", dd_STILL_0, .seq its_STILL_0 nn_STILL_0, sl_STILL_0⟩)
    (vv_STILL_0 : Vals [V.int 0, V.int 0] its_STILL_0.toList)
    (lk_STILL_1 : K.lookup k_STILL_1 = some ⟨.type "tuple", dd_STILL_1, .seq its_STILL_1 nn_STILL_1, sl_STILL_1⟩)
    (vv_STILL_1 : Vals [V.int 0, V.int 0] its_STILL_1.toList)
    (lk_STILL_2 : K.lookup k_STILL_2 = some ⟨.type "tuple", dd_STILL_2, .seq its_STILL_2 nn_STILL_2, sl_STILL_2⟩)
    (vv_STILL_2 : Vals [V.int 0, V.int 0] its_STILL_2.toList)
    (lk_STILL_3 : K.lookup k_STILL_3 = some ⟨.type "tuple", dd_STILL_3, .seq its_STILL_3 nn_STILL_3, sl_STILL_3⟩)
    (vv_STILL_3 : Vals [V.int 0, V.int 0] its_STILL_3.toList)
    (lk_STILL_4 : K.lookup k_STILL_4 = some ⟨.type "tuple", dd_STILL_4, .seq its_STILL_4 nn_STILL_4, sl_STILL_4⟩)
    (vv_STILL_4 : Vals [V.int 0, V.int 0] its_STILL_4.toList)
    (lk_STILL_5 : K.lookup k_STILL_5 = some ⟨.type "tuple", dd_STILL_5, .seq its_STILL_5 nn_STILL_5, sl_STILL_5⟩)
    (vv_STILL_5 : Vals [V.int 0, V.int 0] its_STILL_5.toList)
    : ∃ ad : Ad, Txt K mg ad ∧ fa = ad.a_law ∧ ∀ (s : Shared) (v : Value), BindsTo s ad.d_law ⟨[v], []⟩ [("script", v)] := by
  have e := hfa.symm.trans (PySem.W.mg_of X G a_law)
  cases e
  have F_law_take := fun_mk (st := s_law_take) l_law_take c_law_take k_law_take
  have b_law_take := F_law_take.binds (ps := ["deck", "many"]) fun _ _ _ _ _ _ us hl => match us, hl with | [_, _], _ => rfl
  have F_law_deck := fun_mk (st := s_law_deck) l_law_deck c_law_deck k_law_deck
  have b_law_deck := F_law_deck.binds (ps := ["script", "cells", "each"]) fun _ _ _ _ _ _ us hl => match us, hl with | [_, _, _], _ => rfl
  have F_is_mark := fun_mk (st := s_is_mark) l_is_mark c_is_mark k_is_mark
  have b_is_mark := F_is_mark.binds (ps := ["mark", "marks"]) fun _ _ _ _ _ _ us hl => match us, hl with | [_, _], _ => rfl
  have F_is_rule := fun_mk (st := s_is_rule) l_is_rule c_is_rule k_is_rule
  have b_is_rule := F_is_rule.binds (ps := ["rule"]) fun _ _ _ _ _ _ us hl => match us, hl with | [_], _ => rfl
  have F_InvalidRow_init_ := fun_mk (st := s_InvalidRow_init_) l_InvalidRow_init_ c_InvalidRow_init_ k_InvalidRow_init_
  have b_InvalidRow_init_ := F_InvalidRow_init_.binds (ps := ["self", "what"]) fun _ _ _ _ _ _ us hl => match us, hl with | [_, _], _ => rfl
  have F_Row_init_ := fun_mk (st := s_Row_init_) l_Row_init_ c_Row_init_ k_Row_init_
  have b_Row_init_ := F_Row_init_.binds (ps := ["self", "mode", "sharing", "lease", "grip", "rule"]) fun _ _ _ _ _ _ us hl => match us, hl with | [_, _, _, _, _, _], _ => rfl
  have F_plain_row := fun_mk (st := s_plain_row) l_plain_row c_plain_row k_plain_row
  have b_plain_row := F_plain_row.binds (ps := ["mode"]) fun _ _ _ _ _ _ us hl => match us, hl with | [_], _ => rfl
  have F_law_whole := fun_mk (st := s_law_whole) l_law_whole c_law_whole k_law_whole
  have b_law_whole := F_law_whole.binds (ps := ["value"]) fun _ _ _ _ _ _ us hl => match us, hl with | [_], _ => rfl
  have F_law_word := fun_mk (st := s_law_word) l_law_word c_law_word k_law_word
  have b_law_word := F_law_word.binds (ps := ["deck", "good", "bad"]) fun _ _ _ _ _ _ us hl => match us, hl with | [_, _, _], _ => rfl
  have F_law_rule := fun_mk (st := s_law_rule) l_law_rule c_law_rule k_law_rule
  have b_law_rule := F_law_rule.binds (ps := ["deck", "size"]) fun _ _ _ _ _ _ us hl => match us, hl with | [_, _], _ => rfl
  have F_law_spoilt_rule := fun_mk (st := s_law_spoilt_rule) l_law_spoilt_rule c_law_spoilt_rule k_law_spoilt_rule
  have b_law_spoilt_rule := F_law_spoilt_rule.binds (ps := ["deck", "size"]) fun _ _ _ _ _ _ us hl => match us, hl with | [_, _], _ => rfl
  have F_law_parts := fun_mk (st := s_law_parts) l_law_parts c_law_parts k_law_parts
  have b_law_parts := F_law_parts.binds (ps := ["deck"]) fun _ _ _ _ _ _ us hl => match us, hl with | [_], _ => rfl
  have F_law_rule_in_order := fun_mk (st := s_law_rule_in_order) l_law_rule_in_order c_law_rule_in_order k_law_rule_in_order
  have b_law_rule_in_order := F_law_rule_in_order.binds (ps := ["rule"]) fun _ _ _ _ _ _ us hl => match us, hl with | [_], _ => rfl
  have F_law_first_wrong := fun_mk (st := s_law_first_wrong) l_law_first_wrong c_law_first_wrong k_law_first_wrong
  have b_law_first_wrong := F_law_first_wrong.binds (ps := ["parts"]) fun _ _ _ _ _ _ us hl => match us, hl with | [_], _ => rfl
  have F_law_refused := fun_mk (st := s_law_refused) l_law_refused c_law_refused k_law_refused
  have b_law_refused := F_law_refused.binds (ps := ["parts", "what"]) fun _ _ _ _ _ _ us hl => match us, hl with | [_, _], _ => rfl
  have F_law_same_rule := fun_mk (st := s_law_same_rule) l_law_same_rule c_law_same_rule k_law_same_rule
  have b_law_same_rule := F_law_same_rule.binds (ps := ["rule", "marks"]) fun _ _ _ _ _ _ us hl => match us, hl with | [_, _], _ => rfl
  have F_law_fields := fun_mk (st := s_law_fields) l_law_fields c_law_fields k_law_fields
  have b_law_fields := F_law_fields.binds (ps := ["row", "parts"]) fun _ _ _ _ _ _ us hl => match us, hl with | [_, _], _ => rfl
  have F_law_built := fun_mk (st := s_law_built) l_law_built c_law_built k_law_built
  have b_law_built := F_law_built.binds (ps := ["parts"]) fun _ _ _ _ _ _ us hl => match us, hl with | [_], _ => rfl
  have F_law_plain := fun_mk (st := s_law_plain) l_law_plain c_law_plain k_law_plain
  have b_law_plain := F_law_plain.binds (ps := ["mode"]) fun _ _ _ _ _ _ us hl => match us, hl with | [_], _ => rfl
  have F_law := fun_mk (st := s_law) l_law c_law k_law
  have b_law := F_law.binds (ps := ["script"]) fun _ _ _ _ _ _ us hl => match us, hl with | [_], _ => rfl
  refine ⟨⟨f_law_take, (PySem.W.fnOf "_law_take" "_law_take" (defArgs s_law_take) (defBody s_law_take) (defScope s_law_take) .none kV_law_take dc_law_take pm_law_take an_law_take cd_law_take ct_law_take), f_law_deck, (PySem.W.fnOf "_law_deck" "_law_deck" (defArgs s_law_deck) (defBody s_law_deck) (defScope s_law_deck) .none kV_law_deck dc_law_deck pm_law_deck an_law_deck cd_law_deck ct_law_deck), f_is_mark, (PySem.W.fnOf "is_mark" "is_mark" (defArgs s_is_mark) (defBody s_is_mark) (defScope s_is_mark) .none kV_is_mark dc_is_mark pm_is_mark an_is_mark cd_is_mark ct_is_mark), f_is_rule, (PySem.W.fnOf "is_rule" "is_rule" (defArgs s_is_rule) (defBody s_is_rule) (defScope s_is_rule) .none kV_is_rule dc_is_rule pm_is_rule an_is_rule cd_is_rule ct_is_rule), f_InvalidRow_init_, (PySem.W.fnOf "__init__" "InvalidRow.__init__" (defArgs s_InvalidRow_init_) (defBody s_InvalidRow_init_) (defScope s_InvalidRow_init_) .none kV_InvalidRow_init_ dc_InvalidRow_init_ pm_InvalidRow_init_ an_InvalidRow_init_ cd_InvalidRow_init_ ct_InvalidRow_init_), f_Row_init_, (PySem.W.fnOf "__init__" "Row.__init__" (defArgs s_Row_init_) (defBody s_Row_init_) (defScope s_Row_init_) .none kV_Row_init_ dc_Row_init_ pm_Row_init_ an_Row_init_ cd_Row_init_ ct_Row_init_), f_plain_row, (PySem.W.fnOf "plain_row" "plain_row" (defArgs s_plain_row) (defBody s_plain_row) (defScope s_plain_row) .none kV_plain_row dc_plain_row pm_plain_row an_plain_row cd_plain_row ct_plain_row), f_law_whole, (PySem.W.fnOf "_law_whole" "_law_whole" (defArgs s_law_whole) (defBody s_law_whole) (defScope s_law_whole) .none kV_law_whole dc_law_whole pm_law_whole an_law_whole cd_law_whole ct_law_whole), f_law_word, (PySem.W.fnOf "_law_word" "_law_word" (defArgs s_law_word) (defBody s_law_word) (defScope s_law_word) .none kV_law_word dc_law_word pm_law_word an_law_word cd_law_word ct_law_word), f_law_rule, (PySem.W.fnOf "_law_rule" "_law_rule" (defArgs s_law_rule) (defBody s_law_rule) (defScope s_law_rule) .none kV_law_rule dc_law_rule pm_law_rule an_law_rule cd_law_rule ct_law_rule), f_law_spoilt_rule, (PySem.W.fnOf "_law_spoilt_rule" "_law_spoilt_rule" (defArgs s_law_spoilt_rule) (defBody s_law_spoilt_rule) (defScope s_law_spoilt_rule) .none kV_law_spoilt_rule dc_law_spoilt_rule pm_law_spoilt_rule an_law_spoilt_rule cd_law_spoilt_rule ct_law_spoilt_rule), f_law_parts, (PySem.W.fnOf "_law_parts" "_law_parts" (defArgs s_law_parts) (defBody s_law_parts) (defScope s_law_parts) .none kV_law_parts dc_law_parts pm_law_parts an_law_parts cd_law_parts ct_law_parts), f_law_rule_in_order, (PySem.W.fnOf "_law_rule_in_order" "_law_rule_in_order" (defArgs s_law_rule_in_order) (defBody s_law_rule_in_order) (defScope s_law_rule_in_order) .none kV_law_rule_in_order dc_law_rule_in_order pm_law_rule_in_order an_law_rule_in_order cd_law_rule_in_order ct_law_rule_in_order), f_law_first_wrong, (PySem.W.fnOf "_law_first_wrong" "_law_first_wrong" (defArgs s_law_first_wrong) (defBody s_law_first_wrong) (defScope s_law_first_wrong) .none kV_law_first_wrong dc_law_first_wrong pm_law_first_wrong an_law_first_wrong cd_law_first_wrong ct_law_first_wrong), f_law_refused, (PySem.W.fnOf "_law_refused" "_law_refused" (defArgs s_law_refused) (defBody s_law_refused) (defScope s_law_refused) .none kV_law_refused dc_law_refused pm_law_refused an_law_refused cd_law_refused ct_law_refused), f_law_same_rule, (PySem.W.fnOf "_law_same_rule" "_law_same_rule" (defArgs s_law_same_rule) (defBody s_law_same_rule) (defScope s_law_same_rule) .none kV_law_same_rule dc_law_same_rule pm_law_same_rule an_law_same_rule cd_law_same_rule ct_law_same_rule), f_law_fields, (PySem.W.fnOf "_law_fields" "_law_fields" (defArgs s_law_fields) (defBody s_law_fields) (defScope s_law_fields) .none kV_law_fields dc_law_fields pm_law_fields an_law_fields cd_law_fields ct_law_fields), f_law_built, (PySem.W.fnOf "_law_built" "_law_built" (defArgs s_law_built) (defBody s_law_built) (defScope s_law_built) .none kV_law_built dc_law_built pm_law_built an_law_built cd_law_built ct_law_built), f_law_plain, (PySem.W.fnOf "_law_plain" "_law_plain" (defArgs s_law_plain) (defBody s_law_plain) (defScope s_law_plain) .none kV_law_plain dc_law_plain pm_law_plain an_law_plain cd_law_plain ct_law_plain), fa, (PySem.W.fnOf "law" "law" (defArgs s_law) (defBody s_law) (defScope s_law) .none kV_law dc_law pm_law an_law cd_law ct_law), c_BridgeError, c_ImpossibleLife, c_InvalidMap, c_InvalidRow, c_Row, k_GRIPS, k_LEASES, k_MODES, k_SHARINGS, k_STILL⟩, ?_, rfl, fun s v => .of_eq rfl⟩
  exact {
    F_law_take := F_law_take
    b_law_take := b_law_take
    m_law_take := PySem.W.mg_of X G a_law_take
    F_law_deck := F_law_deck
    b_law_deck := b_law_deck
    m_law_deck := PySem.W.mg_of X G a_law_deck
    F_is_mark := F_is_mark
    b_is_mark := b_is_mark
    m_is_mark := PySem.W.mg_of X G a_is_mark
    F_is_rule := F_is_rule
    b_is_rule := b_is_rule
    m_is_rule := PySem.W.mg_of X G a_is_rule
    F_InvalidRow_init_ := F_InvalidRow_init_
    b_InvalidRow_init_ := b_InvalidRow_init_
    F_Row_init_ := F_Row_init_
    b_Row_init_ := b_Row_init_
    F_plain_row := F_plain_row
    b_plain_row := b_plain_row
    m_plain_row := PySem.W.mg_of X G a_plain_row
    F_law_whole := F_law_whole
    b_law_whole := b_law_whole
    m_law_whole := PySem.W.mg_of X G a_law_whole
    F_law_word := F_law_word
    b_law_word := b_law_word
    m_law_word := PySem.W.mg_of X G a_law_word
    F_law_rule := F_law_rule
    b_law_rule := b_law_rule
    m_law_rule := PySem.W.mg_of X G a_law_rule
    F_law_spoilt_rule := F_law_spoilt_rule
    b_law_spoilt_rule := b_law_spoilt_rule
    m_law_spoilt_rule := PySem.W.mg_of X G a_law_spoilt_rule
    F_law_parts := F_law_parts
    b_law_parts := b_law_parts
    m_law_parts := PySem.W.mg_of X G a_law_parts
    F_law_rule_in_order := F_law_rule_in_order
    b_law_rule_in_order := b_law_rule_in_order
    m_law_rule_in_order := PySem.W.mg_of X G a_law_rule_in_order
    F_law_first_wrong := F_law_first_wrong
    b_law_first_wrong := b_law_first_wrong
    m_law_first_wrong := PySem.W.mg_of X G a_law_first_wrong
    F_law_refused := F_law_refused
    b_law_refused := b_law_refused
    m_law_refused := PySem.W.mg_of X G a_law_refused
    F_law_same_rule := F_law_same_rule
    b_law_same_rule := b_law_same_rule
    m_law_same_rule := PySem.W.mg_of X G a_law_same_rule
    F_law_fields := F_law_fields
    b_law_fields := b_law_fields
    m_law_fields := PySem.W.mg_of X G a_law_fields
    F_law_built := F_law_built
    b_law_built := b_law_built
    m_law_built := PySem.W.mg_of X G a_law_built
    F_law_plain := F_law_plain
    b_law_plain := b_law_plain
    m_law_plain := PySem.W.mg_of X G a_law_plain
    F_law := F_law
    b_law := b_law
    m_law := PySem.W.mg_of X G a_law
    cl_Row := ⟨pg_Row, hd_Row, po_Row, sa_Row⟩
    mg_Row := PySem.W.mg_of X G A_Row
    mk_Row := ⟨mk_Row, a_Row_init_, i_Row_init_, kc_Row⟩
    n_Row_grip := n_Row_grip
    n_Row_lease := n_Row_lease
    n_Row_mode := n_Row_mode
    n_Row_rule := n_Row_rule
    n_Row_sharing := n_Row_sharing
    mg_BridgeError := PySem.W.mg_of X G A_BridgeError
    ov_BridgeError := ⟨og_BridgeError, or_BridgeError, of_BridgeError⟩
    mg_ImpossibleLife := PySem.W.mg_of X G A_ImpossibleLife
    mg_InvalidMap := PySem.W.mg_of X G A_InvalidMap
    mg_InvalidRow := PySem.W.mg_of X G A_InvalidRow
    ox_InvalidRow := ⟨⟨_, _, _, _, _, _, _, _, _, _, _, _, _, _, _, xL_InvalidRow, by rfl⟩, sx_InvalidRow, ex_InvalidRow, ty_InvalidRow, kx_InvalidRow⟩
    ix_InvalidRow := a_InvalidRow_init_
    tx_InvalidRow := tf_InvalidRow
    xd_InvalidRow := ⟨(by obtain ⟨cd, hc, _⟩ := PySem.W.any_some yd_InvalidRow; rw [hc]; rfl), ya_InvalidRow, yg_InvalidRow, ex_InvalidRow, yd_InvalidRow, yk_InvalidRow, is_get, is_tk, yo_InvalidRow⟩
    nx_InvalidRow_what := nx_InvalidRow_what
    em_InvalidRow_BridgeError := PySem.W.exm_ref ex_BridgeError yd_BridgeError ty_BridgeError sb_InvalidRow_BridgeError
    em_InvalidRow_InvalidRow := PySem.W.exm_ref ex_InvalidRow yd_InvalidRow ty_InvalidRow sb_InvalidRow_InvalidRow
    kt_InvalidRow_InvalidRow := kt_InvalidRow_InvalidRow
    kt_InvalidRow_InvalidMap := kt_InvalidRow_InvalidMap
    kt_InvalidRow_ImpossibleLife := kt_InvalidRow_ImpossibleLife
    kt_InvalidRow_ValueError := kt_InvalidRow_ValueError
    mc_EVENTS := ⟨_, PySem.W.mg_of X G g_EVENTS, ⟨_, rfl⟩⟩
    mc_GRIPS := PySem.W.mg_of X G g_GRIPS
    tv_GRIPS := fun H => Rd.sqtK lk_GRIPS vv_GRIPS (Nat.le_of_ble_eq_true rfl)
    mc_LEASES := PySem.W.mg_of X G g_LEASES
    tv_LEASES := fun H => Rd.sqtK lk_LEASES vv_LEASES (Nat.le_of_ble_eq_true rfl)
    mc_MODES := PySem.W.mg_of X G g_MODES
    tv_MODES := fun H => Rd.sqtK lk_MODES vv_MODES (Nat.le_of_ble_eq_true rfl)
    mc_MOST_CHANGE := ⟨_, PySem.W.mg_of X G g_MOST_CHANGE, ⟨_, rfl⟩⟩
    mc_MOST_MARKS := ⟨_, PySem.W.mg_of X G g_MOST_MARKS, ⟨_, rfl⟩⟩
    mc_SHARINGS := PySem.W.mg_of X G g_SHARINGS
    tv_SHARINGS := fun H => Rd.sqtK lk_SHARINGS vv_SHARINGS (Nat.le_of_ble_eq_true rfl)
    mc_STILL := PySem.W.mg_of X G g_STILL
    tv_STILL := fun H => (.tup (Rd.sqtK lk_STILL vv_STILL (Nat.le_of_ble_eq_true rfl)) (.cons (.tup (Rd.sqtK lk_STILL_0 vv_STILL_0 (Nat.le_of_ble_eq_true rfl)) (.cons (.int _) (.cons (.int _) .nil))) (.cons (.tup (Rd.sqtK lk_STILL_1 vv_STILL_1 (Nat.le_of_ble_eq_true rfl)) (.cons (.int _) (.cons (.int _) .nil))) (.cons (.tup (Rd.sqtK lk_STILL_2 vv_STILL_2 (Nat.le_of_ble_eq_true rfl)) (.cons (.int _) (.cons (.int _) .nil))) (.cons (.tup (Rd.sqtK lk_STILL_3 vv_STILL_3 (Nat.le_of_ble_eq_true rfl)) (.cons (.int _) (.cons (.int _) .nil))) (.cons (.tup (Rd.sqtK lk_STILL_4 vv_STILL_4 (Nat.le_of_ble_eq_true rfl)) (.cons (.int _) (.cons (.int _) .nil))) (.cons (.tup (Rd.sqtK lk_STILL_5 vv_STILL_5 (Nat.le_of_ble_eq_true rfl)) (.cons (.int _) (.cons (.int _) .nil))) .nil)))))))
    z_ValueError := PySem.W.mg_none_of X G z_ValueError
    z_abs := PySem.W.mg_none_of X G z_abs
    z_bool := PySem.W.mg_none_of X G z_bool
    z_int := PySem.W.mg_none_of X G z_int
    z_isinstance := PySem.W.mg_none_of X G z_isinstance
    z_len := PySem.W.mg_none_of X G z_len
    z_list := PySem.W.mg_none_of X G z_list
    z_max := PySem.W.mg_none_of X G z_max
    z_range := PySem.W.mg_none_of X G z_range
    z_str := PySem.W.mg_none_of X G z_str
    z_tuple := PySem.W.mg_none_of X G z_tuple
  }
theorem walk {l : PySem.W.OpenLaw} {q : Program} {loose : List Str} {XP : (Str → Option Value) → Heap → Prop} {YP : World → Heap → Prop} {d : DefRec} {K : Params → PySem.W.Frag} (hn : l.most = some 63) (hdf : d.params.defaults = [])
    (hY : ∀ (w : World) (h : Heap), YP w h → (K w.params).In h)
    (F : ∀ (w : World) (mg : Str → Option Value) (fa : Addr) (h : Heap), (K w.params).In h → h.Ns mainGlobals mg → mg d.name = some (.ref fa) →
      ∃ ad : Ad, Txt (K w.params) mg ad ∧ fa = ad.a_law ∧ ∀ (s : Shared) (v : Value), BindsTo s ad.d_law ⟨[v], []⟩ [("script", v)]) :
    PySem.W.WalkO q loose XP YP l.row.toRowW d [] (fun f vs => PySem.call f vs) := by
  refine L2.walk_of (n := 63) (k := 7) (x := "script") (CX := fun _ => CX0) (sp := fun w => spLaw (K w.params)) hn (by decide) hdf ⟨rfl, by decide, by decide⟩ hY (fun w mg fa h KX G hmg => ?_) (fun _ _ a ns hl _ hS => ⟨a, ns, rfl, hS, hl, fun _ => rfl⟩) fun _ _ _ _ _ z => z
  obtain ⟨ad, T, rfl, hb⟩ := F w mg fa h KX G hmg
  exact ⟨ad.d_law, hb, fun base _ _ => ok_law T⟩
end Toy
open PySem PySem.W PyProof.Rows
set_option maxRecDepth 100000 in
set_option maxHeartbeats 0 in
theorem PySem.Challenge.cw_surebridge_k16_rows_in_order_holds : PySem.Challenge.rw_surebridge_k16_rows_in_order.Holds := by
  w_on; o_law; k_head; (case hw => w_witness2)
  k_fill
  refine Toy.walk (l := PySem.Challenge.rw_surebridge_k16_rows_in_order) rfl rfl (fun w h Y => PySem.W.kIn_of Y) ?F
  case F =>
    intro w mg fa h KX G hmg
    refine' Toy.all_mk KX G hmg ?A_BridgeError ?A_ImpossibleLife ?A_InvalidMap ?A_InvalidRow ?A_Row ?a_law_take ?l_law_take ?c_law_take ?k_law_take ?a_law_deck ?l_law_deck ?c_law_deck ?k_law_deck ?a_is_mark ?l_is_mark ?c_is_mark ?k_is_mark ?a_is_rule ?l_is_rule ?c_is_rule ?k_is_rule ?a_InvalidRow_init_ ?i_InvalidRow_init_ ?l_InvalidRow_init_ ?c_InvalidRow_init_ ?k_InvalidRow_init_ ?a_Row_init_ ?i_Row_init_ ?l_Row_init_ ?c_Row_init_ ?k_Row_init_ ?a_plain_row ?l_plain_row ?c_plain_row ?k_plain_row ?a_law_whole ?l_law_whole ?c_law_whole ?k_law_whole ?a_law_word ?l_law_word ?c_law_word ?k_law_word ?a_law_rule ?l_law_rule ?c_law_rule ?k_law_rule ?a_law_spoilt_rule ?l_law_spoilt_rule ?c_law_spoilt_rule ?k_law_spoilt_rule ?a_law_parts ?l_law_parts ?c_law_parts ?k_law_parts ?a_law_rule_in_order ?l_law_rule_in_order ?c_law_rule_in_order ?k_law_rule_in_order ?a_law_first_wrong ?l_law_first_wrong ?c_law_first_wrong ?k_law_first_wrong ?a_law_refused ?l_law_refused ?c_law_refused ?k_law_refused ?a_law_same_rule ?l_law_same_rule ?c_law_same_rule ?k_law_same_rule ?a_law_fields ?l_law_fields ?c_law_fields ?k_law_fields ?a_law_built ?l_law_built ?c_law_built ?k_law_built ?a_law_plain ?l_law_plain ?c_law_plain ?k_law_plain ?a_law ?l_law ?c_law ?k_law ?pg_Row ?hd_Row ?po_Row ?sa_Row ?mk_Row ?kc_Row ?n_Row_grip ?n_Row_lease ?n_Row_mode ?n_Row_rule ?n_Row_sharing ?ex_BridgeError ?ty_BridgeError ?yd_BridgeError ?og_BridgeError ?or_BridgeError ?of_BridgeError ?ex_ImpossibleLife ?ty_ImpossibleLife ?yd_ImpossibleLife ?ex_InvalidMap ?ty_InvalidMap ?yd_InvalidMap ?ex_InvalidRow ?ty_InvalidRow ?yd_InvalidRow ?xL_InvalidRow ?sx_InvalidRow ?kx_InvalidRow ?tf_InvalidRow ?ya_InvalidRow ?yg_InvalidRow ?yk_InvalidRow ?yo_InvalidRow ?nx_InvalidRow_what ?sb_InvalidRow_BridgeError ?sb_InvalidRow_InvalidRow ?kt_InvalidRow_InvalidRow ?kt_InvalidRow_InvalidMap ?kt_InvalidRow_ImpossibleLife ?kt_InvalidRow_ValueError ?is_get ?is_tk ?z_ValueError ?z_abs ?z_bool ?z_int ?z_isinstance ?z_len ?z_list ?z_max ?z_range ?z_str ?z_tuple ?g_EVENTS ?g_GRIPS ?lk_GRIPS ?vv_GRIPS ?g_LEASES ?lk_LEASES ?vv_LEASES ?g_MODES ?lk_MODES ?vv_MODES ?g_MOST_CHANGE ?g_MOST_MARKS ?g_SHARINGS ?lk_SHARINGS ?vv_SHARINGS ?g_STILL ?lk_STILL ?vv_STILL ?lk_STILL_0 ?vv_STILL_0 ?lk_STILL_1 ?vv_STILL_1 ?lk_STILL_2 ?vv_STILL_2 ?lk_STILL_3 ?vv_STILL_3 ?lk_STILL_4 ?vv_STILL_4 ?lk_STILL_5 ?vv_STILL_5
    (case A_BridgeError => k_is)
    (case A_ImpossibleLife => k_is)
    (case A_InvalidMap => k_is)
    (case A_InvalidRow => k_is)
    (case A_Row => k_is)
    (case a_law_take => k_is)
    (case l_law_take => k_is)
    (case c_law_take => k_is)
    (case k_law_take => k_is)
    (case a_law_deck => k_is)
    (case l_law_deck => k_is)
    (case c_law_deck => k_is)
    (case k_law_deck => k_is)
    (case a_is_mark => k_is)
    (case l_is_mark => k_is)
    (case c_is_mark => k_is)
    (case k_is_mark => k_is)
    (case a_is_rule => k_is)
    (case l_is_rule => k_is)
    (case c_is_rule => k_is)
    (case k_is_rule => k_is)
    (case a_InvalidRow_init_ => k_is)
    (case i_InvalidRow_init_ => k_is)
    (case l_InvalidRow_init_ => k_is)
    (case c_InvalidRow_init_ => k_is)
    (case k_InvalidRow_init_ => k_is)
    (case a_Row_init_ => k_is)
    (case i_Row_init_ => k_is)
    (case l_Row_init_ => k_is)
    (case c_Row_init_ => k_is)
    (case k_Row_init_ => k_is)
    (case a_plain_row => k_is)
    (case l_plain_row => k_is)
    (case c_plain_row => k_is)
    (case k_plain_row => k_is)
    (case a_law_whole => k_is)
    (case l_law_whole => k_is)
    (case c_law_whole => k_is)
    (case k_law_whole => k_is)
    (case a_law_word => k_is)
    (case l_law_word => k_is)
    (case c_law_word => k_is)
    (case k_law_word => k_is)
    (case a_law_rule => k_is)
    (case l_law_rule => k_is)
    (case c_law_rule => k_is)
    (case k_law_rule => k_is)
    (case a_law_spoilt_rule => k_is)
    (case l_law_spoilt_rule => k_is)
    (case c_law_spoilt_rule => k_is)
    (case k_law_spoilt_rule => k_is)
    (case a_law_parts => k_is)
    (case l_law_parts => k_is)
    (case c_law_parts => k_is)
    (case k_law_parts => k_is)
    (case a_law_rule_in_order => k_is)
    (case l_law_rule_in_order => k_is)
    (case c_law_rule_in_order => k_is)
    (case k_law_rule_in_order => k_is)
    (case a_law_first_wrong => k_is)
    (case l_law_first_wrong => k_is)
    (case c_law_first_wrong => k_is)
    (case k_law_first_wrong => k_is)
    (case a_law_refused => k_is)
    (case l_law_refused => k_is)
    (case c_law_refused => k_is)
    (case k_law_refused => k_is)
    (case a_law_same_rule => k_is)
    (case l_law_same_rule => k_is)
    (case c_law_same_rule => k_is)
    (case k_law_same_rule => k_is)
    (case a_law_fields => k_is)
    (case l_law_fields => k_is)
    (case c_law_fields => k_is)
    (case k_law_fields => k_is)
    (case a_law_built => k_is)
    (case l_law_built => k_is)
    (case c_law_built => k_is)
    (case k_law_built => k_is)
    (case a_law_plain => k_is)
    (case l_law_plain => k_is)
    (case c_law_plain => k_is)
    (case k_law_plain => k_is)
    (case a_law => k_is)
    (case l_law => k_is)
    (case c_law => k_is)
    (case k_law => k_is)
    (case pg_Row => k_is)
    (case hd_Row => k_is)
    (case po_Row => k_is)
    (case sa_Row => k_is)
    (case mk_Row => k_is)
    (case kc_Row => k_is)
    (case n_Row_grip => k_is)
    (case n_Row_lease => k_is)
    (case n_Row_mode => k_is)
    (case n_Row_rule => k_is)
    (case n_Row_sharing => k_is)
    (case ex_BridgeError => k_is)
    (case ty_BridgeError => k_is)
    (case yd_BridgeError => k_is)
    (case og_BridgeError => k_is)
    (case or_BridgeError => k_is)
    (case of_BridgeError => k_is)
    (case ex_ImpossibleLife => k_is)
    (case ty_ImpossibleLife => k_is)
    (case yd_ImpossibleLife => k_is)
    (case ex_InvalidMap => k_is)
    (case ty_InvalidMap => k_is)
    (case yd_InvalidMap => k_is)
    (case ex_InvalidRow => k_is)
    (case ty_InvalidRow => k_is)
    (case yd_InvalidRow => k_is)
    (case xL_InvalidRow => k_is)
    (case sx_InvalidRow => k_is)
    (case kx_InvalidRow => k_is)
    (case tf_InvalidRow => k_is)
    (case ya_InvalidRow => k_is)
    (case yg_InvalidRow => k_is)
    (case yk_InvalidRow => k_is)
    (case yo_InvalidRow => k_is)
    (case nx_InvalidRow_what => k_is)
    (case sb_InvalidRow_BridgeError => first | rfl | k_is)
    (case sb_InvalidRow_InvalidRow => first | rfl | k_is)
    (case kt_InvalidRow_InvalidRow => kit_is)
    (case kt_InvalidRow_InvalidMap => kit_is)
    (case kt_InvalidRow_ImpossibleLife => kit_is)
    (case kt_InvalidRow_ValueError => kit_is)
    (case is_get => k_is)
    (case is_tk => k_is)
    (case z_ValueError => k_is)
    (case z_abs => k_is)
    (case z_bool => k_is)
    (case z_int => k_is)
    (case z_isinstance => k_is)
    (case z_len => k_is)
    (case z_list => k_is)
    (case z_max => k_is)
    (case z_range => k_is)
    (case z_str => k_is)
    (case z_tuple => k_is)
    (case g_EVENTS => k_is)
    (case g_GRIPS => k_is)
    (case lk_GRIPS => k_is)
    (case vv_GRIPS => repeat (first | exact .nil | refine .cons ⟨_, rfl⟩ ?_ | refine .cons rfl ?_))
    (case g_LEASES => k_is)
    (case lk_LEASES => k_is)
    (case vv_LEASES => repeat (first | exact .nil | refine .cons ⟨_, rfl⟩ ?_ | refine .cons rfl ?_))
    (case g_MODES => k_is)
    (case lk_MODES => k_is)
    (case vv_MODES => repeat (first | exact .nil | refine .cons ⟨_, rfl⟩ ?_ | refine .cons rfl ?_))
    (case g_MOST_CHANGE => k_is)
    (case g_MOST_MARKS => k_is)
    (case g_SHARINGS => k_is)
    (case lk_SHARINGS => k_is)
    (case vv_SHARINGS => repeat (first | exact .nil | refine .cons ⟨_, rfl⟩ ?_ | refine .cons rfl ?_))
    (case g_STILL => k_is)
    (case lk_STILL => k_is)
    (case vv_STILL => repeat (first | exact .nil | refine .cons ⟨_, rfl⟩ ?_ | refine .cons rfl ?_))
    (case lk_STILL_0 => k_is)
    (case vv_STILL_0 => repeat (first | exact .nil | refine .cons ⟨_, rfl⟩ ?_ | refine .cons rfl ?_))
    (case lk_STILL_1 => k_is)
    (case vv_STILL_1 => repeat (first | exact .nil | refine .cons ⟨_, rfl⟩ ?_ | refine .cons rfl ?_))
    (case lk_STILL_2 => k_is)
    (case vv_STILL_2 => repeat (first | exact .nil | refine .cons ⟨_, rfl⟩ ?_ | refine .cons rfl ?_))
    (case lk_STILL_3 => k_is)
    (case vv_STILL_3 => repeat (first | exact .nil | refine .cons ⟨_, rfl⟩ ?_ | refine .cons rfl ?_))
    (case lk_STILL_4 => k_is)
    (case vv_STILL_4 => repeat (first | exact .nil | refine .cons ⟨_, rfl⟩ ?_ | refine .cons rfl ?_))
    (case lk_STILL_5 => k_is)
    (case vv_STILL_5 => repeat (first | exact .nil | refine .cons ⟨_, rfl⟩ ?_ | refine .cons rfl ?_))
#print axioms PySem.Challenge.cw_surebridge_k16_rows_in_order_holds

