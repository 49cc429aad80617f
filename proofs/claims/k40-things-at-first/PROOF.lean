import PyProof.Rows.All
import Wide.All
import OpenK.AllK
import Wide.FinOn
import HandS.ForMost
import HandS.Wide
import HandS.Evl
import HandS.IsInst
import HandS.Steps
import HandS.Flow
import HandS.Conv
import HandS.Codes
import HandS.More
import HandS.Replace

import HandS.Style
import HandS.WordsDict
import PySem.Challenge.RW_surebridge_k40_things_at_first
set_option Elab.async false
set_option linter.all false
set_option maxRecDepth 100000
set_option maxHeartbeats 4000000
/-! a list of ints whose content is not told: the law's deck -/
namespace Dk
open PySem PySem.Spec PyProof.Rows L2

def Ints (l : Addr) (h : Heap) : Prop := ∃ ns : List Int, ns.length ≤ 100000 ∧ ∃ (its : List Value) (n : Nat), Vals (ns.map V.int) its ∧ h.get? l = some { cls := .type "list", data := .seq its.toArray n }
def DkO (l : Addr) : HO := .ext (Ints l)
theorem sz5 {n : Nat} (h : n ≤ 100000) : n ≤ sizeLine := Nat.le_trans h (by decide)
section
variable {P : Program} {w : World} {H H' : Hp} {h h' : Heap} {l : Addr} {o o' : HO} {fs ex : List Addr}
/-- another word for what stands at x -/
theorem retag (ok : HOk P w H h) (hx : H l = some o) (n1 : ∀ y, o ≠ .own y) (n2 : ∀ xs, o ≠ .tup xs) (new : ObjOk P w (upd H l o') h l o') : HOk P w (upd H l o') h := fun b u e => by
  by_cases hb : b = l
  · subst hb; rw [upd_same] at e; cases e; exact new
  · rw [upd_ne hb] at e
    refine (ok b u e).stay (fun c v _ q => q) (fun c q => ?_) fun c xs q => ?_
    · rw [upd_ne (fun z => by subst z; rw [hx] at q; exact n1 _ (Option.some.inj q))]; exact q
    · rw [upd_ne (fun z => by subst z; rw [hx] at q; exact n2 _ (Option.some.inj q))]; exact q
theorem upd_id (hx : H l = some o) : upd H l o = H := by
  funext b
  by_cases hb : b = l
  · rw [hb, upd_same, hx]
  · rw [upd_ne hb]
theorem dk_open (ok : HOk P w H h) (hx : H l = some (DkO l)) : ∃ ns : List Int, ns.length ≤ 100000 ∧ HOk P w (upd H l (.lst (ns.map V.int))) h := by
  have x : ObjOk P w H h l (.ext (Ints l)) := ok l _ hx
  obtain ⟨⟨ns, hn, its, n, r, e⟩, _, _⟩ := x
  refine ⟨ns, hn, retag ok hx (fun y z => by cases z) (fun y z => by cases z) ?_⟩
  exact ⟨by rw [List.length_map]; exact sz5 hn, its, n, r, e⟩
theorem dk_close {ns : List Int} (ok : HOk P w H h) (hx : H l = some (.lst (ns.map V.int))) (hn : ns.length ≤ 100000) : HOk P w (upd H l (DkO l)) h := by
  have x : ObjOk P w H h l (.lst (ns.map V.int)) := ok l _ hx
  obtain ⟨_, its, n, r, e⟩ := x
  refine retag ok hx (fun y z => by cases z) (fun y z => by cases z) ?_
  exact ⟨⟨ns, hn, its, n, r, e⟩, ⟨_, e⟩, fun h1 h2 z k => by
    obtain ⟨ms, hm, its', n', r', e'⟩ := z
    exact ⟨ms, hm, its', n', r', k _ e'⟩⟩
/-- untouched: another word at l on either side -/
theorem un_left {o1 : HO} (u : Un fs ex (upd H l o1) H' h h') (hx : H l = some o) (n2 : ∀ xs, o ≠ .tup xs) (n3 : ∀ o' v, o ≠ .frz o' v) (n4 : ∀ ps, o ≠ .tbl ps) : Un fs ex H H' h h' where
  keep := fun b q e n hb he => u.keep b q e (by rw [upd_ne (fun z => by subst z; rw [hx] at n; cases n)]; exact n) hb he
  slot := fun b q e n hb he => u.slot b q e (by rw [upd_ne (fun z => by subst z; rw [hx] at n; cases n)]; exact n) hb he
  free := fun b q e n he => u.free b q e (by rw [upd_ne (fun z => by subst z; rw [hx] at n; cases n)]; exact n) he
  there := u.there
  tups := fun b xs q => u.tups b xs (by rw [upd_ne (fun z => by subst z; rw [hx] at q; exact n2 _ (Option.some.inj q))]; exact q)
  frzs := fun b o v q => u.frzs b o v (by rw [upd_ne (fun z => by subst z; rw [hx] at q; exact n3 _ _ (Option.some.inj q))]; exact q)
  tbls := fun b ps q => u.tbls b ps (by rw [upd_ne (fun z => by subst z; rw [hx] at q; exact n4 _ (Option.some.inj q))]; exact q)
theorem un_right {o1 : HO} (u : Un fs ex H H' h h') (hx : H' l = some o) (n2 : ∀ xs, o ≠ .tup xs) (n3 : ∀ o' v, o ≠ .frz o' v) (n4 : ∀ ps, o ≠ .tbl ps) : Un fs ex H (upd H' l o1) h h' where
  keep := u.keep
  slot := u.slot
  free := fun b q e n he => by
    have z := u.free b q e n he
    rw [upd_ne (fun y => by subst y; rw [hx] at z; cases z)]; exact z
  there := u.there
  tups := fun b xs q => by
    have z := u.tups b xs q
    rw [upd_ne (fun y => by subst y; rw [hx] at z; exact n2 _ (Option.some.inj z))]; exact z
  frzs := fun b o v q => by
    have z := u.frzs b o v q
    rw [upd_ne (fun y => by subst y; rw [hx] at z; exact n3 _ _ (Option.some.inj z))]; exact z
  tbls := fun b ps q => by
    obtain ⟨m, z⟩ := u.tbls b ps q
    exact ⟨m, by rw [upd_ne (fun y => by subst y; rw [hx] at z; exact n4 _ (Option.some.inj z))]; exact z⟩
end
/-- take(deck, many), told of the list | of a deck -/
def spTakeC : Sp := fun vs H Q _ => ∃ (l : Addr) (ns : List Int) (m : Int), vs = [.ref l, .int m] ∧ H l = some (.lst (ns.map V.int)) ∧ ns.length ≤ 100000 ∧ 0 < m ∧
  ∀ (k : Int) (ns' : List Int), 0 ≤ k → k < m → ns'.length ≤ 100000 → Q (.int k) (upd H l (.lst (ns'.map V.int)))
def spTake : Sp := fun vs H Q _ => ∃ (l : Addr) (m : Int), vs = [.ref l, .int m] ∧ H l = some (DkO l) ∧ 0 < m ∧ ∀ k : Int, 0 ≤ k → k < m → Q (.int k) H
/-- deck(script, cells, each), told of the list | of a deck -/
def spDeckC (K : PySem.W.Frag) : Sp := fun vs H Q _ => ∃ (a : Addr) (ns : List Int) (c e : Int), vs = [.ref a, .int c, .int e] ∧ SqL K H a (ns.map V.int) ∧ ns.length ≤ 63 ∧ 0 ≤ c ∧ 0 ≤ e ∧ c ≤ 64 ∧ e ≤ 64 ∧
  ∀ (l : Addr) (ms : List Int) (H' : Hp), H l = none → H' = upd H l (.lst (ms.map V.int)) → ms.length ≤ 100000 → Q (.ref l) H'
def spDeck (K : PySem.W.Frag) : Sp := fun vs H Q _ => ∃ (a : Addr) (ns : List Int) (c e : Int), vs = [.ref a, .int c, .int e] ∧ SqL K H a (ns.map V.int) ∧ ns.length ≤ 63 ∧ 0 ≤ c ∧ 0 ≤ e ∧ c ≤ 64 ∧ e ≤ 64 ∧
  ∀ (l : Addr), H l = none → Q (.ref l) (upd H l (DkO l))
section
variable {P : Program} {w : World} {K : PySem.W.Frag} {mg : Str → Option Value} {base : Heap} {k : Nat} {f : Addr} {fd : FuncData} {ps : List Str}
theorem dk_tup {l : Addr} (xs : List V) : DkO l ≠ .tup xs := fun z => by
  have z' : HO.ext _ = HO.tup xs := z
  cases z'
theorem dk_frz {l : Addr} (o : Obj) (v : HO) : DkO l ≠ .frz o v := fun z => by
  have z' : HO.ext _ = HO.frz o v := z
  cases z'
theorem dk_tbl {l : Addr} (xs : Array Value) : DkO l ≠ .tbl xs := fun z => by
  have z' : HO.ext _ = HO.tbl xs := z
  cases z'
theorem ok_take (F : FnOk P w K mg base CX0 k f fd ps spTakeC) : FnOk P w K mg base CX0 k f fd ps spTake where
  len := fun vs H Q E h => by
    obtain ⟨l, m, e, h1, h2, h3⟩ := h
    exact F.len vs (upd H l (.lst (([] : List Int).map V.int))) (fun _ _ => True) E ⟨l, [], m, e, upd_same, by decide, h2, fun _ _ _ _ _ => trivial⟩
  run := fun A outer s H args us vs Q E hr he hb hv h => by
    obtain ⟨l, m, e, h1, h2, h3⟩ := h
    obtain ⟨ns, hn, ok⟩ := dk_open he.hok h1
    have nb : ∀ b, H b = none → b ≠ l := fun b n z => by rw [z, h1] at n; cases n
    have he1 : Env0 P w K mg base A outer s (upd H l (.lst (ns.map V.int))) := ⟨he.frames, he.mod, fun b o q => ⟨(he.bs b o q).1, by rw [upd_ne (nb b (he.bs b o q).2)]; exact (he.bs b o q).2⟩, he.bsz, he.funs, fun b q => by rw [upd_ne (nb b (he.frf b q))]; exact he.frf b q, ok, he.bare⟩
    refine codeAny_mono (F.run A outer s _ args us vs (fun v H1 => ∃ ns' : List Int, ns'.length ≤ 100000 ∧ H1 = upd H l (.lst (ns'.map V.int)) ∧ Q v H) E hr he1 hb hv ⟨l, ns, m, e, upd_same, hn, h2, fun k ns' k0 k1 hl => ⟨ns', hl, by rw [upd_upd], h3 k k0 k1⟩⟩) fun r s' q => ?_
    cases r with
    | error e => exact q
    | ok fl =>
      cases fl with
      | ret u =>
        obtain ⟨v, H1, os, bare, un, hok, rv, ns', hl, e1, q⟩ := q
        subst e1
        have g : upd (upd H l (.lst (ns'.map V.int))) l (DkO l) = H := by rw [upd_upd]; exact upd_id h1
        have hok' := dk_close hok upd_same hl
        have un1 := un_left un h1 dk_tup dk_frz dk_tbl
        have un2 := un_right (o1 := DkO l) un1 upd_same (fun _ z => by cases z) (fun _ _ z => by cases z) (fun _ z => by cases z)
        rw [g] at hok' un2
        exact ⟨v, H, os, bare, un2, hok', rv, q⟩
      | next => exact q
      | brk => exact q
      | cont => exact q
theorem ok_deck (F : FnOk P w K mg base CX0 k f fd ps (spDeckC K)) : FnOk P w K mg base CX0 k f fd ps (spDeck K) where
  len := fun vs H Q E h => by
    obtain ⟨a, ns, c, e, h1, h2, h3, h4, h5, h6, h7, h8⟩ := h
    exact F.len vs H (fun _ _ => True) E ⟨a, ns, c, e, h1, h2, h3, h4, h5, h6, h7, fun _ _ _ _ _ _ => trivial⟩
  run := fun A outer s H args us vs Q E hr he hb hv h => by
    obtain ⟨a, ns, c, e, h1, h2, h3, h4, h5, h6, h7, h8⟩ := h
    refine codeAny_mono (F.run A outer s _ args us vs (fun v H1 => ∃ (l : Addr) (ms : List Int), ms.length ≤ 100000 ∧ H l = none ∧ H1 = upd H l (.lst (ms.map V.int)) ∧ v = .ref l) E hr he hb hv ⟨a, ns, c, e, h1, h2, h3, h4, h5, h6, h7, fun l ms H' n e q => ⟨l, ms, q, n, e, rfl⟩⟩) fun r s' q => ?_
    cases r with
    | error e => exact q
    | ok fl =>
      cases fl with
      | ret u =>
        obtain ⟨v, H1, os, bare, un, hok, rv, l, ms, hl, n, e1, ev⟩ := q
        subst e1
        subst ev
        have hok' := dk_close hok upd_same hl
        have un2 := un_right (o1 := DkO l) un upd_same (fun _ z => by cases z) (fun _ _ z => by cases z) (fun _ z => by cases z)
        rw [upd_upd] at hok' un2
        exact ⟨.ref l, _, os, bare, un2, hok', rv, h8 l n⟩
      | next => exact q
      | brk => exact q
      | cont => exact q
end
end Dk

/-! readings, one rule a construct, for a walk by `first` -/
namespace Rd
open PySem PySem.Spec PyProof.Rows L2 Evl Dk
section
variable {σ σ' : L2.St} {H H' H1 : Hp} {Q : VK} {v x y z : V} {ta tb te tc : TE} {K : PySem.W.Frag} {i j : Int} {D : Ends} {t u : TS} {ct cu : TT} {QB : Bool → Hp → Prop} {QA : List V → Hp → Prop} {al bl : TA} {xs ys : List V} {a l C dx : Addr} {fs : List (Str × V)} {A B : Prop} {r : R2}
theorem var {n : Nat} (h : σ[n]? = some (some v)) (q : Q v H) : tVar n σ H Q := ⟨v, h, q⟩
theorem c (q : Q v H) : tC v σ H Q := q
theorem op (h : ta σ H fun x H1 => tb σ H1 fun y H2 => r x y H2 Q) : tOp r ta tb σ H Q := h
theorem un {r : V → Hp → VK → Prop} (h : ta σ H fun x H1 => r x H1 Q) : tUn r ta σ H Q := h
theorem i0 {g : Int → Int → V} (q : Q (g i j) H) : rI0 g (.int i) (.int j) H Q := ⟨i, j, rfl, rfl, q⟩
theorem i1 {C : Int → Int → Prop} {g : Int → Int → V} (c : C i j) (q : Q (g i j) H) : rI C g (.int i) (.int j) H Q := ⟨i, j, rfl, rfl, c, q⟩
theorem u0 {g : Int → V} (q : Q (g i) H) : rU g (.int i) H Q := ⟨i, rfl, q⟩
theorem dI : decide (V.int i = V.int j) = decide (i = j) := decide_eq_decide.mpr ⟨V.int.inj, congrArg V.int⟩
theorem dS {s t : Str} : decide (V.str s = V.str t) = decide (s = t) := decide_eq_decide.mpr ⟨V.str.inj, congrArg V.str⟩
theorem dB {s t : Bool} : decide (V.bl s = V.bl t) = decide (s = t) := decide_eq_decide.mpr ⟨V.bl.inj, congrArg V.bl⟩
theorem eqI (q : Q (.bl (decide (i = j))) H) : rEq (.int i) (.int j) H Q := ⟨rfl, by rw [dI]; exact q⟩
theorem neI (q : Q (.bl (!decide (i = j))) H) : rNe (.int i) (.int j) H Q := ⟨rfl, by rw [dI]; exact q⟩
theorem eqS {s t : Str} (q : Q (.bl (decide (s = t))) H) : rEq (.str s) (.str t) H Q := ⟨rfl, by rw [dS]; exact q⟩
theorem neS {s t : Str} (q : Q (.bl (!decide (s = t))) H) : rNe (.str s) (.str t) H Q := ⟨rfl, by rw [dS]; exact q⟩
theorem eqX (h : scal x y = true) (q : Q (.bl (decide (x = y))) H) : rEq x y H Q := ⟨h, q⟩
theorem neX (h : scal x y = true) (q : Q (.bl (!decide (x = y))) H) : rNe x y H Q := ⟨h, q⟩
theorem isN (q : Q (.bl (decide (x = .non))) H) : rIsN x .non H Q := ⟨rfl, q⟩
theorem notN (q : Q (.bl (!decide (x = .non))) H) : rNotN x .non H Q := ⟨rfl, q⟩
theorem isN_non (q : Q (.bl true) H) : rIsN .non .non H Q := ⟨rfl, q⟩
theorem notN_non (q : Q (.bl false) H) : rNotN .non .non H Q := ⟨rfl, q⟩
theorem isN_int (q : Q (.bl false) H) : rIsN (.int i) .non H Q := ⟨rfl, q⟩
theorem notN_int (q : Q (.bl true) H) : rNotN (.int i) .non H Q := ⟨rfl, q⟩
theorem isN_ref (q : Q (.bl false) H) : rIsN (.ref a) .non H Q := ⟨rfl, q⟩
theorem notN_ref (q : Q (.bl true) H) : rNotN (.ref a) .non H Q := ⟨rfl, q⟩
theorem isN_str {s : Str} (q : Q (.bl false) H) : rIsN (.str s) .non H Q := ⟨rfl, q⟩
theorem notN_str {s : Str} (q : Q (.bl true) H) : rNotN (.str s) .non H Q := ⟨rfl, q⟩
/-- a value that must be a truth value -/
def xT (x : V) (H : Hp) (Q : Bool → Hp → Prop) : Prop := ∃ k, x = .bl k ∧ Q k H
theorem xt {b : Bool} (q : QB b H) : xT (.bl b) H QB := ⟨b, rfl, q⟩
theorem test (h : te σ H fun x H' => xT x H' QB) : tTest te σ H QB := h
theorem tbv (h : te σ H fun x H' => xT x H' QB) : tB te σ H QB := h
theorem andT (h : ct σ H fun c H1 => if c = true then cu σ H1 QB else QB false H1) : tAnd ct cu σ H QB := h
theorem orT (h : ct σ H fun c H1 => if c = true then QB true H1 else cu σ H1 QB) : tOr ct cu σ H QB := h
theorem notT (h : ct σ H fun c H1 => QB (!c) H1) : tNot ct σ H QB := h
theorem andV (h : ta σ H fun x H1 => xT x H1 fun c H1 => if c = true then te σ H1 Q else Q (.bl false) H1) : tAndV ta te σ H Q := h
theorem orV (h : ta σ H fun x H1 => xT x H1 fun c H1 => if c = true then Q (.bl true) H1 else te σ H1 Q) : tOrV ta te σ H Q := h
theorem notV (h : ta σ H fun x H1 => xT x H1 fun c H1 => Q (.bl (!c)) H1) : tNotV ta σ H Q := h
theorem ifE (h : ct σ H fun c H1 => if c = true then ta σ H1 Q else tb σ H1 Q) : tIf ct ta tb σ H Q := h
theorem chain {r r' : R2} (h : ta σ H fun x H1 => tb σ H1 fun y H2 => r x y H2 fun z H3 => xT z H3 fun k H3 => if k = true then tc σ H3 fun w H4 => r' y w H4 Q else Q (.bl false) H3) : tChain r r' ta tb tc σ H Q := h
theorem ifT {p : Prop} [Decidable p] (hp : p) (h : A) : if decide p = true then A else B := by rw [if_pos (decide_eq_true hp)]; exact h
theorem ifF {p : Prop} [Decidable p] (hp : ¬ p) (h : B) : if decide p = true then A else B := by rw [decide_eq_false hp, if_neg Bool.false_ne_true]; exact h
theorem ifd {p : Prop} [Decidable p] (h1 : p → A) (h2 : ¬ p → B) : if decide p = true then A else B := by
  by_cases hp : p
  · exact ifT hp (h1 hp)
  · exact ifF hp (h2 hp)
theorem ifNT {p : Prop} [Decidable p] (hp : ¬ p) (h : A) : if (!decide p) = true then A else B := by rw [decide_eq_false hp]; exact iteT h
theorem ifNF {p : Prop} [Decidable p] (hp : p) (h : B) : if (!decide p) = true then A else B := by rw [decide_eq_true hp]; exact iteF h
theorem ifNd {p : Prop} [Decidable p] (h1 : ¬ p → A) (h2 : p → B) : if (!decide p) = true then A else B := by
  by_cases hp : p
  · exact ifNF hp (h2 hp)
  · exact ifNT hp (h1 hp)
theorem ifTT (h : A) : if true = true then A else B := iteT h
theorem ifFF (h : B) : if false = true then A else B := iteF h
theorem ifNTT (h : A) : if (!false) = true then A else B := iteT h
theorem ifNFF (h : B) : if (!true) = true then A else B := iteF h
theorem ifNN {b : Bool} (h : if b = true then A else B) : if (!!b) = true then A else B := by rw [Bool.not_not]; exact h
theorem ifb {b : Bool} (h1 : b = true → A) (h2 : b = false → B) : if b = true then A else B := by
  cases b with
  | true => exact iteT (h1 rfl)
  | false => exact iteF (h2 rfl)
theorem ifbT {b : Bool} (hb : b = true) (h : A) : if b = true then A else B := by rw [hb]; exact iteT h
theorem ifbF {b : Bool} (hb : b = false) (h : B) : if b = true then A else B := by rw [hb]; exact iteF h
theorem ifNbT {b : Bool} (hb : b = false) (h : A) : if (!b) = true then A else B := by rw [hb]; exact iteT h
theorem ifNbF {b : Bool} (hb : b = true) (h : B) : if (!b) = true then A else B := by rw [hb]; exact iteF h
-- statements
theorem seq (h : t { D with nx := u D } σ H) : tSeq t u D σ H := h
theorem ifS (h : ct σ H fun b H1 => if b = true then t D σ H1 else u D σ H1) : tIfS ct t u D σ H := h
theorem asg {g : TG} (h : te σ H fun x H1 => g x σ H1 D.nx) : tAsg te g D σ H := h
theorem gnm {n : Nat} {Q : L2.St → Hp → Prop} (h : Q (σ.set n (some v)) H) : gName n v σ H Q := h
theorem ret (h : te σ H D.rt) : tRet te D σ H := h
theorem retN (h : D.rt .non H) : tRetN D σ H := h
theorem drop (h : te σ H fun _ H1 => D.nx σ H1) : tDrop te D σ H := h
theorem nxt (h : D.nx σ H) : tNext D σ H := h
theorem brk (h : D.bk σ H) : tBreak D σ H := h
theorem cnt (h : D.ct σ H) : tCont D σ H := h
theorem aug {n : Nat} {ti : TIp} (hx : σ[n]? = some (some x)) (h : te σ H fun y H1 => ti x y H1 fun z H2 => D.nx (σ.set n (some z)) H2) : tAug n te ti D σ H := ⟨x, hx, h⟩
theorem ipi {f : Int → Int → Int} (q : Q (.int (f i j)) H) : ipI f (.int i) (.int j) H Q := ⟨i, j, rfl, rfl, q⟩
theorem par {n m : Nat} (h : al σ H fun vs H1 => ∃ v w, vs = [v, w] ∧ D.nx ((σ.set n (some v)).set m (some w)) H1) : tPar n m al D σ H := h
theorem par2 {N : V → V → Prop} {w : V} (h : N v w) : ∃ v' w', [v, w] = [v', w'] ∧ N v' w' := ⟨v, w, rfl, h⟩
/-- targets: a tuple to names -/
theorem gtup {n : Nat} {g : TGs} {Q : L2.St → Hp → Prop} (h : SqT K H a xs) (hn : xs.length = n) (q : g xs σ H Q) : gTup K n g (.ref a) σ H Q := ⟨a, xs, rfl, h, hn, q⟩
theorem gcons {g : TG} {gs : TGs} {Q : L2.St → Hp → Prop} (q : g v σ H fun σ' H' => gs xs σ' H' Q) : gCons g gs (v :: xs) σ H Q := ⟨v, xs, rfl, q⟩
theorem gnil {Q : L2.St → Hp → Prop} (q : Q σ H) : gNil [] σ H Q := ⟨rfl, q⟩
theorem gsub {te2 : TE} {ts : TSet} {Q : L2.St → Hp → Prop} (h : te σ H fun o H1 => te2 σ H1 fun i H2 => ts o i v H2 fun H3 => Q σ H3) : gSub te te2 ts v σ H Q := h
theorem setL {R : Hp → Prop} {n : Nat} (h : H l = some (.lst xs)) (hi : ixN xs.length i = some n) (q : R (upd H l (.lst (xs.set n v)))) : rSetL (.ref l) (.int i) v H R := ⟨l, xs, i, n, rfl, rfl, h, hi, q⟩
-- arguments
theorem nil (q : QA [] H) : tNil σ H QA := q
theorem cons (h : ta σ H fun x H1 => al σ H1 fun xs H2 => QA (x :: xs) H2) : tCons ta al σ H QA := h
theorem cb {r : List V → Hp → VK → Prop} (h : al σ H fun vs H1 => r vs H1 Q) : tCB r al σ H Q := h
theorem call {sp : Sp} {dvs : List V} {E : XK} (h : al σ H fun vs H1 => sp (vs ++ dvs) H1 Q E) : tCall sp dvs E al σ H Q := h
-- displays
def xTup (xs : List V) (H : Hp) (Q : VK) : Prop := xs.length ≤ sizeLine ∧ ∀ p, H p = none → Q (.ref p) (upd H p (.tup xs))
def xLst (xs : List V) (H : Hp) (Q : VK) : Prop := xs.length ≤ sizeLine ∧ ∀ p, H p = none → Q (.ref p) (upd H p (.lst xs))
theorem tup (h : al σ H fun xs H1 => xTup xs H1 Q) : tTup al σ H Q := h
theorem lst (h : al σ H fun xs H1 => xLst xs H1 Q) : tLst al σ H Q := h
theorem sz_le {n : Nat} (h : Nat.ble n 100000 = true) : n ≤ sizeLine := Dk.sz5 (Nat.le_of_ble_eq_true h)
theorem xtup (n : Nat.ble xs.length 100000 = true) (q : ∀ p H', H p = none → Ex H H' → H' p = some (.tup xs) → Q (.ref p) H') : xTup xs H Q := ⟨sz_le n, fun p hp => q p _ hp (Ex.new hp) upd_same⟩
theorem xlst (n : Nat.ble xs.length 100000 = true) (q : ∀ p H', H p = none → Ex H H' → H' p = some (.lst xs) → Q (.ref p) H') : xLst xs H Q := ⟨sz_le n, fun p hp => q p _ hp (Ex.new hp) upd_same⟩
theorem xlstU (n : Nat.ble xs.length 100000 = true) (q : ∀ p, H p = none → Q (.ref p) (upd H p (.lst xs))) : xLst xs H Q := ⟨sz_le n, q⟩
-- subscripts
theorem ixL (h : SqL K H l xs) (ha : atI xs i = some v) (q : Q v H) : rIxL K (.ref l) (.int i) H Q := ⟨l, xs, i, v, rfl, rfl, h, ha, q⟩
theorem ixT (h : SqT K H l xs) (ha : atI xs i = some v) (q : Q v H) : rIxT K (.ref l) (.int i) H Q := ⟨l, xs, i, v, rfl, rfl, h, ha, q⟩
-- fields
def rFld (K : PySem.W.Frag) (f : Str) (x : V) (H : Hp) (Q : VK) : Prop := ∃ a C dx fs v, x = .ref a ∧ H a = some (.ins C dx fs) ∧ Cls K C ∧ NoAttr K C f ∧ fs.lookup f = some v ∧ Q v H
theorem fld {f : Str} (h : ta σ H fun x H1 => rFld K f x H1 Q) : tFld K ta f σ H Q := h
theorem rfld {f : Str} (h : H a = some (.ins C dx fs)) (c : Cls K C) (n : NoAttr K C f) (lk : fs.lookup f = some v) (q : Q v H) : rFld K f (.ref a) H Q := ⟨a, C, dx, fs, v, rfl, h, c, n, lk, q⟩
def rSt (K : PySem.W.Frag) (f : Str) (v x : V) (H : Hp) (N : Hp → Prop) : Prop := ∃ a C dx fs, x = .ref a ∧ H a = some (.ins C dx fs) ∧ Cls K C ∧ NoAttr K C f ∧ fs.length < 1000 ∧ N (upd H a (.ins C dx (putF f v fs)))
-- methods
def xMeth (C : Addr) (m : Str) (x : V) (H : Hp) (P : Prop) : Prop := ∃ a dx fs, x = .ref a ∧ H a = some (.ins C dx fs) ∧ fs.lookup m = none ∧ P
theorem meth {m : Str} {sp : Sp} {dvs : List V} {E : XK} (h : ta σ H fun x H1 => xMeth C m x H1 (al σ H1 fun vs H2 => sp (x :: (vs ++ dvs)) H2 Q E)) : tMeth C m sp dvs E ta al σ H Q :=
  h
def xTy (K : PySem.W.Frag) (T : String) (x : V) (H : Hp) (P : Prop) : Prop := tyV K T x H ∧ P
theorem bm {T : String} {r : V → List V → Hp → VK → Prop} (h : te σ H fun x H1 => xTy K T x H1 (al σ H1 fun xs H2 => r x xs H2 Q)) : tBM K T r te al σ H Q := h
theorem bm0 {T : String} {r : V → List V → Hp → VK → Prop} (h : te σ H fun x H1 => xTy K T x H1 (r x [] H1 Q)) : tBM0 K T r te σ H Q := h
theorem xtyL {P : Prop} (h : SqL K H l xs) (p : P) : xTy K "list" (.ref l) H P := ⟨.inl ⟨rfl, _, h⟩, p⟩
theorem append (h : H l = some (.lst xs)) (n : xs.length < 100000) (q : Q .non (upd H l (.lst (xs ++ [v])))) : rAppend (.ref l) [v] H Q := ⟨l, xs, v, rfl, rfl, h, sz_lt n, q⟩
theorem reverse (h : H l = some (.lst xs)) (q : Q .non (upd H l (.lst xs.reverse))) : rReverse (.ref l) [] H Q := ⟨l, xs, rfl, rfl, h, q⟩
theorem pop (h : H l = some (.lst xs)) (hl : xs[xs.length - 1]? = some y) (q : Q y (upd H l (.lst xs.dropLast))) : rPop (.ref l) [] H Q := ⟨l, xs, y, rfl, rfl, h, hl, q⟩
end
end Rd
namespace Rd
open PySem PySem.Spec PyProof.Rows L2
section
variable {X : Cx}
def rLen (K : PySem.W.Frag) : List V → Hp → VK → Prop := fun xs H Q => ∃ p ys, xs = [.ref p] ∧ (SqL K H p ys ∨ SqT K H p ys) ∧ Q (.int ys.length) H
theorem c_len : CallR X (.builtin "len") (rLen X.K) := call_len_seq
def rLenStr : List V → Hp → VK → Prop := fun xs H Q => ∃ z, xs = [.str z] ∧ z.length ≤ sizeLine ∧ Q (.int z.length) H
theorem c_lenS : CallR X (.builtin "len") rLenStr := call_len_str
def rAbs : List V → Hp → VK → Prop := fun xs H Q => ∃ i, xs = [.int i] ∧ Q (.int (if i < 0 then -i else i)) H
theorem c_abs : CallR X (.builtin "abs") rAbs := call_abs
def rInt1 : List V → Hp → VK → Prop := fun xs H Q => (∃ i, xs = [.int i] ∧ Q (.int i) H) ∨ ∃ k, xs = [.bl k] ∧ Q (.int (if k then 1 else 0)) H
theorem c_int : CallR X (.type "int") rInt1 := call_int1
def rListOf (K : PySem.W.Frag) : List V → Hp → VK → Prop := fun xs H Q => ∃ p ys, xs = [.ref p] ∧ (SqL K H p ys ∨ SqT K H p ys) ∧ ∀ l, H l = none → Q (.ref l) (upd H l (.lst ys))
theorem c_list : CallR X (.type "list") (rListOf X.K) := call_list_of
def rMax2 : List V → Hp → VK → Prop := fun xs H Q => ∃ i j, xs = [.int i, .int j] ∧ Q (.int (if j > i then j else i)) H
theorem c_max2 (hc : X.calm = true) : CallR X (.builtin "max") rMax2 := call_max2 hc
def rMin2 : List V → Hp → VK → Prop := fun xs H Q => ∃ i j, xs = [.int i, .int j] ∧ Q (.int (if j < i then j else i)) H
theorem c_min2 (hc : X.calm = true) : CallR X (.builtin "min") rMin2 := call_min2 hc
end
end Rd
namespace Rd
open PySem PySem.Spec PyProof.Rows L2 Evl Dk
section
variable {σ : L2.St} {H : Hp} {Q : VK} {x : V} {K : PySem.W.Frag} {i j : Int} {xs : List V} {l : Addr}
theorem len (h : SqL K H l xs) (q : Q (.int xs.length) H) : Rd.rLen K [.ref l] H Q := ⟨l, xs, rfl, .inl h, q⟩
theorem lenT (h : SqT K H l xs) (q : Q (.int xs.length) H) : Rd.rLen K [.ref l] H Q := ⟨l, xs, rfl, .inr h, q⟩
theorem lenS {s : Str} (h : s.length ≤ 100000) (q : Q (.int s.length) H) : Rd.rLenStr [.str s] H Q := ⟨s, rfl, sz_of h, q⟩
theorem abs (q : Q (.int (if i < 0 then -i else i)) H)   : Rd.rAbs [.int i] H Q := ⟨i, rfl, q⟩
theorem int (q : Q (.int i) H) : Rd.rInt1 [.int i] H Q := .inl ⟨i, rfl, q⟩
theorem intB {k : Bool} (q : Q (.int (if k then 1 else 0)) H) : Rd.rInt1 [.bl k] H Q := .inr ⟨k, rfl, q⟩
theorem listOf (h : SqL K H l xs) (q : ∀ p H', H p = none → Ex H H' → H' p = some (.lst xs) → Q (.ref p) H') : Rd.rListOf K [.ref l] H Q := ⟨l, xs, rfl, .inl h, fun p hp => q p _ hp (Ex.new hp) upd_same⟩
theorem listOfU (h : SqL K H l xs) (q : ∀ p, H p = none → Q (.ref p) (upd H p (.lst xs))) : Rd.rListOf K [.ref l] H Q := ⟨l, xs, rfl, .inl h, q⟩
theorem max2 (q : Q (.int (if j > i then j else i)) H) : Rd.rMax2 [.int i, .int j] H Q := ⟨i, j, rfl, q⟩
theorem min2 (q : Q (.int (if j < i then j else i)) H) : Rd.rMin2 [.int i, .int j] H Q := ⟨i, j, rfl, q⟩
theorem take {m : Int} {E : XK} (h : H l = some (DkO l)) (hm : 0 < m) (q : ∀ k : Int, 0 ≤ k → k < m → Q (.int k) H) : spTake ([.ref l, .int m] ++ []) H Q E := ⟨l, m, rfl, h, hm, q⟩
end
end Rd
/-! ### data of any depth: what it is made of, and that it stays -/
namespace Dt
open PySem PySem.Spec PyProof.Rows L2 Evl
section
variable {K : PySem.W.Frag} {H H' : Hp} {v : V} {xs vs : List V} {d : PyData} {ds : List PyData} {a : Addr}
mutual
theorem mono (e : Ex H H') : ∀ (d : PyData) (v : V), Dp K H v d → Dp K H' v d
  | .none, _, h => by cases h; exact .non
  | .bool b, _, h => by cases h; exact .bl b
  | .int i, _, h => by cases h; exact .int i
  | .str x, _, h => by cases h; exact .str x
  | .list ds, _, h => by
    cases h with
    | lst hs ha => exact .lst (ex_l e hs) (monoAll e ds _ ha)
  | .tuple ds, _, h => by
    cases h with
    | tup hs ha => exact .tup (ex_t e hs) (monoAll e ds _ ha)
  | .dict _, _, h => by cases h
theorem monoAll (e : Ex H H') : ∀ (ds : List PyData) (vs : List V), DpAll K H vs ds → DpAll K H' vs ds
  | [], _, h => by cases h; exact .nil
  | d :: ds, _, h => by
    cases h with
    | cons h1 h2 => exact .cons (mono e d _ h1) (monoAll e ds _ h2)
end
theorem mn (h : Dp K H v d) (e : Ex H H') : Dp K H' v d := mono e d v h
theorem mnA (h : DpAll K H vs ds) (e : Ex H H') : DpAll K H' vs ds := monoAll e ds vs h
theorem inv_l (h : Dp K H v (.list ds)) : ∃ a xs, v = .ref a ∧ SqL K H a xs ∧ DpAll K H xs ds := by
  cases h with
  | lst hs ha => exact ⟨_, _, rfl, hs, ha⟩
theorem inv_t (h : Dp K H v (.tuple ds)) : ∃ a xs, v = .ref a ∧ SqT K H a xs ∧ DpAll K H xs ds := by
  cases h with
  | tup hs ha => exact ⟨_, _, rfl, hs, ha⟩
theorem inv_i {i : Int} (h : Dp K H v (.int i)) : v = .int i := by cases h; rfl
theorem inv_s {s : Str} (h : Dp K H v (.str s)) : v = .str s := by cases h; rfl
theorem inv_b {b : Bool} (h : Dp K H v (.bool b)) : v = .bl b := by cases h; rfl
theorem inv_n (h : Dp K H v .none) : v = .non := by cases h; rfl
theorem lenA : ∀ {vs : List V} {ds : List PyData}, DpAll K H vs ds → vs.length = ds.length
  | _, [], h => by cases h; rfl
  | _, d :: ds, h => by
    cases h with
    | cons _ h2 => simp [lenA h2]
theorem getA : ∀ {vs : List V} {ds : List PyData} {i : Nat} {v : V} {d : PyData}, DpAll K H vs ds → vs[i]? = some v → ds[i]? = some d → Dp K H v d
  | _, [], _, _, _, h, _, e => by simp at e
  | _, d :: ds, 0, _, _, h, e1, e2 => by
    cases h with
    | cons h1 _ =>
      simp at e1 e2
      rw [← e1, ← e2]
      exact h1
  | _, d :: ds, i + 1, _, _, h, e1, e2 => by
    cases h with
    | cons _ h2 => exact getA (i := i) h2 (by simpa using e1) (by simpa using e2)
theorem getA1 {i : Nat} (h : DpAll K H vs ds) (e : vs[i]? = some v) : ∃ d, ds[i]? = some d ∧ Dp K H v d := by
  have hl := lenA h
  have hi : i < vs.length := (List.getElem?_eq_some_iff.mp e).1
  exact ⟨ds[i]'(by omega), List.getElem?_eq_getElem (by omega), getA h e (List.getElem?_eq_getElem (by omega))⟩
theorem getA2 {i : Nat} (h : DpAll K H vs ds) (e : ds[i]? = some d) : ∃ v, vs[i]? = some v ∧ Dp K H v d := by
  have hl := lenA h
  have hi : i < ds.length := (List.getElem?_eq_some_iff.mp e).1
  exact ⟨vs[i]'(by omega), List.getElem?_eq_getElem (by omega), getA h (List.getElem?_eq_getElem (by omega)) e⟩
theorem consA (h : Dp K H v d) (hs : DpAll K H vs ds) : DpAll K H (v :: vs) (d :: ds) := .cons h hs
theorem appA : ∀ {vs ws : List V} {ds es : List PyData}, DpAll K H vs ds → DpAll K H ws es → DpAll K H (vs ++ ws) (ds ++ es)
  | _, _, [], _, h, g => by cases h; exact g
  | _, _, d :: ds, _, h, g => by
    cases h with
    | cons h1 h2 => exact .cons h1 (appA h2 g)
theorem oneA (h : Dp K H v d) : DpAll K H [v] [d] := .cons h .nil
theorem snocA (hs : DpAll K H vs ds) (h : Dp K H v d) : DpAll K H (vs ++ [v]) (ds ++ [d]) := appA hs (oneA h)
theorem takeA : ∀ {vs : List V} {ds : List PyData} (n : Nat), DpAll K H vs ds → DpAll K H (vs.take n) (ds.take n)
  | _, _, 0, _ => .nil
  | _, [], n + 1, h => by cases h; exact .nil
  | _, d :: ds, n + 1, h => by
    cases h with
    | cons h1 h2 => exact .cons h1 (takeA n h2)
theorem intsA : ∀ (ns : List Int), DpAll K H (ns.map V.int) (ns.map PyData.int)
  | [] => .nil
  | n :: ns => .cons (.int n) (intsA ns)
theorem strsA : ∀ (ns : List Str), DpAll K H (ns.map V.str) (ns.map PyData.str)
  | [] => .nil
  | n :: ns => .cons (.str n) (strsA ns)
/-- list and tuple made -/
theorem ofL (h : H a = some (.lst vs)) (hs : DpAll K H vs ds) : Dp K H (.ref a) (.list ds) := .lst (SqL.of h) hs
theorem ofT (h : H a = some (.tup vs)) (hs : DpAll K H vs ds) : Dp K H (.ref a) (.tuple ds) := .tup (SqT.of h) hs
end
end Dt
namespace Rd
open PySem PySem.Spec PyProof.Rows L2 Evl Dk
section
variable {σ σ' : L2.St} {H H' : Hp} {Q : VK} {v x y z : V} {te : TE} {K : PySem.W.Frag} {i j lo n : Int} {D : Ends} {tb : TS} {al : TA} {xs ys : List V} {a l C dx : Addr} {d e : PyData} {g : TG}
theorem eqD (h1 : Dp K H x d) (h2 : Dp K H y e) (s1 : SeqAt.shaped d = true) (s2 : SeqAt.shaped e = true) (q : Q (.bl (PyData.eqv d e)) H) : rEqD K x y H Q := ⟨d, e, h1, h2, s1, s2, q⟩
theorem neD (h1 : Dp K H x d) (h2 : Dp K H y e) (s1 : SeqAt.shaped d = true) (s2 : SeqAt.shaped e = true) (q : Q (.bl (!PyData.eqv d e)) H) : rNeD K x y H Q := ⟨d, e, h1, h2, s1, s2, q⟩
theorem eqvRefl (s : SeqAt.shaped d = true) : PyData.eqv d d = true := SeqAt.eqv_refl d (SeqAt.canLay_of_shaped s)
theorem eqDr (h1 : Dp K H x d) (h2 : Dp K H y d) (s1 : SeqAt.shaped d = true) (q : Q (.bl true) H) : rEqD K x y H Q := ⟨d, d, h1, h2, s1, s1, by rw [eqvRefl s1]; exact q⟩
theorem neDr (h1 : Dp K H x d) (h2 : Dp K H y d) (s1 : SeqAt.shaped d = true) (q : Q (.bl false) H) : rNeD K x y H Q := ⟨d, d, h1, h2, s1, s1, by rw [eqvRefl s1]; exact q⟩
/-! isinstance -/
theorem isiTy {t T : String} {b : Bool} (h : TyOf K H x (.type t)) (k : kitB t T = some b) (q : Q (.bl b) H) : rIsi K [x, .ty T] H Q := ⟨x, .ty T, .type t, .type T, b, rfl, .ty T, .base h, kit_ty k, q⟩
theorem isiInt {T : String} {b : Bool} (k : kitB "int" T = some b) (q : Q (.bl b) H) : rIsi K [.int i, .ty T] H Q := isiTy (.int i) k q
theorem isiBl {T : String} {b c : Bool} (k : kitB "bool" T = some b) (q : Q (.bl b) H) : rIsi K [.bl c, .ty T] H Q := isiTy (.bl c) k q
theorem isiStr {T : String} {b : Bool} {s : Str} (k : kitB "str" T = some b) (q : Q (.bl b) H) : rIsi K [.str s, .ty T] H Q := isiTy (.str s) k q
theorem isiNon {T : String} {b : Bool} (k : kitB "NoneType" T = some b) (q : Q (.bl b) H) : rIsi K [.non, .ty T] H Q := isiTy .non k q
theorem isiLst {T : String} {b : Bool} (h : H a = some (.lst xs)) (k : kitB "list" T = some b) (q : Q (.bl b) H) : rIsi K [.ref a, .ty T] H Q := isiTy (.lst h) k q
theorem isiTup {T : String} {b : Bool} (h : H a = some (.tup xs)) (k : kitB "tuple" T = some b) (q : Q (.bl b) H) : rIsi K [.ref a, .ty T] H Q := isiTy (.tup h) k q
/-! loops -/
def xFR1 (g : TG) (tb : TS) (D : Ends) (σ : L2.St) (vs : List V) (H1 : Hp) : Prop := ∃ j : Int, vs = [.int j] ∧ -(2 ^ 62) ≤ j ∧ j < 2 ^ 62 ∧ ∃ W : Nat → Nat → L2.St → Hp → Prop, (∃ m, W 0 m σ H1) ∧ ∀ i m σ H, W i m σ H →
      ((Itr 0 j.toNat).stop i H ∧ D.nx σ H) ∨ ((Itr 0 j.toNat).go i H ∧ ∃ N : L2.St → Hp → Prop, (∀ σ' H', N σ' H' → ∃ m', m' < m ∧ W (i + 1) m' σ' H') ∧ ∀ x H', (Itr 0 j.toNat).yld i H x H' → g x σ H' fun σ2 H2 => tb { D with nx := N, ct := N, bk := D.nx } σ2 H2)
theorem forR1 (h : al σ H fun vs H1 => xFR1 g tb D σ vs H1) : tFor (iRng1 al) g tb D σ H := h
theorem xfr1 {k : Nat} (hb : -(2 ^ 62) ≤ n ∧ n < 2 ^ 62) (Pv : Nat → L2.St → Hp → Prop) (h0 : Pv 0 σ H)
    (hs : ∀ (i : Nat) σ' H', (i : Int) < n → Pv i σ' H' → tb { D with nx := Pv (i + 1), ct := Pv (i + 1), bk := D.nx } (σ'.set k (some (.int (i : Int)))) H') (hd : ∀ σ' H', Pv n.toNat σ' H' → D.nx σ' H') : xFR1 (gName k) tb D σ [.int n] H :=
  ⟨n, rfl, hb.1, hb.2, for_range (lo := 0) (n := n.toNat) Pv h0 (fun i σ' H' hi p => by
    have e0 : (0 : Int) + (i : Int) = (i : Int) := Int.zero_add _
    show tb { D with nx := Pv (i + 1), ct := Pv (i + 1), bk := D.nx } (σ'.set k (some (.int ((0 : Int) + (i : Int))))) H'
    rw [e0]
    exact hs i σ' H' (by omega) p) hd⟩
def xFR2 (g : TG) (tb : TS) (D : Ends) (σ : L2.St) (vs : List V) (H1 : Hp) : Prop := ∃ i0 j : Int, vs = [.int i0, .int j] ∧ (-(2 ^ 62) ≤ i0 ∧ i0 < 2 ^ 62 ∧ -(2 ^ 62) ≤ j ∧ j < 2 ^ 62) ∧ ∃ W : Nat → Nat → L2.St → Hp → Prop, (∃ m, W 0 m σ H1) ∧ ∀ i m σ H, W i m σ H →
      ((Itr i0 (j - i0).toNat).stop i H ∧ D.nx σ H) ∨ ((Itr i0 (j - i0).toNat).go i H ∧ ∃ N : L2.St → Hp → Prop, (∀ σ' H', N σ' H' → ∃ m', m' < m ∧ W (i + 1) m' σ' H') ∧ ∀ x H', (Itr i0 (j - i0).toNat).yld i H x H' → g x σ H' fun σ2 H2 => tb { D with nx := N, ct := N, bk := D.nx } σ2 H2)
theorem forR2 (h : al σ H fun vs H1 => xFR2 g tb D σ vs H1) : tFor (iRng2 al) g tb D σ H := h
theorem xfr2 {k : Nat} (hb : -(2 ^ 62) ≤ lo ∧ lo < 2 ^ 62 ∧ -(2 ^ 62) ≤ n ∧ n < 2 ^ 62) (Pv : Nat → L2.St → Hp → Prop) (h0 : Pv 0 σ H)
    (hs : ∀ (i : Nat) σ' H', lo + (i : Int) < n → Pv i σ' H' → tb { D with nx := Pv (i + 1), ct := Pv (i + 1), bk := D.nx } (σ'.set k (some (.int (lo + (i : Int))))) H') (hd : ∀ σ' H', Pv (n - lo).toNat σ' H' → D.nx σ' H') : xFR2 (gName k) tb D σ [.int lo, .int n] H :=
  ⟨lo, n, rfl, hb, for_range (lo := lo) (n := (n - lo).toNat) Pv h0 (fun i σ' H' hi p => hs i σ' H' (by omega) p) hd⟩
def xFL (K : PySem.W.Frag) (g : TG) (tb : TS) (D : Ends) (σ : L2.St) (x : V) (H1 : Hp) : Prop := ∃ a, x = .ref a ∧ (∃ xs, SqL K H1 a xs) ∧ ∃ W : Nat → Nat → L2.St → Hp → Prop, (∃ m, W 0 m σ H1) ∧ ∀ i m σ H, W i m σ H →
      ((Itl K a).stop i H ∧ D.nx σ H) ∨ ((Itl K a).go i H ∧ ∃ N : L2.St → Hp → Prop, (∀ σ' H', N σ' H' → ∃ m', m' < m ∧ W (i + 1) m' σ' H') ∧ ∀ x H', (Itl K a).yld i H x H' → g x σ H' fun σ2 H2 => tb { D with nx := N, ct := N, bk := D.nx } σ2 H2)
theorem forL (h : te σ H fun x H1 => xFL K g tb D σ x H1) : tFor (iList K te) g tb D σ H := h
theorem xfl (hx : SqL K H a xs) (Pv : Nat → L2.St → Hp → Prop) (h0 : Pv 0 σ H) (hl : ∀ i σ' H', i ≤ xs.length → Pv i σ' H' → SqL K H' a xs)
    (hs : ∀ i x σ' H', xs[i]? = some x → Pv i σ' H' → g x σ' H' fun σ2 H2 => tb { D with nx := Pv (i + 1), ct := Pv (i + 1), bk := D.nx } σ2 H2) (hd : ∀ σ' H', Pv xs.length σ' H' → D.nx σ' H') : xFL K g tb D σ (.ref a) H :=
  ⟨a, rfl, ⟨xs, hx⟩, for_list Pv h0 hl hs hd⟩
def xFT (K : PySem.W.Frag) (g : TG) (tb : TS) (D : Ends) (σ : L2.St) (x : V) (H1 : Hp) : Prop := ∃ a, x = .ref a ∧ (∃ xs, SqT K H1 a xs) ∧ ∃ W : Nat → Nat → L2.St → Hp → Prop, (∃ m, W 0 m σ H1) ∧ ∀ i m σ H, W i m σ H →
      ((Itt K a).stop i H ∧ D.nx σ H) ∨ ((Itt K a).go i H ∧ ∃ N : L2.St → Hp → Prop, (∀ σ' H', N σ' H' → ∃ m', m' < m ∧ W (i + 1) m' σ' H') ∧ ∀ x H', (Itt K a).yld i H x H' → g x σ H' fun σ2 H2 => tb { D with nx := N, ct := N, bk := D.nx } σ2 H2)
theorem forT (h : te σ H fun x H1 => xFT K g tb D σ x H1) : tFor (iTup K te) g tb D σ H := h
theorem xft (hx : SqT K H a xs) (Pv : Nat → L2.St → Hp → Prop) (h0 : Pv 0 σ H) (hl : ∀ i σ' H', i ≤ xs.length → Pv i σ' H' → SqT K H' a xs)
    (hs : ∀ i x σ' H', xs[i]? = some x → Pv i σ' H' → g x σ' H' fun σ2 H2 => tb { D with nx := Pv (i + 1), ct := Pv (i + 1), bk := D.nx } σ2 H2) (hd : ∀ σ' H', Pv xs.length σ' H' → D.nx σ' H') : xFT K g tb D σ (.ref a) H :=
  ⟨a, rfl, ⟨xs, hx⟩, for_tup Pv h0 hl hs hd⟩
/-- powers of written numbers -/
theorem pw {m : Int} (c : CPow i j) (h : i ^ j.toNat = m) (q : Q (.int m) H) : rI CPow (fun i j => .int (i ^ j.toNat)) (.int i) (.int j) H Q := i1 c (by rw [h]; exact q)
theorem atI_i {α : Type} {xs : List α} {i : Int} {v : α} (h0 : 0 ≤ i) (h : xs[i.toNat]? = some v) : atI xs i = some v := by
  have e : ((i.toNat : Nat) : Int) = i := Int.toNat_of_nonneg h0
  rw [← e]
  exact atI_nat h
end
end Rd
namespace Rd
open PySem PySem.Spec PyProof.Rows L2 Evl Dk
section
variable {σ : L2.St} {H : Hp} {v x : V} {K : PySem.W.Frag} {D : Ends} {ta te : TE} {a C dx : Addr} {fs : List (Str × V)} {f : Str}
def xSt (K : PySem.W.Frag) (f : Str) (y x : V) (H2 : Hp) (N : Hp → Prop) : Prop := ∃ a C dx fs, x = .ref a ∧ H2 a = some (.ins C dx fs) ∧ Cls K C ∧ NoAttr K C f ∧ fs.length < 1000 ∧ N (upd H2 a (.ins C dx (putF f y fs)))
theorem sfld (h : te σ H fun y H1 => ta σ H1 fun x H2 => xSt K f y x H2 fun H3 => D.nx σ H3) : sFld K ta te f D σ H := h
theorem xst {N : Hp → Prop} (h : H a = some (.ins C dx fs)) (c : Cls K C) (n : NoAttr K C f) (l : Nat.blt fs.length 1000 = true) (q : N (upd H a (.ins C dx (putF f v fs)))) : xSt K f v (.ref a) H N := ⟨a, C, dx, fs, rfl, h, c, n, Nat.le_of_ble_eq_true l, q⟩
def xMk (C : Addr) (sp : V → Hp → VK → Prop) (H : Hp) (Q : VK) : Prop := ∀ x dx, H x = none → H dx = none → dx ≠ x → sp (.ref x) (upd (upd H dx (.own x)) x (.ins C dx [])) (fun v H2 => v = .non ∧ Q (.ref x) H2)
theorem make {C : Addr} {sp : Sp} {dvs : List V} {E : XK} {al : TA} {Q : VK} (h : al σ H fun vs H1 => xMk C (fun x H2 Q2 => sp (x :: (vs ++ dvs)) H2 Q2 E) H1 Q) : tMake C sp dvs E al σ H Q := h
/-- a new instance, told by one fact -/
theorem xmk {C : Addr} {sp : V → Hp → VK → Prop} {H : Hp} {Q : VK} (h : ∀ x dx H', Ex H H' → H x = none → H' x = some (.ins C dx []) → sp (.ref x) H' (fun v H2 => v = .non ∧ Q (.ref x) H2)) : xMk C sp H Q := fun x dx nx nd ne =>
  h x dx _ (fun b o e => by rw [upd_ne (ne_of_none e nx), upd_ne (ne_of_none e nd)]; exact e) nx upd_same
theorem xmeth {m : Str} {P : Prop} (h : H a = some (.ins C dx fs)) (l : fs.lookup m = none) (p : P) : xMeth C m (.ref a) H P := ⟨a, dx, fs, rfl, h, l, p⟩
end
end Rd
namespace Dt
open PySem PySem.Spec PyProof.Rows L2 Evl
/-- no list within -/
def noL : PyData → Bool
  | .list _ => false
  | .tuple ds => ds.attach.all fun ⟨d, _⟩ => noL d
  | _ => true
section
variable {K : PySem.W.Frag} {H : Hp} {l : Addr} {ws : List V} {o : HO}
theorem sqt_upd {a : Addr} {xs : List V} (h : H l = some (.lst ws)) (s : SqT K H a xs) : SqT K (upd H l o) a xs := by
  rcases s with (s | ⟨ob, s⟩) | s
  · refine .inl (.inl ?_)
    rw [upd_ne (fun z => by subst z; rw [h] at s; cases s)]; exact s
  · refine .inl (.inr ⟨ob, ?_⟩)
    rw [upd_ne (fun z => by subst z; rw [h] at s; cases s)]; exact s
  · exact .inr s
mutual
theorem updL (h : H l = some (.lst ws)) : ∀ (d : PyData) (v : V), noL d = true → Dp K H v d → Dp K (upd H l o) v d
  | .none, _, _, h1 => by cases h1; exact .non
  | .bool b, _, _, h1 => by cases h1; exact .bl b
  | .int i, _, _, h1 => by cases h1; exact .int i
  | .str x, _, _, h1 => by cases h1; exact .str x
  | .list _, _, n, _ => by simp [noL] at n
  | .tuple ds, _, n, h1 => by
    cases h1 with
    | tup hs ha => exact .tup (sqt_upd h hs) (updLA h ds _ (by simpa [noL] using n) ha)
  | .dict _, _, _, h1 => by cases h1
theorem updLA (h : H l = some (.lst ws)) : ∀ (ds : List PyData) (vs : List V), (∀ d ∈ ds, noL d = true) → DpAll K H vs ds → DpAll K (upd H l o) vs ds
  | [], _, _, h1 => by cases h1; exact .nil
  | d :: ds, _, n, h1 => by
    cases h1 with
    | cons h2 h3 => exact .cons (updL h d _ (n d List.mem_cons_self) h2) (updLA h ds _ (fun d hd => n d (List.mem_cons_of_mem _ hd)) h3)
end
end
end Dt
namespace Rd
open PySem PySem.Spec PyProof.Rows L2 Evl Dk
/-- only x has changed, which was not there -/
theorem exBut {H H2 H' : Hp} {x : Addr} (e : Ex H H2) (n : H x = none) (s : ∀ b o, b ≠ x → H2 b = some o → H' b = some o) : Ex H H' := fun b o h => s b o (ne_of_none h n) (e b o h)
end Rd
namespace Rd
open PySem PySem.Spec PyProof.Rows L2 Evl Dk
section
variable {σ : L2.St} {H : Hp} {Q : VK} {te : TE} {xs : List V} {v : V} {b : Bool} {t : TT} {QB : Bool → Hp → Prop} {K : PySem.W.Frag} {l : Addr} {a C dx : Addr} {fs : List (Str × V)}
theorem evL (h : EvL te σ H xs) (q : ∀ p H', H p = none → Ex H H' → H' p = some (.lst xs) → Q (.ref p) H') : te σ H Q := h H (Ex.refl H) Q q
theorem evV (h : Ev te σ H v) (q : ∀ H', Ex H H' → Q v H') : te σ H Q := h H (Ex.refl H) Q q
theorem evYes : EvT tYes σ H true := fun H1 _ _ q => q H1 (Ex.refl H1)
theorem given_all (n : Nat) (v : Nat → V) : given n (fun _ => true) v = (List.range n).map v := by
  unfold given
  rw [List.filter_eq_self.mpr (fun _ _ => rfl)]
theorem isiOwn {b : Bool} {D : Addr} (h : H a = some (.ins C dx fs)) (cl : Cls K C) (ha : PySem.W.findIn K (.ref C) "__class__" = some (some (.builtin "object.__class__"))) (hn : PySem.W.specialIn K (.builtin "object.__class__") "__get__" = some (some (.builtin "getset_descriptor.__get__")))
    (htk : PySem.W.takesIn K (.builtin "object.__class__") = some true) (hm : PySem.W.mroIn K C (.type "object") = some true) (k : PySem.W.kitOne K (.ref C) (.ref D) = some b) (q : Q (.bl b) H) : rIsi K [.ref a, .ref D] H Q :=
  ⟨.ref a, .ref D, .ref C, .ref D, b, rfl, .own D, .base (.ins h cl ha hn htk hm), k, q⟩
theorem cat {zs : List V} {c : Addr} (h1 : H l = some (.lst xs)) (h2 : H c = some (.lst zs)) (n : xs.length + zs.length ≤ 100000) (q : ∀ p H', H p = none → Ex H H' → H' p = some (.lst (xs ++ zs)) → Q (.ref p) H') : rCat (.ref l) (.ref c) H Q :=
  ⟨l, c, xs, zs, rfl, rfl, h1, h2, sz_of n, fun p hp => q p _ hp (Ex.new hp) upd_same⟩
theorem lstRg {a b : Int} (h : -100000 ≤ a ∧ a ≤ 100000 ∧ -100000 ≤ b ∧ b ≤ 100000) (q : ∀ p H', H p = none → Ex H H' → H' p = some (.lst (rgV a b)) → Q (.ref p) H') : RgOk a b ∧ ∀ q, H q = none → Q (.ref q) (upd H q (.lst (rgV a b))) :=
  ⟨⟨by omega, by omega, by omega, by omega, by omega⟩, fun p hp => q p _ hp (Ex.new hp) upd_same⟩
theorem pw20 {m : Int} (e : (10 : Int) ^ (20 : Int).toNat = m) (q : Q (.int m) H) : rI CPow (fun i j => .int (i ^ j.toNat)) (.int 10) (.int 20) H Q := pw ⟨by decide, by decide, by decide⟩ e q
end
end Rd
namespace Rd
open PySem PySem.Spec PyProof.Rows L2 Evl Dk
def rCatS : R2 := fun x y H Q => ∃ i j, x = .str i ∧ y = .str j ∧ i.length + j.length ≤ sizeLine ∧ Q (.str (i ++ j)) H
theorem op_addS {X : Cx} : OpR X (binaryOp .Add) rCatS := op_add_str
theorem catS {H : Hp} {Q : VK} {i j : Str} (h : i.length + j.length ≤ 100000) (q : Q (.str (i ++ j)) H) : rCatS (.str i) (.str j) H Q := ⟨i, j, rfl, rfl, sz_of h, q⟩
end Rd
namespace Rd
open PySem PySem.Spec PyProof.Rows L2 Evl Dk
section
variable {σ : L2.St} {H : Hp} {Q : VK} {te tf : TE} {x y : V} {n m : Int}
def xR1 (x : V) (H1 : Hp) (Q : VK) : Prop := ∃ n, x = .int n ∧ (RgOk 0 n ∧ ∀ q, H1 q = none → Q (.ref q) (upd H1 q (.lst (rgV 0 n))))
theorem listRg1 (h : te σ H fun x H1 => xR1 x H1 Q) : tLstRg (tRg1 te) σ H Q := h
theorem xr1 (h : -100000 ≤ n ∧ n ≤ 100000) (q : ∀ p H', H p = none → Ex H H' → H' p = some (.lst (rgV 0 n)) → Q (.ref p) H') : xR1 (.int n) H Q := ⟨n, rfl, lstRg ⟨by omega, by omega, h.1, h.2⟩ q⟩
end
end Rd
namespace Rd
open PySem PySem.Spec PyProof.Rows L2 Evl Dk
section
variable {σ : L2.St} {H : Hp} {Q : VK} {te tf : TE} {x y : V} {n m : Int} {l : Addr} {xs : List V}
def xR2 (x y : V) (H1 : Hp) (Q : VK) : Prop := ∃ i j, x = .int i ∧ y = .int j ∧ (RgOk i j ∧ ∀ q, H1 q = none → Q (.ref q) (upd H1 q (.lst (rgV i j))))
theorem listRg2 (h : te σ H fun x H1 => tf σ H1 fun y H2 => xR2 x y H2 Q) : tLstRg (tRg2 te tf) σ H Q := h
theorem xr2 (h : -100000 ≤ n ∧ n ≤ 100000 ∧ -100000 ≤ m ∧ m ≤ 100000) (q : ∀ p H', H p = none → Ex H H' → H' p = some (.lst (rgV n m)) → Q (.ref p) H') : xR2 (.int n) (.int m) H Q := ⟨n, m, rfl, rfl, lstRg h q⟩
theorem eqB {a b : Bool} (q : Q (.bl (decide (a = b))) H) : rEq (.bl a) (.bl b) H Q := ⟨rfl, by rw [dB]; exact q⟩
theorem neB {a b : Bool} (q : Q (.bl (!decide (a = b))) H) : rNe (.bl a) (.bl b) H Q := ⟨rfl, by rw [dB]; exact q⟩
def rInsert : V → List V → Hp → VK → Prop := fun x vs H Q => ∃ (l : Addr) (xs : List V) (i : Int) (y : V), x = .ref l ∧ vs = [.int i, y] ∧ H l = some (.lst xs) ∧ xs.length < sizeLine ∧ 0 ≤ i ∧ i < 2 ^ 63 ∧ Q .non (upd H l (.lst (xs.take i.toNat ++ [y] ++ xs.drop i.toNat)))
theorem mt_ins {X : Cx} : MtR X "list.insert" rInsert := mt_insert
theorem insert {i : Int} {y : V} (h : H l = some (.lst xs)) (hz : xs.length < 100000) (h0 : 0 ≤ i ∧ i ≤ 100000) (q : Q .non (upd H l (.lst (xs.take i.toNat ++ [y] ++ xs.drop i.toNat)))) : rInsert (.ref l) [.int i, y] H Q :=
  ⟨l, xs, i, y, rfl, rfl, h, sz_lt hz, h0.1, by omega, q⟩
theorem rgV_get {a b : Int} {i : Nat} {y : V} (h : (rgV a b)[i]? = some y) : y = .int (a + i) ∧ (i : Int) < b - a := by
  unfold rgV at h
  rw [List.getElem?_map] at h
  by_cases hi : i < (b - a).toNat
  · rw [List.getElem?_range hi] at h
    exact ⟨(Option.some.inj h).symm, by omega⟩
  · rw [List.getElem?_eq_none (by rw [List.length_range]; omega)] at h; cases h
end
end Rd
namespace Rd
open PySem PySem.Spec PyProof.Rows L2 Evl Dk
section
variable {σ : L2.St} {H : Hp} {Q : VK} {te tl : TE} {al : TA} {x y : V} {n m : Int} {l : Addr} {xs : List V} {g : TG} {tt : TT} {vs : List Nat} {K : PySem.W.Frag} {j : Nat}
def xLcR (g : TG) (tt : TT) (te : TE) (vs : List Nat) (σ : L2.St) (ws : List V) (H : Hp) (Q : VK) : Prop := tLc (iRng1 (fun _ H Q => Q ws H)) g tt te vs σ H Q
theorem lcR1 (h : al σ H fun ws H1 => xLcR g tt te vs σ ws H1 Q) : tLc (iRng1 al) g tt te vs σ H Q := h
theorem xlcR (f : Nat → Bool) (v : Nat → V) (hn : 0 ≤ n ∧ n ≤ 40000) (hw : ∀ x, wipe ((wipe σ vs).set j (some x)) vs = wipe σ vs)
    (ht : ∀ (i : Nat) H1, Ex H H1 → (i : Int) < n → EvT tt ((wipe σ vs).set j (some (.int (i : Int)))) H1 (f i)) (he : ∀ (i : Nat) H1, Ex H H1 → (i : Int) < n → f i = true → Ev te ((wipe σ vs).set j (some (.int (i : Int)))) H1 (v i))
    (q : ∀ p H', H p = none → Ex H H' → H' p = some (.lst (given n.toNat f v)) → Q (.ref p) H') : xLcR (gName j) tt te vs σ [.int n] H Q :=
  evL (el_lcR1 f v (fun H1 _ Q q => q H1 (Ex.refl H1)) hn hw ht he) q
def xLcL (K : PySem.W.Frag) (g : TG) (tt : TT) (te : TE) (vs : List Nat) (σ : L2.St) (x : V) (H : Hp) (Q : VK) : Prop := tLc (iList K (fun _ H Q => Q x H)) g tt te vs σ H Q
theorem lcL (h : tl σ H fun x H1 => xLcL K g tt te vs σ x H1 Q) : tLc (iList K tl) g tt te vs σ H Q := h
theorem xlcL (f : Nat → Bool) (v : Nat → V) (hx : SqL K H l xs) (hz : xs.length ≤ 40000) (hw : ∀ x, wipe ((wipe σ vs).set j (some x)) vs = wipe σ vs)
    (ht : ∀ (i : Nat) (x : V) H1, Ex H H1 → xs[i]? = some x → EvT tt ((wipe σ vs).set j (some x)) H1 (f i)) (he : ∀ (i : Nat) (x : V) H1, Ex H H1 → xs[i]? = some x → f i = true → Ev te ((wipe σ vs).set j (some x)) H1 (v i))
    (q : ∀ p H', H p = none → Ex H H' → H' p = some (.lst (given xs.length f v)) → Q (.ref p) H') : xLcL K (gName j) tt te vs σ (.ref l) H Q :=
  evL (el_lcL (a := l) f v (fun H1 _ Q q => q H1 (Ex.refl H1)) hx hz hw ht he) q
end
end Rd
namespace Rd
open PySem PySem.Spec PyProof.Rows L2 Evl Dk
section
variable {σ : L2.St} {H G H' H2 : Hp} {Q : VK} {te tl : TE} {al : TA} {x y : V} {n m : Int} {l p : Addr} {xs : List V} {tt : TT} {vs : List Nat} {K : PySem.W.Frag} {j : Nat} {o : HO}
/-- a tuple of the written part -/
theorem sqtK {k : Addr} {dd : Option Addr} {its : Array Value} {nn : Nat} {sl : Array (Option Value)} (h : K.lookup k = some ⟨.type "tuple", dd, .seq its nn, sl⟩) (v : Vals xs its.toList) (hz : xs.length ≤ 1000) : SqT K H k xs :=
  .inr ⟨_, its, nn, h, rfl, rfl, Nat.le_trans (Nat.le_of_eq (by simpa using v.length.symm)) (Nat.le_trans hz (by decide : 1000 ≤ sizeLine)), v⟩
/-- a part of the heap grows by a new object -/
theorem grow1 (e : Ex G H') (n : H' p = none) : Ex G (upd G p o) := Ex.new (fresh_back e n)
theorem grow2 (e : Ex G H') (e2 : Ex H' H2) (h : H2 p = some o) : Ex (upd G p o) H2 := fun a u ha => by
  by_cases hap : a = p
  · subst hap; rw [upd_same] at ha; rw [h]; exact ha
  · rw [upd_ne hap] at ha; exact e2 _ _ (e _ _ ha)
theorem grow3 {D : Addr} {u : HO} (g : G D = none) (n : H' p = none) (h : H' D = some u) : (upd G p o) D = none := by
  rw [upd_ne (ne_of_none h n)]; exact g
/-- a comprehension over a list; its items are data, made of what stood ahead of it and of what each turn makes -/
def Lw (K : PySem.W.Frag) (H : Hp) (R : Nat → PyData → Prop) (D : Addr) (i : Nat) (H' : Hp) : Prop := H D = none ∧ ∃ (G : Hp) (ys : List V) (ds : List PyData), Ex H G ∧ Ex G H' ∧ G D = none ∧ H' D = some (.lst ys) ∧ DpAll K G ys ds ∧ ds.length = i ∧ ∀ k d, ds[k]? = some d → R k d
theorem lw_turn {R : Nat → PyData → Prop} {D : Addr} {i : Nat} {σ2 : L2.St} (hi : i < 50000) (pw : Lw K H R D i H')
    (he : ∀ (G : Hp) (acc : List V), Ex H G → Ex G H' → G D = none → H' D = some (.lst acc) → ∀ Q' : VK, (∀ y H2 G2 d, Ex G G2 → Ex G2 H2 → G2 D = none → Ex H' H2 → Dp K G2 y d → R i d → Q' y H2) → te σ2 H' Q') :
    te σ2 H' fun y H4 => ∃ acc, H4 D = some (.lst acc) ∧ acc.length < sizeLine ∧ Lw K H R D (i + 1) (upd H4 D (.lst (acc ++ [y]))) := by
  obtain ⟨hD, G, ys, ds, e1, e2, g, hys, hd, hl, hR⟩ := pw
  refine he G ys e1 e2 g hys _ fun y H2 G2 d a1 a2 a3 a4 a5 a6 => ⟨ys, a4 _ _ hys, sz_lt (by rw [Dt.lenA hd]; omega), hD, G2, ys ++ [y], ds ++ [d], e1.trans a1, Ex.mut a2 a3, a3, upd_same, Dt.snocA (Dt.mnA hd a1) a5, by rw [List.length_append, hl]; rfl, fun k d' hk => ?_⟩
  by_cases hki : k < ds.length
  · rw [List.getElem?_append_left hki] at hk; exact hR k d' hk
  · rw [List.getElem?_append_right (by omega)] at hk
    have hk0 : k - ds.length = 0 := by
      cases e : k - ds.length with
      | zero => rfl
      | succ m => rw [e] at hk; cases hk
    rw [hk0] at hk
    have hd' : d = d' := Option.some.inj hk
    rw [← hd', show k = i from by omega]
    exact a6
theorem xlcG (R : Nat → PyData → Prop) (hx : SqL K H l xs) (hz : xs.length ≤ 40000) (hw : ∀ x, wipe ((wipe σ vs).set j (some x)) vs = wipe σ vs)
    (he : ∀ (i : Nat) (x : V) (D : Addr) (G H' : Hp) (acc : List V), xs[i]? = some x → H D = none → Ex H G → Ex G H' → G D = none → H' D = some (.lst acc) →
      ∀ Q' : VK, (∀ y H2 G2 d, Ex G G2 → Ex G2 H2 → G2 D = none → Ex H' H2 → Dp K G2 y d → R i d → Q' y H2) → te ((wipe σ vs).set j (some x)) H' Q')
    (q : ∀ p G' H' ys ds, H p = none → Ex H G' → Ex G' H' → G' p = none → H' p = some (.lst ys) → DpAll K G' ys ds → ds.length = xs.length → (∀ i d, ds[i]? = some d → R i d) → Q (.ref p) H') : xLcL K (gName j) tYes te vs σ (.ref l) H Q :=
  ⟨l, rfl, ⟨xs, hx⟩, fun D hD => lc_list (xs := xs) (Lw K H R D) ⟨hD, H, [], [], Ex.refl H, Ex.new hD, hD, upd_same, .nil, rfl, fun _ _ h => nomatch h⟩
    (fun i H' _ ⟨_, G, _, _, e1, e2, _⟩ => ex_l (e1.trans e2) hx)
    (fun i x H' hi p => ⟨hw x, iteT (B := Lw K H R D (i + 1) H') (lw_turn (by have := (List.getElem?_eq_some_iff.mp hi).1; omega) p fun G acc a1 a2 a3 a4 => he i x D G H' acc hi hD a1 a2 a3 a4)⟩)
    (fun H' ⟨_, G, ys, ds, e1, e2, g, hys, hd, hl, hR⟩ => q D G H' ys ds hD e1 e2 g hys hd hl hR)⟩
theorem xlcGR (R : Nat → PyData → Prop) (hn : 0 ≤ n ∧ n ≤ 40000) (hw : ∀ x, wipe ((wipe σ vs).set j (some x)) vs = wipe σ vs)
    (he : ∀ (i : Nat) (D : Addr) (G H' : Hp) (acc : List V), (i : Int) < n → H D = none → Ex H G → Ex G H' → G D = none → H' D = some (.lst acc) →
      ∀ Q' : VK, (∀ y H2 G2 d, Ex G G2 → Ex G2 H2 → G2 D = none → Ex H' H2 → Dp K G2 y d → R i d → Q' y H2) → te ((wipe σ vs).set j (some (.int (i : Int)))) H' Q')
    (q : ∀ p G' H' ys ds, H p = none → Ex H G' → Ex G' H' → G' p = none → H' p = some (.lst ys) → DpAll K G' ys ds → ds.length = n.toNat → (∀ i d, ds[i]? = some d → R i d) → Q (.ref p) H') : xLcR (gName j) tYes te vs σ [.int n] H Q :=
  ⟨n, rfl, by omega, by omega, fun D hD => lc_range (lo := 0) (n := n.toNat) (Lw K H R D) ⟨hD, H, [], [], Ex.refl H, Ex.new hD, hD, upd_same, .nil, rfl, fun _ _ h => nomatch h⟩
    (fun i H' hi p => by
      have e0 : (0 : Int) + (i : Int) = (i : Int) := Int.zero_add _
      show wipe ((wipe σ vs).set j (some (.int ((0 : Int) + (i : Int))))) vs = wipe σ vs ∧ _
      rw [e0]
      exact ⟨hw _, iteT (B := Lw K H R D (i + 1) H') (lw_turn (by omega) p fun G acc a1 a2 a3 a4 => he i D G H' acc (by omega) hD a1 a2 a3 a4)⟩)
    (fun H' ⟨_, G, ys, ds, e1, e2, g, hys, hd, hl, hR⟩ => q D G H' ys ds hD e1 e2 g hys hd hl hR)⟩
end
end Rd
namespace Rd
open PySem PySem.Spec PyProof.Rows L2 Evl Dk
section
variable {σ σ' : L2.St} {H H' : Hp} {Q : VK} {te tl : TE} {al : TA} {x y v : V} {n m : Int} {l p : Addr} {xs : List V} {tt : TT} {vs : List Nat} {K : PySem.W.Frag} {j : Nat} {o : HO} {g : TG} {D : Ends} {tb : TS}
/-! loops and comprehensions over a text -/
def xFS (g : TG) (tb : TS) (D : Ends) (σ : L2.St) (x : V) (H1 : Hp) : Prop := ∃ z, x = .str z ∧ ∃ W : Nat → Nat → L2.St → Hp → Prop, (∃ m, W 0 m σ H1) ∧ ∀ i m σ H, W i m σ H →
      ((Its z).stop i H ∧ D.nx σ H) ∨ ((Its z).go i H ∧ ∃ N : L2.St → Hp → Prop, (∀ σ' H', N σ' H' → ∃ m', m' < m ∧ W (i + 1) m' σ' H') ∧ ∀ x H', (Its z).yld i H x H' → g x σ H' fun σ2 H2 => tb { D with nx := N, ct := N, bk := D.nx } σ2 H2)
theorem forS (h : te σ H fun x H1 => xFS g tb D σ x H1) : tFor (iStr te) g tb D σ H := h
theorem xfs {z : Str} (Pv : Nat → L2.St → Hp → Prop) (h0 : Pv 0 σ H)
    (hs : ∀ i c σ' H', z.cps[i]? = some c → Pv i σ' H' → g (.str ⟨#[c]⟩) σ' H' fun σ2 H2 => tb { D with nx := Pv (i + 1), ct := Pv (i + 1), bk := D.nx } σ2 H2) (hd : ∀ σ' H', Pv z.cps.size σ' H' → D.nx σ' H') : xFS g tb D σ (.str z) H := by
  refine ⟨z, rfl, fun i m σ' H' => m = z.cps.size - i ∧ i ≤ z.cps.size ∧ Pv i σ' H', ⟨_, rfl, Nat.zero_le _, h0⟩, ?_⟩
  rintro i m σ' H' ⟨rfl, hi, p⟩
  by_cases hlt : i < z.cps.size
  · exact .inr ⟨hlt, Pv (i + 1), fun σ2 H2 p' => ⟨z.cps.size - (i + 1), by omega, rfl, hlt, p'⟩, fun x H2 ⟨e, c, hc, ex⟩ => by subst e; subst ex; exact hs i c σ' _ hc p⟩
  · have e : i = z.cps.size := by omega
    subst e
    exact .inl ⟨Nat.le_refl _, hd σ' H' p⟩
def xLcS (g : TG) (tt : TT) (te : TE) (vs : List Nat) (σ : L2.St) (x : V) (H : Hp) (Q : VK) : Prop := tLc (iStr (fun _ H Q => Q x H)) g tt te vs σ H Q
theorem lcS (h : tl σ H fun x H1 => xLcS g tt te vs σ x H1 Q) : tLc (iStr tl) g tt te vs σ H Q := h
theorem xlcS {z : Str} (f : Nat → Bool) (v : Nat → V) (hz : z.cps.size ≤ 40000) (hw : ∀ x, wipe ((wipe σ vs).set j (some x)) vs = wipe σ vs)
    (ht : ∀ (i c : Nat) H1, Ex H H1 → z.cps[i]? = some c → EvT tt ((wipe σ vs).set j (some (.str ⟨#[c]⟩))) H1 (f i)) (he : ∀ (i c : Nat) H1, Ex H H1 → z.cps[i]? = some c → f i = true → Ev te ((wipe σ vs).set j (some (.str ⟨#[c]⟩))) H1 (v i))
    (q : ∀ p H', H p = none → Ex H H' → H' p = some (.lst (given z.cps.size f v)) → Q (.ref p) H') : xLcS (gName j) tt te vs σ (.str z) H Q := by
  refine ⟨z, rfl, fun D hD => ⟨fun i m H' => m = z.cps.size - i ∧ i ≤ z.cps.size ∧ Cw H f v D i H', ⟨_, rfl, Nat.zero_le _, hD, Ex.new hD, upd_same⟩, ?_⟩⟩
  rintro i m H' ⟨rfl, hi, p⟩
  by_cases hlt : i < z.cps.size
  · exact .inr ⟨hlt, fun H2 => Cw H f v D (i + 1) H2, fun H2 p' => ⟨z.cps.size - (i + 1), by omega, rfl, hlt, p'⟩, fun x H2 ⟨e, c, hc, ex⟩ => by
      subst e; subst ex
      exact ⟨hw _, cw_turn p (by omega) (ht i c H (Ex.refl H) hc) fun hf => he i c H (Ex.refl H) hc hf⟩⟩
  · have e : i = z.cps.size := by omega
    subst e
    exact .inl ⟨Nat.le_refl _, q D H' p.1 p.2.1 p.2.2⟩
/-! in a tuple or a list of flat items -/
theorem inT {b : Bool} (h : SqT K H p xs) (hx : flatV x = true) (ha : xs.all flatV = true) (hb : inV x xs = b) (q : Q (.bl b) H) : rIn K false x (.ref p) H Q := ⟨p, xs, rfl, .inr h, hx, ha, by rw [hb]; exact q⟩
theorem ninT {b : Bool} (h : SqT K H p xs) (hx : flatV x = true) (ha : xs.all flatV = true) (hb : inV x xs = b) (q : Q (.bl (!b)) H) : rIn K true x (.ref p) H Q := ⟨p, xs, rfl, .inr h, hx, ha, by rw [hb]; exact q⟩
/-! texts -/
def rJoin (K : PySem.W.Frag) : V → List V → Hp → VK → Prop := fun x xs H Q => ∃ a p, ∃ ys : List Str, x = .str a ∧ xs = [.ref p] ∧ (SqL K H p (ys.map V.str) ∨ SqT K H p (ys.map V.str)) ∧ (ys.map (·.length)).sum + ys.length * a.length ≤ 16777216 ∧ Q (.str (Txt.join a ys)) H
theorem mt_jn {X : Cx} : MtR X "str.join" (rJoin X.K) := mt_join
def rFind : V → List V → Hp → VK → Prop := fun x xs H Q => ∃ a b, x = .str a ∧ xs = [.str b] ∧ Q (.int (Txt.find a b)) H
theorem mt_fd {X : Cx} : MtR X "str.find" rFind := mt_find
def rSix : V → List V → Hp → VK → Prop := fun x xs H Q => ∃ a b i rest, x = .str a ∧ xs = [.str b] ∧ Builtin.Str.occurrences a b 0 a.length 1 = i :: rest ∧ Q (.int (i : Nat)) H
theorem mt_six {X : Cx} : MtR X "str.index" rSix := mt_sindex
theorem join {a : Str} {ys : List Str} (h : SqL K H p (ys.map V.str)) (hz : (ys.map (·.length)).sum + ys.length * a.length ≤ 16777216) (q : Q (.str (Txt.join a ys)) H) : rJoin K (.str a) [.ref p] H Q := ⟨a, p, ys, rfl, rfl, .inl h, hz, q⟩
theorem find {a b : Str} (q : Q (.int (Txt.find a b)) H) : rFind (.str a) [.str b] H Q := ⟨a, b, rfl, rfl, q⟩
theorem six {a b : Str} {i : Nat} {r : List Nat} (h : Builtin.Str.occurrences a b 0 a.length 1 = i :: r) (q : Q (.int (i : Nat)) H) : rSix (.str a) [.str b] H Q := ⟨a, b, i, r, rfl, rfl, h, q⟩
def xIsS (x : V) (P : Prop) : Prop := (∃ a, x = .str a) ∧ P
theorem m1 {r : V → List V → Hp → VK → Prop} {tf : TE} (h : te σ H fun x H1 => xIsS x (tf σ H1 fun y H2 => r x [y] H2 Q)) : tM1 r te tf σ H Q := h
theorem m0 {r : V → List V → Hp → VK → Prop} (h : te σ H fun x H1 => xIsS x (r x [] H1 Q)) : tM0 r te σ H Q := h
theorem xiss {a : Str} {P : Prop} (h : P) : xIsS (.str a) P := ⟨⟨a, rfl⟩, h⟩
def rTupOf (K : PySem.W.Frag) : List V → Hp → VK → Prop := fun xs H Q => ∃ p ys, xs = [.ref p] ∧ ((SqL K H p ys ∧ ∀ l, H l = none → Q (.ref l) (upd H l (.tup ys))) ∨ (SqT K H p ys ∧ Q (.ref p) H))
theorem c_tup {X : Cx} : CallR X (.type "tuple") (rTupOf X.K) := call_tuple_of
theorem tupOfL (h : SqL K H p xs) (q : ∀ l H', H l = none → Ex H H' → H' l = some (.tup xs) → Q (.ref l) H') : rTupOf K [.ref p] H Q := ⟨p, xs, rfl, .inl ⟨h, fun l hl => q l _ hl (Ex.new hl) upd_same⟩⟩
theorem tupOfT (h : SqT K H p xs) (q : Q (.ref p) H) : rTupOf K [.ref p] H Q := ⟨p, xs, rfl, .inr ⟨h, q⟩⟩
end
end Rd
namespace Rd
open PySem PySem.Spec PyProof.Rows L2 Evl Dk
theorem ip_addS {X : Cx} : PIp X .Add rCatS := by
  rintro pins s σ H x y v u Q I r1 r2 ⟨i, j, rfl, rfl, hz, q⟩
  obtain ⟨t, rfl⟩ := r1
  obtain ⟨t', rfl⟩ := r2
  exact SB.iadd (fun _ _ => ⟨.str _, H, I.tok _, ⟨_, rfl⟩, q⟩) hz
end Rd
namespace Rd
open PySem PySem.Spec PyProof.Rows L2 Evl Dk
theorem lenSL {s : Str} {n : Nat} {H : Hp} {Q : VK} (h : s.length = n) (hn : n ≤ 100000) (q : Q (.int n) H) : Rd.rLenStr [.str s] H Q := ⟨s, rfl, sz_of (by rw [h]; exact hn), by rw [h]; exact q⟩
end Rd
namespace Dt
open PySem PySem.Spec PyProof.Rows L2 Evl
section
variable {K : PySem.W.Frag} {H : Hp} {l C dx : Addr} {fs : List (Str × V)} {o : HO}
theorem rd_ins {a : Addr} {u : HO} (h : H l = some (.ins C dx fs)) (n : ∀ C dx fs, u ≠ .ins C dx fs) (s : L2.Rd H a u) : L2.Rd (upd H l o) a u := by
  rcases s with s | ⟨ob, s⟩
  · exact .inl (by rw [upd_ne (fun z => by subst z; rw [h] at s; exact n _ _ _ (Option.some.inj s).symm)]; exact s)
  · exact .inr ⟨ob, by rw [upd_ne (fun z => by subst z; rw [h] at s; cases s)]; exact s⟩
theorem sqt_ins {a : Addr} {xs : List V} (h : H l = some (.ins C dx fs)) (s : SqT K H a xs) : SqT K (upd H l o) a xs := by
  rcases s with s | s
  · exact .inl (rd_ins h (fun _ _ _ z => by cases z) s)
  · exact .inr s
theorem sql_ins {a : Addr} {xs : List V} (h : H l = some (.ins C dx fs)) (s : SqL K H a xs) : SqL K (upd H l o) a xs := by
  rcases s with s | s
  · exact .inl (rd_ins h (fun _ _ _ z => by cases z) s)
  · exact .inr s
mutual
/-- data stays where an instance changes -/
theorem updI (h : H l = some (.ins C dx fs)) : ∀ (d : PyData) (v : V), Dp K H v d → Dp K (upd H l o) v d
  | .none, _, h1 => by cases h1; exact .non
  | .bool b, _, h1 => by cases h1; exact .bl b
  | .int i, _, h1 => by cases h1; exact .int i
  | .str x, _, h1 => by cases h1; exact .str x
  | .list ds, _, h1 => by
    cases h1 with
    | lst hs ha => exact .lst (sql_ins h hs) (updIA h ds _ ha)
  | .tuple ds, _, h1 => by
    cases h1 with
    | tup hs ha => exact .tup (sqt_ins h hs) (updIA h ds _ ha)
  | .dict _, _, h1 => by cases h1
theorem updIA (h : H l = some (.ins C dx fs)) : ∀ (ds : List PyData) (vs : List V), DpAll K H vs ds → DpAll K (upd H l o) vs ds
  | [], _, h1 => by cases h1; exact .nil
  | d :: ds, _, h1 => by
    cases h1 with
    | cons h2 h3 => exact .cons (updI h d _ h2) (updIA h ds _ h3)
end
end
end Dt
namespace Rd
open PySem PySem.Spec PyProof.Rows L2 Evl Dk
/-- what a for walks: a list or a tuple -/
def iSeq (K : PySem.W.Frag) (te : TE) : TI := fun σ H R => iList K te σ H R ∨ iTup K te σ H R
theorem pi_seq {X : Cx} {tg l : Expr} {tl : TE} (hl : PE X l tl) : PI X tg l (iSeq X.K tl) := by
  refine ⟨fun pins s σ H R I h => ?_⟩
  rcases h with h | h
  · exact (pi_list hl).run pins s σ H R I h
  · exact (pi_tup hl).run pins s σ H R I h
section
variable {σ : L2.St} {H : Hp} {Q : VK} {te tl : TE} {l : Addr} {xs : List V} {tt : TT} {vs : List Nat} {K : PySem.W.Frag} {j : Nat} {g : TG} {tb : TS} {D : Ends}
theorem lcQL (h : tLc (iList K tl) g tt te vs σ H Q) : tLc (iSeq K tl) g tt te vs σ H Q := .inl h
theorem lcQT (h : tLc (iTup K tl) g tt te vs σ H Q) : tLc (iSeq K tl) g tt te vs σ H Q := .inr h
theorem forQL (h : tFor (iList K tl) g tb D σ H) : tFor (iSeq K tl) g tb D σ H := .inl h
theorem forQT (h : tFor (iTup K tl) g tb D σ H) : tFor (iSeq K tl) g tb D σ H := .inr h
def xLcT (K : PySem.W.Frag) (g : TG) (tt : TT) (te : TE) (vs : List Nat) (σ : L2.St) (x : V) (H : Hp) (Q : VK) : Prop := tLc (iTup K (fun _ H Q => Q x H)) g tt te vs σ H Q
theorem lcT (h : tl σ H fun x H1 => xLcT K g tt te vs σ x H1 Q) : tLc (iTup K tl) g tt te vs σ H Q := h
theorem xlcT (f : Nat → Bool) (v : Nat → V) (hx : SqT K H l xs) (hz : xs.length ≤ 40000) (hw : ∀ x, wipe ((wipe σ vs).set j (some x)) vs = wipe σ vs)
    (ht : ∀ (i : Nat) (x : V) H1, Ex H H1 → xs[i]? = some x → EvT tt ((wipe σ vs).set j (some x)) H1 (f i)) (he : ∀ (i : Nat) (x : V) H1, Ex H H1 → xs[i]? = some x → f i = true → Ev te ((wipe σ vs).set j (some x)) H1 (v i))
    (q : ∀ p H', H p = none → Ex H H' → H' p = some (.lst (given xs.length f v)) → Q (.ref p) H') : xLcT K (gName j) tt te vs σ (.ref l) H Q :=
  ⟨l, rfl, ⟨xs, hx⟩, fun Dl hD => lc_tup (xs := xs) (Cw H f v Dl) ⟨hD, Ex.new hD, upd_same⟩ (fun i H' _ p => ex_t p.2.1 hx)
    (fun i x H' hi p => ⟨hw x, cw_turn p (by have := (List.getElem?_eq_some_iff.mp hi).1; omega) (ht i x H (Ex.refl H) hi) (fun hf => he i x H (Ex.refl H) hi hf)⟩) (fun H' p => q Dl H' p.1 p.2.1 p.2.2)⟩
end
end Rd
namespace Rd
open PySem PySem.Spec PyProof.Rows L2 Evl Dk
section
variable {H : Hp} {Q : VK} {K : PySem.W.Frag} {a : Addr} {xs : List V}
theorem isiSqT {T : String} {b : Bool} (h : SqT K H a xs) (k : kitB "tuple" T = some b) (q : Q (.bl b) H) : rIsi K [.ref a, .ty T] H Q := by
  have ty : TyX K H (.ref a) (.type "tuple") := by
    rcases h with (h | ⟨o, h⟩) | ⟨o, its, n, h1, h2, _⟩
    · exact .base (.tup h)
    · exact .fTuple h
    · exact .kTuple h1 h2
  exact ⟨.ref a, .ty T, .type "tuple", .type T, b, rfl, .ty T, ty, kit_ty k, q⟩
theorem isiSqL {T : String} {b : Bool} (h : SqL K H a xs) (k : kitB "list" T = some b) (q : Q (.bl b) H) : rIsi K [.ref a, .ty T] H Q := by
  have ty : TyX K H (.ref a) (.type "list") := by
    rcases h with (h | ⟨o, h⟩) | ⟨o, its, n, h1, h2, _⟩
    · exact .base (.lst h)
    · exact .base (.frz h)
    · exact .kList h1 h2
  exact ⟨.ref a, .ty T, .type "list", .type T, b, rfl, .ty T, ty, kit_ty k, q⟩
end
end Rd
namespace Rd
open PySem PySem.Spec PyProof.Rows L2 Evl Dk
section
variable {X : Cx} {σ : L2.St} {H : Hp} {Q : VK} {te : TE} {tl th : TO} {x : V} {i j z : Str} {n : Int} {c : Nat} {QO : Option Int → Hp → Prop}
/-! texts: an index, a slice, a part of another -/
def rInS : R2 := fun x y H Q => ∃ i j, x = .str i ∧ y = .str j ∧ Q (.bl (!(Builtin.Str.occurrences j i 0 j.length 1).isEmpty)) H
theorem op_inS : OpR X (compareOp .In) rInS := op_in_str
theorem inS {b : Bool} (h : (!(Builtin.Str.occurrences j i 0 j.length 1).isEmpty) = b) (q : Q (.bl b) H) : rInS (.str i) (.str j) H Q := ⟨i, j, rfl, rfl, by rw [h]; exact q⟩
def rNotInS : R2 := fun x y H Q => ∃ i j, x = .str i ∧ y = .str j ∧ Q (.bl (!(!(Builtin.Str.occurrences j i 0 j.length 1).isEmpty))) H
theorem op_notInS : OpR X (compareOp .NotIn) rNotInS := op_notIn_str
theorem ninS {b : Bool} (h : (!(Builtin.Str.occurrences j i 0 j.length 1).isEmpty) = b) (q : Q (.bl (!b)) H) : rNotInS (.str i) (.str j) H Q := ⟨i, j, rfl, rfl, by rw [h]; exact q⟩
theorem ixS (hz : z.length ≤ 100000) (ha : atI z.cps.toList n = some c) (q : Q (.str ⟨#[c]⟩) H) : rIxS (.str z) (.int n) H Q := ⟨z, n, c, rfl, rfl, sz_of hz, ha, q⟩
theorem slX {lo hi : Option Int} (hz : z.length ≤ 100000) (q : Q (.str (Txt.slice z lo hi)) H) : C8.rSlX (.str z) lo hi H Q := ⟨z, rfl, sz_of hz, q⟩
theorem sl {r : V → Option Int → Option Int → Hp → VK → Prop} (h : te σ H fun x H1 => tl σ H1 fun l H2 => th σ H2 fun u H3 => r x l u H3 Q) : tSl r te tl th σ H Q := h
theorem poN (q : QO none H) : tNoPart σ H QO := q
def xPart (x : V) (H1 : Hp) (Q : Option Int → Hp → Prop) : Prop := ∃ i, x = .int i ∧ Q (some i) H1
theorem poS (h : te σ H fun x H1 => xPart x H1 QO) : tPart te σ H QO := h
theorem xpart (q : QO (some n) H) : xPart (.int n) H QO := ⟨n, rfl, q⟩
end
end Rd

/-! objects that change: dicts, fields, what stays -/
namespace Rd
open PySem PySem.Spec PyProof.Rows L2 Evl Dk
section
variable {X : Cx} {σ : L2.St} {H H' : Hp} {Q : VK} {td ty tv te : TE} {x y v : V} {a : Addr} {kvs : List (Key × V)} {i : Int} {z : Str} {D : Ends} {K : PySem.W.Frag} {o : Option V} {b : Bool}
def xDGet (x y : V) (H : Hp) (Q : VK) : Prop := ∃ a v, x = .ref a ∧ DGet H a y (some v) ∧ Q v H
theorem dget (h : td σ H fun x H1 => ty σ H1 fun y H2 => xDGet x y H2 Q) : tDGet td ty σ H Q := h
theorem dgetI (h : H a = some (.dK kvs)) : DGet H a (.int i) (valV kvs (.inl i)) := DGet.k (k := .inl i) h
theorem dgetS (h : H a = some (.dK kvs)) : DGet H a (.str z) (valV kvs (.inr z)) := DGet.k (k := .inr z) h
theorem xdget (h : H a = some (.dK kvs)) (e : valV kvs (.inl i) = some v) (q : Q v H) : xDGet (.ref a) (.int i) H Q := ⟨a, v, rfl, by have g := dgetI (i := i) h; rw [e] at g; exact g, q⟩
theorem xdgetS (h : H a = some (.dK kvs)) (e : valV kvs (.inr z) = some v) (q : Q v H) : xDGet (.ref a) (.str z) H Q := ⟨a, v, rfl, by have g := dgetS (z := z) h; rw [e] at g; exact g, q⟩
def xIsD (x : V) (H : Hp) (P : Addr → Prop) : Prop := ∃ a, x = .ref a ∧ IsD H a ∧ P a
def xDO (a : Addr) (y : V) (H : Hp) (Q : VK) : Prop := ∃ o, DGet H a y o ∧ Q (o.getD .non) H
theorem dget1 (h : td σ H fun x H1 => xIsD x H1 fun a => ty σ H1 fun y H2 => xDO a y H2 Q) : tDGet1 td ty σ H Q := h
theorem xisd {P : Addr → Prop} (h : H a = some (.dK kvs)) (p : P a) : xIsD (.ref a) H P := ⟨a, rfl, .inl ⟨kvs, .inl h⟩, p⟩
theorem xdo (h : H a = some (.dK kvs)) (e : valV kvs (.inl i) = o) (q : Q (o.getD .non) H) : xDO a (.int i) H Q := ⟨_, dgetI h, by rw [e]; exact q⟩
def xDIn (x y : V) (H : Hp) (Q : VK) : Prop := ∃ a o, x = .ref a ∧ DGet H a y o ∧ Q (.bl o.isSome) H
theorem din (h : ty σ H fun y H1 => td σ H1 fun x H2 => xDIn x y H2 Q) : tDIn ty td σ H Q := h
theorem xdin (h : H a = some (.dK kvs)) (e : (valV kvs (.inl i)).isSome = b) (q : Q (.bl b) H) : xDIn (.ref a) (.int i) H Q := ⟨a, _, rfl, dgetI h, by rw [e]; exact q⟩
def xDPut (x y v : V) (H : Hp) (N : Hp → Prop) : Prop := ∃ a H4, x = .ref a ∧ DPut H a y v H4 ∧ N H4
theorem dput (h : tv σ H fun v H1 => td σ H1 fun x H2 => ty σ H2 fun y H3 => xDPut x y v H3 fun H4 => D.nx σ H4) : sDPut td ty tv D σ H := h
theorem small {n : Nat} (h : n ≤ 10000) : n < sizeLine := Nat.lt_of_le_of_lt h (by decide)
theorem xdput {N : Hp → Prop} (h : H a = some (.dK kvs)) (l : kvs.length ≤ 10000) (q : N (upd H a (.dK (putK kvs (.inl i) v)))) : xDPut (.ref a) (.int i) v H N := ⟨a, _, rfl, DPut.k (k := .inl i) h (small l), q⟩
theorem dnewE (q : ∀ p H', H p = none → Ex H H' → H' p = some (.dK []) → Q (.ref p) H') : tDNewK σ H Q := fun p hp => q p _ hp (Ex.new hp) upd_same
theorem dnew (q : ∀ p, H p = none → Q (.ref p) (upd H p (.dK []))) : tDNewK σ H Q := q
def rLenD : List V → Hp → VK → Prop := fun xs H Q => ∃ a kvs, xs = [.ref a] ∧ H a = some (.dK kvs) ∧ Q (.int kvs.length) H
theorem c_lenD : CallR X (.builtin "len") rLenD := call_lenD
theorem lenD (h : H a = some (.dK kvs)) (q : Q (.int kvs.length) H) : rLenD [.ref a] H Q := ⟨a, kvs, rfl, h, q⟩
theorem isB {a b : Bool} (q : Q (.bl (decide (a = b))) H) : rIsB (.bl a) (.bl b) H Q := ⟨a, b, rfl, rfl, q⟩
theorem notB {a b : Bool} (q : Q (.bl (!decide (a = b))) H) : rNotB (.bl a) (.bl b) H Q := ⟨a, b, rfl, rfl, q⟩
def xFA (K : PySem.W.Frag) (f : Str) (x : V) (H : Hp) (N : V → Addr → Addr → Prop) : Prop := ∃ (a C : Addr) (dx : Addr) (fs : List (Str × V)) (v : V), x = .ref a ∧ H a = some (.ins C dx fs) ∧ Cls K C ∧ NoAttr K C f ∧ fs.lookup f = some v ∧ N v a C
def xFB (f : Str) (a C : Addr) (z : V) (H : Hp) (N : Hp → Prop) : Prop := ∃ dx' fs', H a = some (.ins C dx' fs') ∧ fs'.length < 1000 ∧ N (upd H a (.ins C dx' (putF f z fs')))
theorem fldaug {rd : V → V → Hp → VK → Prop} {f : Str} (h : te σ H fun x H1 => xFA K f x H1 fun v a C => tv σ H1 fun y H2 => rd v y H2 fun z H3 => xFB f a C z H3 fun H4 => D.nx σ H4) : sFldAug K te tv rd f D σ H := h
theorem xfa {N : V → Addr → Addr → Prop} {f : Str} {C dx : Addr} {fs : List (Str × V)} (h : H a = some (.ins C dx fs)) (c : Cls K C) (n : NoAttr K C f) (l : fs.lookup f = some v) (q : N v a C) : xFA K f (.ref a) H N := ⟨a, C, dx, fs, v, rfl, h, c, n, l, q⟩
theorem xfb {N : Hp → Prop} {f : Str} {C dx : Addr} {fs : List (Str × V)} (h : H a = some (.ins C dx fs)) (l : fs.length < 1000) (q : N (upd H a (.ins C dx (putF f v fs)))) : xFB f a C v H N := ⟨dx, fs, h, l, q⟩
theorem radd {j : Int} (q : Q (.int (i + j)) H) : rAdd (.int i) (.int j) H Q := ⟨i, j, rfl, rfl, q⟩
theorem whl {c : TT} {tb : TS} (h : ∃ W : Nat → L2.St → Hp → Prop, (∃ m, W m σ H) ∧ ∀ m σ H, W m σ H →
  c σ H fun b H1 => if b = true then ∃ N : L2.St → Hp → Prop, (∀ σ' H', N σ' H' → ∃ m', m' < m ∧ W m' σ' H') ∧ tb { D with nx := N, ct := N, bk := D.nx } σ H1 else D.nx σ H1) : tWhile c tb D σ H := h
theorem pe_or {e : Expr} {t1 t2 : TE} (h1 : PE X e t1) (h2 : PE X e t2) : PE X e (fun σ H Q => t1 σ H Q ∨ t2 σ H Q) := ⟨fun pins s σ H Q I h => h.elim (h1.run pins s σ H Q I) (h2.run pins s σ H Q I)⟩
end
end Rd


local macro_rules | `(tactic| walk_at "hp") => `(tactic| first
  | assumption | exact L2.upd_same | (refine (by assumption : Evl.Ex _ _) _ _ ?_; walk_at "hp")
  | (refine (L2.upd_ne (by assumption)).trans ?_; walk_at "hp") | (refine (L2.upd_ne (Ne.symm (by assumption))).trans ?_; walk_at "hp") | (refine (L2.upd_ne (L2.ne_of (by assumption) (by assumption) (by intro z; cases z))).trans ?_; walk_at "hp"))
local macro_rules | `(tactic| walk_at "sq") => `(tactic| first | assumption | exact L2.SqL.of (by walk_at "hp") | exact L2.SqT.of (by walk_at "hp"))
local macro_rules | `(tactic| walk_at "rd1") => `(tactic| with_reducible first
  | refine Rd.seq ?_ | refine Rd.asg ?_ | refine Rd.gnm ?_ | refine Rd.ifS ?_ | refine Rd.ret ?_ | refine Rd.retN ?_ | refine Rd.drop ?_ | refine Rd.nxt ?_ | refine Rd.brk ?_ | refine Rd.cnt ?_
  | refine Rd.var rfl ?_ | refine Rd.c ?_ | refine Rd.op ?_ | refine Rd.i0 ?_ | refine Rd.un ?_ | refine Rd.u0 ?_
  | refine Rd.test ?_ | refine Rd.tbv ?_ | refine Rd.xt ?_ | refine Rd.andT ?_ | refine Rd.orT ?_ | refine Rd.notT ?_ | refine Rd.andV ?_ | refine Rd.orV ?_ | refine Rd.notV ?_ | refine Rd.ifE ?_ | refine Rd.chain ?_
  | refine Rd.nil ?_ | refine Rd.cons ?_ | refine Rd.cb ?_ | refine Rd.call ?_ | refine Rd.tup ?_ | refine Rd.lst ?_ | refine Rd.fld ?_ | refine Rd.meth ?_ | refine Rd.bm ?_ | refine Rd.bm0 ?_
  | refine Rd.eqI ?_ | refine Rd.neI ?_ | refine Rd.eqS ?_ | refine Rd.neS ?_ | refine Rd.isN_non ?_ | refine Rd.isN_int ?_ | refine Rd.isN_ref ?_ | refine Rd.isN_str ?_ | refine Rd.notN_non ?_ | refine Rd.notN_int ?_ | refine Rd.notN_ref ?_ | refine Rd.notN_str ?_
  | refine Rd.sl ?_ | refine Rd.poN ?_ | refine Rd.poS ?_ | refine Rd.xpart ?_ | refine Rd.ifTT ?_ | refine Rd.ifFF ?_ | refine Rd.ifNTT ?_ | refine Rd.ifNFF ?_
  | refine Rd.int ?_ | refine Rd.intB ?_ | refine Rd.abs ?_ | refine Rd.max2 ?_ | refine Rd.min2 ?_
  | refine Rd.sfld ?_ | refine Rd.forS ?_ | refine Rd.lcS ?_ | refine Rd.lcT ?_ | refine Rd.m1 ?_ | refine Rd.m0 ?_ | refine Rd.xiss ?_ | refine Rd.find ?_ | refine Rd.listRg1 ?_ | refine Rd.lcR1 ?_ | refine Rd.lcL ?_ | refine Rd.listRg2 ?_ | refine Rd.eqB ?_ | refine Rd.neB ?_ | refine Rd.make ?_ | refine Rd.forR1 ?_ | refine Rd.forR2 ?_ | refine Rd.forL ?_ | refine Rd.forT ?_ | refine Rd.par ?_ | refine Rd.par2 ?_ | refine Rd.gcons ?_ | refine Rd.gnil ?_ | refine Rd.gsub ?_ | refine Rd.ipi ?_ | refine Rd.aug rfl ?_)
local macro_rules | `(tactic| walk_at "rd2") => `(tactic| first
  | ((with_reducible refine' Rd.pw (m := 1000000) (i := 10) (j := 6) ?c1 ?e1 ?_); (case c1 => exact ⟨by decide, by decide, by decide⟩); (case e1 => decide)) | ((with_reducible refine' Rd.pw (m := 1000000000000) (i := 10) (j := 12) ?c1 ?e1 ?_); (case c1 => exact ⟨by decide, by decide, by decide⟩); (case e1 => decide)) | ((with_reducible refine' Rd.pw (m := 1000000000000000000000000000000) (i := 10) (j := 30) ?c1 ?e1 ?_); (case c1 => exact ⟨by decide, by decide, by decide⟩); (case e1 => decide))
  | ((with_reducible refine' Rd.pw (m := 10000000000000000000000000000000) (i := 10) (j := 31) ?c1 ?e1 ?_); (case c1 => exact ⟨by decide, by decide, by decide⟩); (case e1 => decide)) | ((with_reducible refine' Rd.pw (m := 10000000000000000000000000000000000000000) (i := 10) (j := 40) ?c1 ?e1 ?_); (case c1 => exact ⟨by decide, by decide, by decide⟩); (case e1 => decide)) | ((with_reducible refine' Rd.pw (m := 100000000000000000000) (i := 10) (j := 20) ?c1 ?e1 ?_); (case c1 => exact ⟨by decide, by decide, by decide⟩); (case e1 => decide)) | ((with_reducible refine' Rd.pw (m := 10000000000000000000000000000000000000000000000000000000000000000) (i := 10) (j := 64) ?c1 ?e1 ?_); (case c1 => exact ⟨by decide, by decide, by decide⟩); (case e1 => decide)) | ((with_reducible refine' Rd.pw (m := 10000) (i := 10) (j := 4) ?c1 ?e1 ?_); (case c1 => exact ⟨by decide, by decide, by decide⟩); (case e1 => decide)) | ((with_reducible refine' Rd.pw (m := 100) (i := 10) (j := 2) ?c1 ?e1 ?_); (case c1 => exact ⟨by decide, by decide, by decide⟩); (case e1 => decide))
  | (with_reducible refine' Rd.isiInt (b := true) ?k1 ?_); (case k1 => rfl)
  | (with_reducible refine' Rd.isiInt (b := false) ?k1 ?_); (case k1 => rfl)
  | (with_reducible refine' Rd.isiBl (b := true) ?k1 ?_); (case k1 => rfl)
  | (with_reducible refine' Rd.isiBl (b := false) ?k1 ?_); (case k1 => rfl)
  | (with_reducible refine' Rd.isiStr (b := true) ?k1 ?_); (case k1 => rfl)
  | (with_reducible refine' Rd.isiStr (b := false) ?k1 ?_); (case k1 => rfl)
  | (with_reducible refine' Rd.isiNon (b := true) ?k1 ?_); (case k1 => rfl)
  | (with_reducible refine' Rd.isiNon (b := false) ?k1 ?_); (case k1 => rfl)
  | (with_reducible refine' Rd.isiLst (b := true) ?h1 ?k1 ?_); (case h1 => walk_at "hp"); (case k1 => rfl)
  | (with_reducible refine' Rd.isiLst (b := false) ?h1 ?k1 ?_); (case h1 => walk_at "hp"); (case k1 => rfl)
  | (with_reducible refine' Rd.isiTup (b := true) ?h1 ?k1 ?_); (case h1 => walk_at "hp"); (case k1 => rfl)
  | (with_reducible refine' Rd.isiTup (b := false) ?h1 ?k1 ?_); (case h1 => walk_at "hp"); (case k1 => rfl)
  | (with_reducible refine' Rd.isiSqT (b := true) ?s1 ?k1 ?_); (case s1 => walk_at "sq"); (case k1 => rfl)
  | (with_reducible refine' Rd.isiSqT (b := false) ?s1 ?k1 ?_); (case s1 => walk_at "sq"); (case k1 => rfl)
  | (with_reducible refine' Rd.isiSqL (b := true) ?s1 ?k1 ?_); (case s1 => walk_at "sq"); (case k1 => rfl)
  | (with_reducible refine' Rd.isiSqL (b := false) ?s1 ?k1 ?_); (case s1 => walk_at "sq"); (case k1 => rfl)
  | (with_reducible refine' Rd.i1 ?c1 ?_); (case c1 => first | assumption | (show (0 : Int) < _; omega) | decide | exact .inl (by decide) | exact .inr (by decide) | exact .inr ⟨by omega, by omega⟩ | exact .inl ⟨by omega, by omega⟩ | exact ⟨by decide, by decide⟩)
  | (with_reducible refine' Rd.len ?s1 ?_); (case s1 => walk_at "sq")
  | (with_reducible refine' Rd.lenT ?s1 ?_); (case s1 => walk_at "sq")
  | (with_reducible refine' Rd.xtyL ?s1 ?_); (case s1 => walk_at "sq")
  | (with_reducible refine' Rd.ixL ?s1 ?a1 ?_); (case s1 => walk_at "sq"); (case a1 => rfl)
  | (with_reducible refine' Rd.ixT ?s1 ?a1 ?_); (case s1 => walk_at "sq"); (case a1 => rfl)
  | (with_reducible refine' Rd.gtup ?s1 ?n1 ?_); (case s1 => walk_at "sq"); (case n1 => rfl)
  | (with_reducible refine' Rd.rfld ?h1 ?c1 ?n1 ?l1 ?_); (case h1 => walk_at "hp"); (case c1 => assumption); (case n1 => assumption); (case l1 => walk_at "lk")
  | (with_reducible refine' Rd.xmeth ?h1 ?l1 ?_); (case h1 => walk_at "hp"); (case l1 => walk_at "lk")
  | (with_reducible refine' Rd.xst ?h1 ?c1 ?n1 ?l1 ?_); (case h1 => walk_at "hp"); (case c1 => assumption); (case n1 => assumption); (case l1 => rfl)
  | (with_reducible refine' Rd.take ?h1 ?m1 ?_); (case h1 => walk_at "hp"); (case m1 => omega)
  | ((with_reducible refine' Rd.tupOfL ?s1 ?_); (case s1 => walk_at "sq")) | ((with_reducible refine' Rd.tupOfT ?s1 ?_); (case s1 => walk_at "sq"))
  | (with_reducible refine Rd.ifT (by assumption) ?_) | (with_reducible refine Rd.ifF (by assumption) ?_) | (with_reducible refine Rd.ifNT (by assumption) ?_) | (with_reducible refine Rd.ifNF (by assumption) ?_)
  | (with_reducible refine Rd.ifT rfl ?_) | (with_reducible refine Rd.ifNF rfl ?_)
  | (with_reducible refine Rd.ifT (by omega) ?_) | (with_reducible refine Rd.ifF (by omega) ?_) | (with_reducible refine Rd.ifNT (by omega) ?_) | (with_reducible refine Rd.ifNF (by omega) ?_)
  | ((with_reducible refine Rd.ifT ?p1 ?_); (case p1 => decide +kernel)) | ((with_reducible refine Rd.ifF ?p1 ?_); (case p1 => decide +kernel)) | ((with_reducible refine Rd.ifNT ?p1 ?_); (case p1 => decide +kernel)) | ((with_reducible refine Rd.ifNF ?p1 ?_); (case p1 => decide +kernel)))
local macro_rules | `(tactic| walk_at "rd") => `(tactic| repeat (first | walk_at "rd1" | walk_at "rd2"))

local macro_rules | `(tactic| walk_at "rd1") => `(tactic| with_reducible first
  | refine Rd.dget ?_ | refine Rd.dget1 ?_ | refine Rd.din ?_ | refine Rd.dput ?_ | refine Rd.isB ?_ | refine Rd.notB ?_ | refine Rd.fldaug ?_ | refine Rd.radd ?_)
local macro_rules | `(tactic| walk_at "rd2") => `(tactic| first
  | ((with_reducible refine' Rd.lenD ?h1 ?_); (case h1 => walk_at "hp")) | ((with_reducible refine' Rd.xisd ?h1 ?_); (case h1 => walk_at "hp"))
  | ((with_reducible refine' Rd.xfa ?h1 ?c1 ?n1 ?l1 ?_); (case h1 => walk_at "hp"); (case c1 => assumption); (case n1 => assumption); (case l1 => walk_at "lk")))

namespace Toy
open PySem L2
def top (i : Nat) : Stmt := PySem.Challenge.pw_surebridge_k40_things_at_first.main.body.getD i (.Pass ⟨0, 0, 0, 0⟩)
abbrev s_law_take : Stmt := top 16
theorem sc_law_take : FnScope ["deck", "many"] ["deck", "many"] (defScope s_law_take) := ⟨rfl, rfl, rfl, by decide +kernel, rfl, by decide +kernel, by decide +kernel⟩
abbrev s_law_deck : Stmt := top 15
theorem sc_law_deck : FnScope ["script", "cells", "each", "deck", "seed", "k", "cell", "rest", "at"] ["script", "cells", "each"] (defScope s_law_deck) := ⟨rfl, rfl, rfl, by decide +kernel, rfl, by decide +kernel, by decide +kernel⟩
abbrev s_law_whole : Stmt := top 17
theorem sc_law_whole : FnScope ["value"] ["value"] (defScope s_law_whole) := ⟨rfl, rfl, rfl, by decide +kernel, rfl, by decide +kernel, by decide +kernel⟩
abbrev s_Cell_init_ : Stmt := inClass (top 3) 0
theorem sc_Cell_init_ : FnScope ["self", "serial", "maker", "content"] ["self", "serial", "maker", "content"] (defScope s_Cell_init_) := ⟨rfl, rfl, rfl, by decide +kernel, rfl, by decide +kernel, by decide +kernel⟩
abbrev s_Service_init_ : Stmt := inClass (top 4) 0
theorem sc_Service_init_ : FnScope ["self", "serial", "maker", "body"] ["self", "serial", "maker", "body"] (defScope s_Service_init_) := ⟨rfl, rfl, rfl, by decide +kernel, rfl, by decide +kernel, by decide +kernel⟩
abbrev s_Proxy_init_ : Stmt := inClass (top 5) 0
theorem sc_Proxy_init_ : FnScope ["self", "entry"] ["self", "entry"] (defScope s_Proxy_init_) := ⟨rfl, rfl, rfl, by decide +kernel, rfl, by decide +kernel, by decide +kernel⟩
abbrev s_put_in : Stmt := top 7
theorem sc_put_in : FnScope ["heap", "thing", "place"] ["heap", "thing", "place"] (defScope s_put_in) := ⟨rfl, rfl, rfl, by decide +kernel, rfl, by decide +kernel, by decide +kernel⟩
abbrev s_CountedHeap_init_ : Stmt := inClass (top 9) 0
theorem sc_CountedHeap_init_ : FnScope ["self"] ["self"] (defScope s_CountedHeap_init_) := ⟨rfl, rfl, rfl, by decide +kernel, rfl, by decide +kernel, by decide +kernel⟩
abbrev s_TracedHeap_init_ : Stmt := inClass (top 13) 0
theorem sc_TracedHeap_init_ : FnScope ["self"] ["self"] (defScope s_TracedHeap_init_) := ⟨rfl, rfl, rfl, by decide +kernel, rfl, by decide +kernel, by decide +kernel⟩
abbrev s_PlainHeap_init_ : Stmt := inClass (top 11) 0
theorem sc_PlainHeap_init_ : FnScope ["self"] ["self"] (defScope s_PlainHeap_init_) := ⟨rfl, rfl, rfl, by decide +kernel, rfl, by decide +kernel, by decide +kernel⟩
abbrev s_CountedHeap_thing : Stmt := inClass (top 9) 5
theorem sc_CountedHeap_thing : FnScope ["self", "reference"] ["self", "reference"] (defScope s_CountedHeap_thing) := ⟨rfl, rfl, rfl, by decide +kernel, rfl, by decide +kernel, by decide +kernel⟩
abbrev s_CountedHeap_where : Stmt := inClass (top 9) 12
theorem sc_CountedHeap_where : FnScope ["self", "serial"] ["self", "serial"] (defScope s_CountedHeap_where) := ⟨rfl, rfl, rfl, by decide +kernel, rfl, by decide +kernel, by decide +kernel⟩
abbrev s_CountedHeap_where_proxy : Stmt := inClass (top 9) 13
theorem sc_CountedHeap_where_proxy : FnScope ["self", "entry"] ["self", "entry"] (defScope s_CountedHeap_where_proxy) := ⟨rfl, rfl, rfl, by decide +kernel, rfl, by decide +kernel, by decide +kernel⟩
abbrev s_TracedHeap_thing : Stmt := inClass (top 13) 5
theorem sc_TracedHeap_thing : FnScope ["self", "reference"] ["self", "reference"] (defScope s_TracedHeap_thing) := ⟨rfl, rfl, rfl, by decide +kernel, rfl, by decide +kernel, by decide +kernel⟩
abbrev s_TracedHeap_where : Stmt := inClass (top 13) 10
theorem sc_TracedHeap_where : FnScope ["self", "serial"] ["self", "serial"] (defScope s_TracedHeap_where) := ⟨rfl, rfl, rfl, by decide +kernel, rfl, by decide +kernel, by decide +kernel⟩
abbrev s_TracedHeap_where_proxy : Stmt := inClass (top 13) 11
theorem sc_TracedHeap_where_proxy : FnScope ["self", "entry"] ["self", "entry"] (defScope s_TracedHeap_where_proxy) := ⟨rfl, rfl, rfl, by decide +kernel, rfl, by decide +kernel, by decide +kernel⟩
abbrev s_PlainHeap_thing : Stmt := inClass (top 11) 4
theorem sc_PlainHeap_thing : FnScope ["self", "reference"] ["self", "reference"] (defScope s_PlainHeap_thing) := ⟨rfl, rfl, rfl, by decide +kernel, rfl, by decide +kernel, by decide +kernel⟩
abbrev s_PlainHeap_where : Stmt := inClass (top 11) 9
theorem sc_PlainHeap_where : FnScope ["self", "serial"] ["self", "serial"] (defScope s_PlainHeap_where) := ⟨rfl, rfl, rfl, by decide +kernel, rfl, by decide +kernel, by decide +kernel⟩
abbrev s_PlainHeap_where_proxy : Stmt := inClass (top 11) 10
theorem sc_PlainHeap_where_proxy : FnScope ["self", "entry"] ["self", "entry"] (defScope s_PlainHeap_where_proxy) := ⟨rfl, rfl, rfl, by decide +kernel, rfl, by decide +kernel, by decide +kernel⟩
abbrev s_CountedHeap_add : Stmt := inClass (top 9) 1
theorem sc_CountedHeap_add : FnScope ["self", "thing"] ["self", "thing"] (defScope s_CountedHeap_add) := ⟨rfl, rfl, rfl, by decide +kernel, rfl, by decide +kernel, by decide +kernel⟩
abbrev s_CountedHeap_make_cell : Stmt := inClass (top 9) 2
theorem sc_CountedHeap_make_cell : FnScope ["self", "serial", "maker", "content"] ["self", "serial", "maker", "content"] (defScope s_CountedHeap_make_cell) := ⟨rfl, rfl, rfl, by decide +kernel, rfl, by decide +kernel, by decide +kernel⟩
abbrev s_CountedHeap_make_service : Stmt := inClass (top 9) 3
theorem sc_CountedHeap_make_service : FnScope ["self", "serial", "maker", "body"] ["self", "serial", "maker", "body"] (defScope s_CountedHeap_make_service) := ⟨rfl, rfl, rfl, by decide +kernel, rfl, by decide +kernel, by decide +kernel⟩
abbrev s_CountedHeap_make_proxy : Stmt := inClass (top 9) 4
theorem sc_CountedHeap_make_proxy : FnScope ["self", "entry"] ["self", "entry"] (defScope s_CountedHeap_make_proxy) := ⟨rfl, rfl, rfl, by decide +kernel, rfl, by decide +kernel, by decide +kernel⟩
abbrev s_TracedHeap_new_place : Stmt := inClass (top 13) 1
theorem sc_TracedHeap_new_place : FnScope ["self"] ["self"] (defScope s_TracedHeap_new_place) := ⟨rfl, rfl, rfl, by decide +kernel, rfl, by decide +kernel, by decide +kernel⟩
abbrev s_TracedHeap_make_cell : Stmt := inClass (top 13) 2
theorem sc_TracedHeap_make_cell : FnScope ["self", "serial", "maker", "content"] ["self", "serial", "maker", "content"] (defScope s_TracedHeap_make_cell) := ⟨rfl, rfl, rfl, by decide +kernel, rfl, by decide +kernel, by decide +kernel⟩
abbrev s_TracedHeap_make_service : Stmt := inClass (top 13) 3
theorem sc_TracedHeap_make_service : FnScope ["self", "serial", "maker", "body"] ["self", "serial", "maker", "body"] (defScope s_TracedHeap_make_service) := ⟨rfl, rfl, rfl, by decide +kernel, rfl, by decide +kernel, by decide +kernel⟩
abbrev s_TracedHeap_make_proxy : Stmt := inClass (top 13) 4
theorem sc_TracedHeap_make_proxy : FnScope ["self", "entry"] ["self", "entry"] (defScope s_TracedHeap_make_proxy) := ⟨rfl, rfl, rfl, by decide +kernel, rfl, by decide +kernel, by decide +kernel⟩
abbrev s_PlainHeap_make_cell : Stmt := inClass (top 11) 1
theorem sc_PlainHeap_make_cell : FnScope ["self", "serial", "maker", "content"] ["self", "serial", "maker", "content"] (defScope s_PlainHeap_make_cell) := ⟨rfl, rfl, rfl, by decide +kernel, rfl, by decide +kernel, by decide +kernel⟩
abbrev s_PlainHeap_make_service : Stmt := inClass (top 11) 2
theorem sc_PlainHeap_make_service : FnScope ["self", "serial", "maker", "body"] ["self", "serial", "maker", "body"] (defScope s_PlainHeap_make_service) := ⟨rfl, rfl, rfl, by decide +kernel, rfl, by decide +kernel, by decide +kernel⟩
abbrev s_PlainHeap_make_proxy : Stmt := inClass (top 11) 3
theorem sc_PlainHeap_make_proxy : FnScope ["self", "entry"] ["self", "entry"] (defScope s_PlainHeap_make_proxy) := ⟨rfl, rfl, rfl, by decide +kernel, rfl, by decide +kernel, by decide +kernel⟩
abbrev s_law_content : Stmt := top 18
theorem sc_law_content : FnScope ["deck", "kind", "number"] ["deck"] (defScope s_law_content) := ⟨rfl, rfl, rfl, by decide +kernel, rfl, by decide +kernel, by decide +kernel⟩
abbrev s_law_new : Stmt := top 19
theorem sc_law_new : FnScope ["thing", "place", "references"] ["thing", "place", "references"] (defScope s_law_new) := ⟨rfl, rfl, rfl, by decide +kernel, rfl, by decide +kernel, by decide +kernel⟩
abbrev s_law_cell : Stmt := top 20
theorem sc_law_cell : FnScope ["thing", "serial", "maker", "content"] ["thing", "serial", "maker", "content"] (defScope s_law_cell) := ⟨rfl, rfl, rfl, by decide +kernel, rfl, by decide +kernel, by decide +kernel⟩
abbrev s_law_service : Stmt := top 21
theorem sc_law_service : FnScope ["thing", "serial", "maker", "body"] ["thing", "serial", "maker", "body"] (defScope s_law_service) := ⟨rfl, rfl, rfl, by decide +kernel, rfl, by decide +kernel, by decide +kernel⟩
abbrev s_law_proxy : Stmt := top 22
theorem sc_law_proxy : FnScope ["thing", "entry"] ["thing", "entry"] (defScope s_law_proxy) := ⟨rfl, rfl, rfl, by decide +kernel, rfl, by decide +kernel, by decide +kernel⟩
abbrev s_is_reference : Stmt := top 6
theorem sc_is_reference : FnScope ["value"] ["value"] (defScope s_is_reference) := ⟨rfl, rfl, rfl, by decide +kernel, rfl, by decide +kernel, by decide +kernel⟩
abbrev s_law_heap : Stmt := top 23
theorem sc_law_heap : FnScope ["deck", "heap", "step", "references", "serial", "maker", "content", "body", "entry", "first", "second", "third"] ["deck", "heap", "step", "references"] (defScope s_law_heap) := ⟨rfl, rfl, rfl, by decide +kernel, rfl, by decide +kernel, by decide +kernel⟩
abbrev s_law : Stmt := top 24
theorem sc_law : FnScope ["script", "deck", "content", "cell", "service", "proxy", "value"] ["script"] (defScope s_law) := ⟨rfl, rfl, rfl, by decide +kernel, rfl, by decide +kernel, by decide +kernel⟩
/-- where things stand -/
structure Ad where
  a_law_take : Addr
  d_law_take : FuncData
  a_law_deck : Addr
  d_law_deck : FuncData
  a_law_whole : Addr
  d_law_whole : FuncData
  a_Cell_init_ : Addr
  d_Cell_init_ : FuncData
  a_Service_init_ : Addr
  d_Service_init_ : FuncData
  a_Proxy_init_ : Addr
  d_Proxy_init_ : FuncData
  a_put_in : Addr
  d_put_in : FuncData
  a_CountedHeap_init_ : Addr
  d_CountedHeap_init_ : FuncData
  a_TracedHeap_init_ : Addr
  d_TracedHeap_init_ : FuncData
  a_PlainHeap_init_ : Addr
  d_PlainHeap_init_ : FuncData
  a_CountedHeap_thing : Addr
  d_CountedHeap_thing : FuncData
  a_CountedHeap_where : Addr
  d_CountedHeap_where : FuncData
  a_CountedHeap_where_proxy : Addr
  d_CountedHeap_where_proxy : FuncData
  a_TracedHeap_thing : Addr
  d_TracedHeap_thing : FuncData
  a_TracedHeap_where : Addr
  d_TracedHeap_where : FuncData
  a_TracedHeap_where_proxy : Addr
  d_TracedHeap_where_proxy : FuncData
  a_PlainHeap_thing : Addr
  d_PlainHeap_thing : FuncData
  a_PlainHeap_where : Addr
  d_PlainHeap_where : FuncData
  a_PlainHeap_where_proxy : Addr
  d_PlainHeap_where_proxy : FuncData
  a_CountedHeap_add : Addr
  d_CountedHeap_add : FuncData
  a_CountedHeap_make_cell : Addr
  d_CountedHeap_make_cell : FuncData
  a_CountedHeap_make_service : Addr
  d_CountedHeap_make_service : FuncData
  a_CountedHeap_make_proxy : Addr
  d_CountedHeap_make_proxy : FuncData
  a_TracedHeap_new_place : Addr
  d_TracedHeap_new_place : FuncData
  a_TracedHeap_make_cell : Addr
  d_TracedHeap_make_cell : FuncData
  a_TracedHeap_make_service : Addr
  d_TracedHeap_make_service : FuncData
  a_TracedHeap_make_proxy : Addr
  d_TracedHeap_make_proxy : FuncData
  a_PlainHeap_make_cell : Addr
  d_PlainHeap_make_cell : FuncData
  a_PlainHeap_make_service : Addr
  d_PlainHeap_make_service : FuncData
  a_PlainHeap_make_proxy : Addr
  d_PlainHeap_make_proxy : FuncData
  a_law_content : Addr
  d_law_content : FuncData
  a_law_new : Addr
  d_law_new : FuncData
  a_law_cell : Addr
  d_law_cell : FuncData
  a_law_service : Addr
  d_law_service : FuncData
  a_law_proxy : Addr
  d_law_proxy : FuncData
  a_is_reference : Addr
  d_is_reference : FuncData
  a_law_heap : Addr
  d_law_heap : FuncData
  a_law : Addr
  d_law : FuncData
  c_Cell : Addr
  c_CountedHeap : Addr
  c_PlainHeap : Addr
  c_Proxy : Addr
  c_Service : Addr
  c_TracedHeap : Addr
/-- what the top has written -/
structure Txt (K : PySem.W.Frag) (mg : Str → Option Value) (ad : Ad) : Prop where
  F_law_take : Fun K "_law_take" "_law_take" s_law_take ad.a_law_take ad.d_law_take
  b_law_take : Binds K ad.d_law_take ["deck", "many"] []
  m_law_take : mg "_law_take" = some (.ref ad.a_law_take)
  F_law_deck : Fun K "_law_deck" "_law_deck" s_law_deck ad.a_law_deck ad.d_law_deck
  b_law_deck : Binds K ad.d_law_deck ["script", "cells", "each"] []
  m_law_deck : mg "_law_deck" = some (.ref ad.a_law_deck)
  F_law_whole : Fun K "_law_whole" "_law_whole" s_law_whole ad.a_law_whole ad.d_law_whole
  b_law_whole : Binds K ad.d_law_whole ["value"] []
  m_law_whole : mg "_law_whole" = some (.ref ad.a_law_whole)
  F_Cell_init_ : Fun K "__init__" "Cell.__init__" s_Cell_init_ ad.a_Cell_init_ ad.d_Cell_init_
  b_Cell_init_ : Binds K ad.d_Cell_init_ ["self", "serial", "maker", "content"] []
  F_Service_init_ : Fun K "__init__" "Service.__init__" s_Service_init_ ad.a_Service_init_ ad.d_Service_init_
  b_Service_init_ : Binds K ad.d_Service_init_ ["self", "serial", "maker", "body"] []
  F_Proxy_init_ : Fun K "__init__" "Proxy.__init__" s_Proxy_init_ ad.a_Proxy_init_ ad.d_Proxy_init_
  b_Proxy_init_ : Binds K ad.d_Proxy_init_ ["self", "entry"] []
  F_put_in : Fun K "put_in" "put_in" s_put_in ad.a_put_in ad.d_put_in
  b_put_in : Binds K ad.d_put_in ["heap", "thing", "place"] []
  m_put_in : mg "put_in" = some (.ref ad.a_put_in)
  F_CountedHeap_init_ : Fun K "__init__" "CountedHeap.__init__" s_CountedHeap_init_ ad.a_CountedHeap_init_ ad.d_CountedHeap_init_
  b_CountedHeap_init_ : Binds K ad.d_CountedHeap_init_ ["self"] []
  F_TracedHeap_init_ : Fun K "__init__" "TracedHeap.__init__" s_TracedHeap_init_ ad.a_TracedHeap_init_ ad.d_TracedHeap_init_
  b_TracedHeap_init_ : Binds K ad.d_TracedHeap_init_ ["self"] []
  F_PlainHeap_init_ : Fun K "__init__" "PlainHeap.__init__" s_PlainHeap_init_ ad.a_PlainHeap_init_ ad.d_PlainHeap_init_
  b_PlainHeap_init_ : Binds K ad.d_PlainHeap_init_ ["self"] []
  F_CountedHeap_thing : Fun K "thing" "CountedHeap.thing" s_CountedHeap_thing ad.a_CountedHeap_thing ad.d_CountedHeap_thing
  b_CountedHeap_thing : Binds K ad.d_CountedHeap_thing ["self", "reference"] []
  me_CountedHeap_thing : Meth K ad.c_CountedHeap "thing" ad.a_CountedHeap_thing
  F_CountedHeap_where : Fun K "where" "CountedHeap.where" s_CountedHeap_where ad.a_CountedHeap_where ad.d_CountedHeap_where
  b_CountedHeap_where : Binds K ad.d_CountedHeap_where ["self", "serial"] []
  me_CountedHeap_where : Meth K ad.c_CountedHeap "where" ad.a_CountedHeap_where
  F_CountedHeap_where_proxy : Fun K "where_proxy" "CountedHeap.where_proxy" s_CountedHeap_where_proxy ad.a_CountedHeap_where_proxy ad.d_CountedHeap_where_proxy
  b_CountedHeap_where_proxy : Binds K ad.d_CountedHeap_where_proxy ["self", "entry"] []
  me_CountedHeap_where_proxy : Meth K ad.c_CountedHeap "where_proxy" ad.a_CountedHeap_where_proxy
  F_TracedHeap_thing : Fun K "thing" "TracedHeap.thing" s_TracedHeap_thing ad.a_TracedHeap_thing ad.d_TracedHeap_thing
  b_TracedHeap_thing : Binds K ad.d_TracedHeap_thing ["self", "reference"] []
  me_TracedHeap_thing : Meth K ad.c_TracedHeap "thing" ad.a_TracedHeap_thing
  F_TracedHeap_where : Fun K "where" "TracedHeap.where" s_TracedHeap_where ad.a_TracedHeap_where ad.d_TracedHeap_where
  b_TracedHeap_where : Binds K ad.d_TracedHeap_where ["self", "serial"] []
  me_TracedHeap_where : Meth K ad.c_TracedHeap "where" ad.a_TracedHeap_where
  F_TracedHeap_where_proxy : Fun K "where_proxy" "TracedHeap.where_proxy" s_TracedHeap_where_proxy ad.a_TracedHeap_where_proxy ad.d_TracedHeap_where_proxy
  b_TracedHeap_where_proxy : Binds K ad.d_TracedHeap_where_proxy ["self", "entry"] []
  me_TracedHeap_where_proxy : Meth K ad.c_TracedHeap "where_proxy" ad.a_TracedHeap_where_proxy
  F_PlainHeap_thing : Fun K "thing" "PlainHeap.thing" s_PlainHeap_thing ad.a_PlainHeap_thing ad.d_PlainHeap_thing
  b_PlainHeap_thing : Binds K ad.d_PlainHeap_thing ["self", "reference"] []
  me_PlainHeap_thing : Meth K ad.c_PlainHeap "thing" ad.a_PlainHeap_thing
  F_PlainHeap_where : Fun K "where" "PlainHeap.where" s_PlainHeap_where ad.a_PlainHeap_where ad.d_PlainHeap_where
  b_PlainHeap_where : Binds K ad.d_PlainHeap_where ["self", "serial"] []
  me_PlainHeap_where : Meth K ad.c_PlainHeap "where" ad.a_PlainHeap_where
  F_PlainHeap_where_proxy : Fun K "where_proxy" "PlainHeap.where_proxy" s_PlainHeap_where_proxy ad.a_PlainHeap_where_proxy ad.d_PlainHeap_where_proxy
  b_PlainHeap_where_proxy : Binds K ad.d_PlainHeap_where_proxy ["self", "entry"] []
  me_PlainHeap_where_proxy : Meth K ad.c_PlainHeap "where_proxy" ad.a_PlainHeap_where_proxy
  F_CountedHeap_add : Fun K "_add" "CountedHeap._add" s_CountedHeap_add ad.a_CountedHeap_add ad.d_CountedHeap_add
  b_CountedHeap_add : Binds K ad.d_CountedHeap_add ["self", "thing"] []
  me_CountedHeap_add : Meth K ad.c_CountedHeap "_add" ad.a_CountedHeap_add
  F_CountedHeap_make_cell : Fun K "make_cell" "CountedHeap.make_cell" s_CountedHeap_make_cell ad.a_CountedHeap_make_cell ad.d_CountedHeap_make_cell
  b_CountedHeap_make_cell : Binds K ad.d_CountedHeap_make_cell ["self", "serial", "maker", "content"] []
  me_CountedHeap_make_cell : Meth K ad.c_CountedHeap "make_cell" ad.a_CountedHeap_make_cell
  F_CountedHeap_make_service : Fun K "make_service" "CountedHeap.make_service" s_CountedHeap_make_service ad.a_CountedHeap_make_service ad.d_CountedHeap_make_service
  b_CountedHeap_make_service : Binds K ad.d_CountedHeap_make_service ["self", "serial", "maker", "body"] []
  me_CountedHeap_make_service : Meth K ad.c_CountedHeap "make_service" ad.a_CountedHeap_make_service
  F_CountedHeap_make_proxy : Fun K "make_proxy" "CountedHeap.make_proxy" s_CountedHeap_make_proxy ad.a_CountedHeap_make_proxy ad.d_CountedHeap_make_proxy
  b_CountedHeap_make_proxy : Binds K ad.d_CountedHeap_make_proxy ["self", "entry"] []
  me_CountedHeap_make_proxy : Meth K ad.c_CountedHeap "make_proxy" ad.a_CountedHeap_make_proxy
  F_TracedHeap_new_place : Fun K "new_place" "TracedHeap.new_place" s_TracedHeap_new_place ad.a_TracedHeap_new_place ad.d_TracedHeap_new_place
  b_TracedHeap_new_place : Binds K ad.d_TracedHeap_new_place ["self"] []
  me_TracedHeap_new_place : Meth K ad.c_TracedHeap "new_place" ad.a_TracedHeap_new_place
  F_TracedHeap_make_cell : Fun K "make_cell" "TracedHeap.make_cell" s_TracedHeap_make_cell ad.a_TracedHeap_make_cell ad.d_TracedHeap_make_cell
  b_TracedHeap_make_cell : Binds K ad.d_TracedHeap_make_cell ["self", "serial", "maker", "content"] []
  me_TracedHeap_make_cell : Meth K ad.c_TracedHeap "make_cell" ad.a_TracedHeap_make_cell
  F_TracedHeap_make_service : Fun K "make_service" "TracedHeap.make_service" s_TracedHeap_make_service ad.a_TracedHeap_make_service ad.d_TracedHeap_make_service
  b_TracedHeap_make_service : Binds K ad.d_TracedHeap_make_service ["self", "serial", "maker", "body"] []
  me_TracedHeap_make_service : Meth K ad.c_TracedHeap "make_service" ad.a_TracedHeap_make_service
  F_TracedHeap_make_proxy : Fun K "make_proxy" "TracedHeap.make_proxy" s_TracedHeap_make_proxy ad.a_TracedHeap_make_proxy ad.d_TracedHeap_make_proxy
  b_TracedHeap_make_proxy : Binds K ad.d_TracedHeap_make_proxy ["self", "entry"] []
  me_TracedHeap_make_proxy : Meth K ad.c_TracedHeap "make_proxy" ad.a_TracedHeap_make_proxy
  F_PlainHeap_make_cell : Fun K "make_cell" "PlainHeap.make_cell" s_PlainHeap_make_cell ad.a_PlainHeap_make_cell ad.d_PlainHeap_make_cell
  b_PlainHeap_make_cell : Binds K ad.d_PlainHeap_make_cell ["self", "serial", "maker", "content"] []
  me_PlainHeap_make_cell : Meth K ad.c_PlainHeap "make_cell" ad.a_PlainHeap_make_cell
  F_PlainHeap_make_service : Fun K "make_service" "PlainHeap.make_service" s_PlainHeap_make_service ad.a_PlainHeap_make_service ad.d_PlainHeap_make_service
  b_PlainHeap_make_service : Binds K ad.d_PlainHeap_make_service ["self", "serial", "maker", "body"] []
  me_PlainHeap_make_service : Meth K ad.c_PlainHeap "make_service" ad.a_PlainHeap_make_service
  F_PlainHeap_make_proxy : Fun K "make_proxy" "PlainHeap.make_proxy" s_PlainHeap_make_proxy ad.a_PlainHeap_make_proxy ad.d_PlainHeap_make_proxy
  b_PlainHeap_make_proxy : Binds K ad.d_PlainHeap_make_proxy ["self", "entry"] []
  me_PlainHeap_make_proxy : Meth K ad.c_PlainHeap "make_proxy" ad.a_PlainHeap_make_proxy
  F_law_content : Fun K "_law_content" "_law_content" s_law_content ad.a_law_content ad.d_law_content
  b_law_content : Binds K ad.d_law_content ["deck"] []
  m_law_content : mg "_law_content" = some (.ref ad.a_law_content)
  F_law_new : Fun K "_law_new" "_law_new" s_law_new ad.a_law_new ad.d_law_new
  b_law_new : Binds K ad.d_law_new ["thing", "place", "references"] []
  m_law_new : mg "_law_new" = some (.ref ad.a_law_new)
  F_law_cell : Fun K "_law_cell" "_law_cell" s_law_cell ad.a_law_cell ad.d_law_cell
  b_law_cell : Binds K ad.d_law_cell ["thing", "serial", "maker", "content"] []
  m_law_cell : mg "_law_cell" = some (.ref ad.a_law_cell)
  F_law_service : Fun K "_law_service" "_law_service" s_law_service ad.a_law_service ad.d_law_service
  b_law_service : Binds K ad.d_law_service ["thing", "serial", "maker", "body"] []
  m_law_service : mg "_law_service" = some (.ref ad.a_law_service)
  F_law_proxy : Fun K "_law_proxy" "_law_proxy" s_law_proxy ad.a_law_proxy ad.d_law_proxy
  b_law_proxy : Binds K ad.d_law_proxy ["thing", "entry"] []
  m_law_proxy : mg "_law_proxy" = some (.ref ad.a_law_proxy)
  F_is_reference : Fun K "is_reference" "is_reference" s_is_reference ad.a_is_reference ad.d_is_reference
  b_is_reference : Binds K ad.d_is_reference ["value"] []
  m_is_reference : mg "is_reference" = some (.ref ad.a_is_reference)
  F_law_heap : Fun K "_law_heap" "_law_heap" s_law_heap ad.a_law_heap ad.d_law_heap
  b_law_heap : Binds K ad.d_law_heap ["deck", "heap", "step", "references"] []
  m_law_heap : mg "_law_heap" = some (.ref ad.a_law_heap)
  F_law : Fun K "law" "law" s_law ad.a_law ad.d_law
  b_law : Binds K ad.d_law ["script"] []
  m_law : mg "law" = some (.ref ad.a_law)
  cl_Cell : Cls K ad.c_Cell
  mg_Cell : mg "Cell" = some (.ref ad.c_Cell)
  mk_Cell : Mk K ad.c_Cell ad.a_Cell_init_
  n_Cell_content : NoAttr K ad.c_Cell "content"
  n_Cell_link : NoAttr K ad.c_Cell "link"
  n_Cell_maker : NoAttr K ad.c_Cell "maker"
  n_Cell_place : NoAttr K ad.c_Cell "place"
  n_Cell_references : NoAttr K ad.c_Cell "references"
  n_Cell_serial : NoAttr K ad.c_Cell "serial"
  cl_CountedHeap : Cls K ad.c_CountedHeap
  mg_CountedHeap : mg "CountedHeap" = some (.ref ad.c_CountedHeap)
  mk_CountedHeap : Mk K ad.c_CountedHeap ad.a_CountedHeap_init_
  n_CountedHeap_places : NoAttr K ad.c_CountedHeap "places"
  n_CountedHeap_proxies : NoAttr K ad.c_CountedHeap "proxies"
  n_CountedHeap_serials : NoAttr K ad.c_CountedHeap "serials"
  n_CountedHeap_vacant : NoAttr K ad.c_CountedHeap "vacant"
  cl_PlainHeap : Cls K ad.c_PlainHeap
  mg_PlainHeap : mg "PlainHeap" = some (.ref ad.c_PlainHeap)
  mk_PlainHeap : Mk K ad.c_PlainHeap ad.a_PlainHeap_init_
  n_PlainHeap_places : NoAttr K ad.c_PlainHeap "places"
  n_PlainHeap_proxies : NoAttr K ad.c_PlainHeap "proxies"
  n_PlainHeap_serials : NoAttr K ad.c_PlainHeap "serials"
  cl_Proxy : Cls K ad.c_Proxy
  mg_Proxy : mg "Proxy" = some (.ref ad.c_Proxy)
  mk_Proxy : Mk K ad.c_Proxy ad.a_Proxy_init_
  n_Proxy_entry : NoAttr K ad.c_Proxy "entry"
  n_Proxy_link : NoAttr K ad.c_Proxy "link"
  n_Proxy_maker : NoAttr K ad.c_Proxy "maker"
  n_Proxy_place : NoAttr K ad.c_Proxy "place"
  n_Proxy_references : NoAttr K ad.c_Proxy "references"
  n_Proxy_serial : NoAttr K ad.c_Proxy "serial"
  cl_Service : Cls K ad.c_Service
  mg_Service : mg "Service" = some (.ref ad.c_Service)
  mk_Service : Mk K ad.c_Service ad.a_Service_init_
  n_Service_body : NoAttr K ad.c_Service "body"
  n_Service_link : NoAttr K ad.c_Service "link"
  n_Service_maker : NoAttr K ad.c_Service "maker"
  n_Service_place : NoAttr K ad.c_Service "place"
  n_Service_references : NoAttr K ad.c_Service "references"
  n_Service_serial : NoAttr K ad.c_Service "serial"
  cl_TracedHeap : Cls K ad.c_TracedHeap
  mg_TracedHeap : mg "TracedHeap" = some (.ref ad.c_TracedHeap)
  mk_TracedHeap : Mk K ad.c_TracedHeap ad.a_TracedHeap_init_
  n_TracedHeap_next_index : NoAttr K ad.c_TracedHeap "next_index"
  n_TracedHeap_places : NoAttr K ad.c_TracedHeap "places"
  n_TracedHeap_proxies : NoAttr K ad.c_TracedHeap "proxies"
  n_TracedHeap_serials : NoAttr K ad.c_TracedHeap "serials"
  n_TracedHeap_space : NoAttr K ad.c_TracedHeap "space"
  kt_Cell_Cell : PySem.W.kitOne K (.ref ad.c_Cell) (.ref ad.c_Cell) = some true
  kt_Cell_Service : PySem.W.kitOne K (.ref ad.c_Cell) (.ref ad.c_Service) = some false
  kt_Cell_Proxy : PySem.W.kitOne K (.ref ad.c_Cell) (.ref ad.c_Proxy) = some false
  kt_Service_Cell : PySem.W.kitOne K (.ref ad.c_Service) (.ref ad.c_Cell) = some false
  kt_Service_Service : PySem.W.kitOne K (.ref ad.c_Service) (.ref ad.c_Service) = some true
  kt_Service_Proxy : PySem.W.kitOne K (.ref ad.c_Service) (.ref ad.c_Proxy) = some false
  kt_Proxy_Cell : PySem.W.kitOne K (.ref ad.c_Proxy) (.ref ad.c_Cell) = some false
  kt_Proxy_Service : PySem.W.kitOne K (.ref ad.c_Proxy) (.ref ad.c_Service) = some false
  kt_Proxy_Proxy : PySem.W.kitOne K (.ref ad.c_Proxy) (.ref ad.c_Proxy) = some true
  is_Cell : PySem.W.findIn K (.ref ad.c_Cell) "__class__" = some (some (.builtin "object.__class__"))
  io_Cell : PySem.W.mroIn K ad.c_Cell (.type "object") = some true
  is_Service : PySem.W.findIn K (.ref ad.c_Service) "__class__" = some (some (.builtin "object.__class__"))
  io_Service : PySem.W.mroIn K ad.c_Service (.type "object") = some true
  is_Proxy : PySem.W.findIn K (.ref ad.c_Proxy) "__class__" = some (some (.builtin "object.__class__"))
  io_Proxy : PySem.W.mroIn K ad.c_Proxy (.type "object") = some true
  is_get : PySem.W.specialIn K (.builtin "object.__class__") "__get__" = some (some (.builtin "getset_descriptor.__get__"))
  is_tk : PySem.W.takesIn K (.builtin "object.__class__") = some true
  z_abs : mg "abs" = none
  z_bool : mg "bool" = none
  z_int : mg "int" = none
  z_isinstance : mg "isinstance" = none
  z_len : mg "len" = none
  z_range : mg "range" = none
/-- the fields of Cell, in order -/
def fs_Cell (v_serial v_maker v_content v_place v_link v_references : V) : List (Str × V) := [("serial", v_serial), ("maker", v_maker), ("content", v_content), ("place", v_place), ("link", v_link), ("references", v_references)]
theorem lk_Cell_serial (v_serial v_maker v_content v_place v_link v_references : V) : (fs_Cell v_serial v_maker v_content v_place v_link v_references).lookup ("serial" : Str) = some v_serial := by rfl
theorem lk_Cell_maker (v_serial v_maker v_content v_place v_link v_references : V) : (fs_Cell v_serial v_maker v_content v_place v_link v_references).lookup ("maker" : Str) = some v_maker := by rfl
theorem lk_Cell_content (v_serial v_maker v_content v_place v_link v_references : V) : (fs_Cell v_serial v_maker v_content v_place v_link v_references).lookup ("content" : Str) = some v_content := by rfl
theorem lk_Cell_place (v_serial v_maker v_content v_place v_link v_references : V) : (fs_Cell v_serial v_maker v_content v_place v_link v_references).lookup ("place" : Str) = some v_place := by rfl
theorem lk_Cell_link (v_serial v_maker v_content v_place v_link v_references : V) : (fs_Cell v_serial v_maker v_content v_place v_link v_references).lookup ("link" : Str) = some v_link := by rfl
theorem lk_Cell_references (v_serial v_maker v_content v_place v_link v_references : V) : (fs_Cell v_serial v_maker v_content v_place v_link v_references).lookup ("references" : Str) = some v_references := by rfl
theorem pf_Cell_serial (v_serial : V) : putF "serial" v_serial ([] : List (Str × V)) = [(("serial" : Str), v_serial)] := by rfl
theorem pf_Cell_maker (v_serial v_maker : V) : putF "maker" v_maker ([(("serial" : Str), v_serial)] : List (Str × V)) = [(("serial" : Str), v_serial), (("maker" : Str), v_maker)] := by rfl
theorem pf_Cell_content (v_serial v_maker v_content : V) : putF "content" v_content ([(("serial" : Str), v_serial), (("maker" : Str), v_maker)] : List (Str × V)) = [(("serial" : Str), v_serial), (("maker" : Str), v_maker), (("content" : Str), v_content)] := by rfl
theorem pf_Cell_place (v_serial v_maker v_content v_place : V) : putF "place" v_place ([(("serial" : Str), v_serial), (("maker" : Str), v_maker), (("content" : Str), v_content)] : List (Str × V)) = [(("serial" : Str), v_serial), (("maker" : Str), v_maker), (("content" : Str), v_content), (("place" : Str), v_place)] := by rfl
theorem pf_Cell_link (v_serial v_maker v_content v_place v_link : V) : putF "link" v_link ([(("serial" : Str), v_serial), (("maker" : Str), v_maker), (("content" : Str), v_content), (("place" : Str), v_place)] : List (Str × V)) = [(("serial" : Str), v_serial), (("maker" : Str), v_maker), (("content" : Str), v_content), (("place" : Str), v_place), (("link" : Str), v_link)] := by rfl
theorem pf_Cell_references (v_serial v_maker v_content v_place v_link v_references : V) : putF "references" v_references ([(("serial" : Str), v_serial), (("maker" : Str), v_maker), (("content" : Str), v_content), (("place" : Str), v_place), (("link" : Str), v_link)] : List (Str × V)) = fs_Cell v_serial v_maker v_content v_place v_link v_references := by rfl
theorem st_Cell_serial (v_serial v_maker v_content v_place v_link v_references w : V) : putF "serial" w (fs_Cell v_serial v_maker v_content v_place v_link v_references) = fs_Cell w v_maker v_content v_place v_link v_references := by rfl
theorem st_Cell_maker (v_serial v_maker v_content v_place v_link v_references w : V) : putF "maker" w (fs_Cell v_serial v_maker v_content v_place v_link v_references) = fs_Cell v_serial w v_content v_place v_link v_references := by rfl
theorem st_Cell_content (v_serial v_maker v_content v_place v_link v_references w : V) : putF "content" w (fs_Cell v_serial v_maker v_content v_place v_link v_references) = fs_Cell v_serial v_maker w v_place v_link v_references := by rfl
theorem st_Cell_place (v_serial v_maker v_content v_place v_link v_references w : V) : putF "place" w (fs_Cell v_serial v_maker v_content v_place v_link v_references) = fs_Cell v_serial v_maker v_content w v_link v_references := by rfl
theorem st_Cell_link (v_serial v_maker v_content v_place v_link v_references w : V) : putF "link" w (fs_Cell v_serial v_maker v_content v_place v_link v_references) = fs_Cell v_serial v_maker v_content v_place w v_references := by rfl
theorem st_Cell_references (v_serial v_maker v_content v_place v_link v_references w : V) : putF "references" w (fs_Cell v_serial v_maker v_content v_place v_link v_references) = fs_Cell v_serial v_maker v_content v_place v_link w := by rfl
local macro_rules | `(tactic| walk_at "lk") => `(tactic| with_reducible first | exact Toy.lk_Cell_serial _ _ _ _ _ _ | exact Toy.lk_Cell_maker _ _ _ _ _ _ | exact Toy.lk_Cell_content _ _ _ _ _ _ | exact Toy.lk_Cell_place _ _ _ _ _ _ | exact Toy.lk_Cell_link _ _ _ _ _ _ | exact Toy.lk_Cell_references _ _ _ _ _ _)
/-- the fields of Service, in order -/
def fs_Service (v_serial v_maker v_body v_place v_link v_references : V) : List (Str × V) := [("serial", v_serial), ("maker", v_maker), ("body", v_body), ("place", v_place), ("link", v_link), ("references", v_references)]
theorem lk_Service_serial (v_serial v_maker v_body v_place v_link v_references : V) : (fs_Service v_serial v_maker v_body v_place v_link v_references).lookup ("serial" : Str) = some v_serial := by rfl
theorem lk_Service_maker (v_serial v_maker v_body v_place v_link v_references : V) : (fs_Service v_serial v_maker v_body v_place v_link v_references).lookup ("maker" : Str) = some v_maker := by rfl
theorem lk_Service_body (v_serial v_maker v_body v_place v_link v_references : V) : (fs_Service v_serial v_maker v_body v_place v_link v_references).lookup ("body" : Str) = some v_body := by rfl
theorem lk_Service_place (v_serial v_maker v_body v_place v_link v_references : V) : (fs_Service v_serial v_maker v_body v_place v_link v_references).lookup ("place" : Str) = some v_place := by rfl
theorem lk_Service_link (v_serial v_maker v_body v_place v_link v_references : V) : (fs_Service v_serial v_maker v_body v_place v_link v_references).lookup ("link" : Str) = some v_link := by rfl
theorem lk_Service_references (v_serial v_maker v_body v_place v_link v_references : V) : (fs_Service v_serial v_maker v_body v_place v_link v_references).lookup ("references" : Str) = some v_references := by rfl
theorem pf_Service_serial (v_serial : V) : putF "serial" v_serial ([] : List (Str × V)) = [(("serial" : Str), v_serial)] := by rfl
theorem pf_Service_maker (v_serial v_maker : V) : putF "maker" v_maker ([(("serial" : Str), v_serial)] : List (Str × V)) = [(("serial" : Str), v_serial), (("maker" : Str), v_maker)] := by rfl
theorem pf_Service_body (v_serial v_maker v_body : V) : putF "body" v_body ([(("serial" : Str), v_serial), (("maker" : Str), v_maker)] : List (Str × V)) = [(("serial" : Str), v_serial), (("maker" : Str), v_maker), (("body" : Str), v_body)] := by rfl
theorem pf_Service_place (v_serial v_maker v_body v_place : V) : putF "place" v_place ([(("serial" : Str), v_serial), (("maker" : Str), v_maker), (("body" : Str), v_body)] : List (Str × V)) = [(("serial" : Str), v_serial), (("maker" : Str), v_maker), (("body" : Str), v_body), (("place" : Str), v_place)] := by rfl
theorem pf_Service_link (v_serial v_maker v_body v_place v_link : V) : putF "link" v_link ([(("serial" : Str), v_serial), (("maker" : Str), v_maker), (("body" : Str), v_body), (("place" : Str), v_place)] : List (Str × V)) = [(("serial" : Str), v_serial), (("maker" : Str), v_maker), (("body" : Str), v_body), (("place" : Str), v_place), (("link" : Str), v_link)] := by rfl
theorem pf_Service_references (v_serial v_maker v_body v_place v_link v_references : V) : putF "references" v_references ([(("serial" : Str), v_serial), (("maker" : Str), v_maker), (("body" : Str), v_body), (("place" : Str), v_place), (("link" : Str), v_link)] : List (Str × V)) = fs_Service v_serial v_maker v_body v_place v_link v_references := by rfl
theorem st_Service_serial (v_serial v_maker v_body v_place v_link v_references w : V) : putF "serial" w (fs_Service v_serial v_maker v_body v_place v_link v_references) = fs_Service w v_maker v_body v_place v_link v_references := by rfl
theorem st_Service_maker (v_serial v_maker v_body v_place v_link v_references w : V) : putF "maker" w (fs_Service v_serial v_maker v_body v_place v_link v_references) = fs_Service v_serial w v_body v_place v_link v_references := by rfl
theorem st_Service_body (v_serial v_maker v_body v_place v_link v_references w : V) : putF "body" w (fs_Service v_serial v_maker v_body v_place v_link v_references) = fs_Service v_serial v_maker w v_place v_link v_references := by rfl
theorem st_Service_place (v_serial v_maker v_body v_place v_link v_references w : V) : putF "place" w (fs_Service v_serial v_maker v_body v_place v_link v_references) = fs_Service v_serial v_maker v_body w v_link v_references := by rfl
theorem st_Service_link (v_serial v_maker v_body v_place v_link v_references w : V) : putF "link" w (fs_Service v_serial v_maker v_body v_place v_link v_references) = fs_Service v_serial v_maker v_body v_place w v_references := by rfl
theorem st_Service_references (v_serial v_maker v_body v_place v_link v_references w : V) : putF "references" w (fs_Service v_serial v_maker v_body v_place v_link v_references) = fs_Service v_serial v_maker v_body v_place v_link w := by rfl
local macro_rules | `(tactic| walk_at "lk") => `(tactic| with_reducible first | exact Toy.lk_Service_serial _ _ _ _ _ _ | exact Toy.lk_Service_maker _ _ _ _ _ _ | exact Toy.lk_Service_body _ _ _ _ _ _ | exact Toy.lk_Service_place _ _ _ _ _ _ | exact Toy.lk_Service_link _ _ _ _ _ _ | exact Toy.lk_Service_references _ _ _ _ _ _)
/-- the fields of Proxy, in order -/
def fs_Proxy (v_serial v_maker v_entry v_place v_link v_references : V) : List (Str × V) := [("serial", v_serial), ("maker", v_maker), ("entry", v_entry), ("place", v_place), ("link", v_link), ("references", v_references)]
theorem lk_Proxy_serial (v_serial v_maker v_entry v_place v_link v_references : V) : (fs_Proxy v_serial v_maker v_entry v_place v_link v_references).lookup ("serial" : Str) = some v_serial := by rfl
theorem lk_Proxy_maker (v_serial v_maker v_entry v_place v_link v_references : V) : (fs_Proxy v_serial v_maker v_entry v_place v_link v_references).lookup ("maker" : Str) = some v_maker := by rfl
theorem lk_Proxy_entry (v_serial v_maker v_entry v_place v_link v_references : V) : (fs_Proxy v_serial v_maker v_entry v_place v_link v_references).lookup ("entry" : Str) = some v_entry := by rfl
theorem lk_Proxy_place (v_serial v_maker v_entry v_place v_link v_references : V) : (fs_Proxy v_serial v_maker v_entry v_place v_link v_references).lookup ("place" : Str) = some v_place := by rfl
theorem lk_Proxy_link (v_serial v_maker v_entry v_place v_link v_references : V) : (fs_Proxy v_serial v_maker v_entry v_place v_link v_references).lookup ("link" : Str) = some v_link := by rfl
theorem lk_Proxy_references (v_serial v_maker v_entry v_place v_link v_references : V) : (fs_Proxy v_serial v_maker v_entry v_place v_link v_references).lookup ("references" : Str) = some v_references := by rfl
theorem pf_Proxy_serial (v_serial : V) : putF "serial" v_serial ([] : List (Str × V)) = [(("serial" : Str), v_serial)] := by rfl
theorem pf_Proxy_maker (v_serial v_maker : V) : putF "maker" v_maker ([(("serial" : Str), v_serial)] : List (Str × V)) = [(("serial" : Str), v_serial), (("maker" : Str), v_maker)] := by rfl
theorem pf_Proxy_entry (v_serial v_maker v_entry : V) : putF "entry" v_entry ([(("serial" : Str), v_serial), (("maker" : Str), v_maker)] : List (Str × V)) = [(("serial" : Str), v_serial), (("maker" : Str), v_maker), (("entry" : Str), v_entry)] := by rfl
theorem pf_Proxy_place (v_serial v_maker v_entry v_place : V) : putF "place" v_place ([(("serial" : Str), v_serial), (("maker" : Str), v_maker), (("entry" : Str), v_entry)] : List (Str × V)) = [(("serial" : Str), v_serial), (("maker" : Str), v_maker), (("entry" : Str), v_entry), (("place" : Str), v_place)] := by rfl
theorem pf_Proxy_link (v_serial v_maker v_entry v_place v_link : V) : putF "link" v_link ([(("serial" : Str), v_serial), (("maker" : Str), v_maker), (("entry" : Str), v_entry), (("place" : Str), v_place)] : List (Str × V)) = [(("serial" : Str), v_serial), (("maker" : Str), v_maker), (("entry" : Str), v_entry), (("place" : Str), v_place), (("link" : Str), v_link)] := by rfl
theorem pf_Proxy_references (v_serial v_maker v_entry v_place v_link v_references : V) : putF "references" v_references ([(("serial" : Str), v_serial), (("maker" : Str), v_maker), (("entry" : Str), v_entry), (("place" : Str), v_place), (("link" : Str), v_link)] : List (Str × V)) = fs_Proxy v_serial v_maker v_entry v_place v_link v_references := by rfl
theorem st_Proxy_serial (v_serial v_maker v_entry v_place v_link v_references w : V) : putF "serial" w (fs_Proxy v_serial v_maker v_entry v_place v_link v_references) = fs_Proxy w v_maker v_entry v_place v_link v_references := by rfl
theorem st_Proxy_maker (v_serial v_maker v_entry v_place v_link v_references w : V) : putF "maker" w (fs_Proxy v_serial v_maker v_entry v_place v_link v_references) = fs_Proxy v_serial w v_entry v_place v_link v_references := by rfl
theorem st_Proxy_entry (v_serial v_maker v_entry v_place v_link v_references w : V) : putF "entry" w (fs_Proxy v_serial v_maker v_entry v_place v_link v_references) = fs_Proxy v_serial v_maker w v_place v_link v_references := by rfl
theorem st_Proxy_place (v_serial v_maker v_entry v_place v_link v_references w : V) : putF "place" w (fs_Proxy v_serial v_maker v_entry v_place v_link v_references) = fs_Proxy v_serial v_maker v_entry w v_link v_references := by rfl
theorem st_Proxy_link (v_serial v_maker v_entry v_place v_link v_references w : V) : putF "link" w (fs_Proxy v_serial v_maker v_entry v_place v_link v_references) = fs_Proxy v_serial v_maker v_entry v_place w v_references := by rfl
theorem st_Proxy_references (v_serial v_maker v_entry v_place v_link v_references w : V) : putF "references" w (fs_Proxy v_serial v_maker v_entry v_place v_link v_references) = fs_Proxy v_serial v_maker v_entry v_place v_link w := by rfl
local macro_rules | `(tactic| walk_at "lk") => `(tactic| with_reducible first | exact Toy.lk_Proxy_serial _ _ _ _ _ _ | exact Toy.lk_Proxy_maker _ _ _ _ _ _ | exact Toy.lk_Proxy_entry _ _ _ _ _ _ | exact Toy.lk_Proxy_place _ _ _ _ _ _ | exact Toy.lk_Proxy_link _ _ _ _ _ _ | exact Toy.lk_Proxy_references _ _ _ _ _ _)
/-- the fields of CountedHeap, in order -/
def fs_CountedHeap (v_places v_serials v_proxies v_vacant : V) : List (Str × V) := [("places", v_places), ("serials", v_serials), ("proxies", v_proxies), ("vacant", v_vacant)]
theorem lk_CountedHeap_places (v_places v_serials v_proxies v_vacant : V) : (fs_CountedHeap v_places v_serials v_proxies v_vacant).lookup ("places" : Str) = some v_places := by rfl
theorem lk_CountedHeap_serials (v_places v_serials v_proxies v_vacant : V) : (fs_CountedHeap v_places v_serials v_proxies v_vacant).lookup ("serials" : Str) = some v_serials := by rfl
theorem lk_CountedHeap_proxies (v_places v_serials v_proxies v_vacant : V) : (fs_CountedHeap v_places v_serials v_proxies v_vacant).lookup ("proxies" : Str) = some v_proxies := by rfl
theorem lk_CountedHeap_vacant (v_places v_serials v_proxies v_vacant : V) : (fs_CountedHeap v_places v_serials v_proxies v_vacant).lookup ("vacant" : Str) = some v_vacant := by rfl
theorem pf_CountedHeap_places (v_places : V) : putF "places" v_places ([] : List (Str × V)) = [(("places" : Str), v_places)] := by rfl
theorem pf_CountedHeap_serials (v_places v_serials : V) : putF "serials" v_serials ([(("places" : Str), v_places)] : List (Str × V)) = [(("places" : Str), v_places), (("serials" : Str), v_serials)] := by rfl
theorem pf_CountedHeap_proxies (v_places v_serials v_proxies : V) : putF "proxies" v_proxies ([(("places" : Str), v_places), (("serials" : Str), v_serials)] : List (Str × V)) = [(("places" : Str), v_places), (("serials" : Str), v_serials), (("proxies" : Str), v_proxies)] := by rfl
theorem pf_CountedHeap_vacant (v_places v_serials v_proxies v_vacant : V) : putF "vacant" v_vacant ([(("places" : Str), v_places), (("serials" : Str), v_serials), (("proxies" : Str), v_proxies)] : List (Str × V)) = fs_CountedHeap v_places v_serials v_proxies v_vacant := by rfl
theorem st_CountedHeap_places (v_places v_serials v_proxies v_vacant w : V) : putF "places" w (fs_CountedHeap v_places v_serials v_proxies v_vacant) = fs_CountedHeap w v_serials v_proxies v_vacant := by rfl
theorem st_CountedHeap_serials (v_places v_serials v_proxies v_vacant w : V) : putF "serials" w (fs_CountedHeap v_places v_serials v_proxies v_vacant) = fs_CountedHeap v_places w v_proxies v_vacant := by rfl
theorem st_CountedHeap_proxies (v_places v_serials v_proxies v_vacant w : V) : putF "proxies" w (fs_CountedHeap v_places v_serials v_proxies v_vacant) = fs_CountedHeap v_places v_serials w v_vacant := by rfl
theorem st_CountedHeap_vacant (v_places v_serials v_proxies v_vacant w : V) : putF "vacant" w (fs_CountedHeap v_places v_serials v_proxies v_vacant) = fs_CountedHeap v_places v_serials v_proxies w := by rfl
theorem no_CountedHeap__add (v_places v_serials v_proxies v_vacant : V) : (fs_CountedHeap v_places v_serials v_proxies v_vacant).lookup ("_add" : Str) = none := by rfl
theorem no_CountedHeap_make_cell (v_places v_serials v_proxies v_vacant : V) : (fs_CountedHeap v_places v_serials v_proxies v_vacant).lookup ("make_cell" : Str) = none := by rfl
theorem no_CountedHeap_make_service (v_places v_serials v_proxies v_vacant : V) : (fs_CountedHeap v_places v_serials v_proxies v_vacant).lookup ("make_service" : Str) = none := by rfl
theorem no_CountedHeap_make_proxy (v_places v_serials v_proxies v_vacant : V) : (fs_CountedHeap v_places v_serials v_proxies v_vacant).lookup ("make_proxy" : Str) = none := by rfl
theorem no_CountedHeap_thing (v_places v_serials v_proxies v_vacant : V) : (fs_CountedHeap v_places v_serials v_proxies v_vacant).lookup ("thing" : Str) = none := by rfl
theorem no_CountedHeap_where (v_places v_serials v_proxies v_vacant : V) : (fs_CountedHeap v_places v_serials v_proxies v_vacant).lookup ("where" : Str) = none := by rfl
theorem no_CountedHeap_where_proxy (v_places v_serials v_proxies v_vacant : V) : (fs_CountedHeap v_places v_serials v_proxies v_vacant).lookup ("where_proxy" : Str) = none := by rfl
local macro_rules | `(tactic| walk_at "lk") => `(tactic| with_reducible first | exact Toy.lk_CountedHeap_places _ _ _ _ | exact Toy.lk_CountedHeap_serials _ _ _ _ | exact Toy.lk_CountedHeap_proxies _ _ _ _ | exact Toy.lk_CountedHeap_vacant _ _ _ _ | exact Toy.no_CountedHeap__add _ _ _ _ | exact Toy.no_CountedHeap_make_cell _ _ _ _ | exact Toy.no_CountedHeap_make_service _ _ _ _ | exact Toy.no_CountedHeap_make_proxy _ _ _ _ | exact Toy.no_CountedHeap_thing _ _ _ _ | exact Toy.no_CountedHeap_where _ _ _ _ | exact Toy.no_CountedHeap_where_proxy _ _ _ _)
/-- the fields of TracedHeap, in order -/
def fs_TracedHeap (v_places v_serials v_proxies v_space v_next_index : V) : List (Str × V) := [("places", v_places), ("serials", v_serials), ("proxies", v_proxies), ("space", v_space), ("next_index", v_next_index)]
theorem lk_TracedHeap_places (v_places v_serials v_proxies v_space v_next_index : V) : (fs_TracedHeap v_places v_serials v_proxies v_space v_next_index).lookup ("places" : Str) = some v_places := by rfl
theorem lk_TracedHeap_serials (v_places v_serials v_proxies v_space v_next_index : V) : (fs_TracedHeap v_places v_serials v_proxies v_space v_next_index).lookup ("serials" : Str) = some v_serials := by rfl
theorem lk_TracedHeap_proxies (v_places v_serials v_proxies v_space v_next_index : V) : (fs_TracedHeap v_places v_serials v_proxies v_space v_next_index).lookup ("proxies" : Str) = some v_proxies := by rfl
theorem lk_TracedHeap_space (v_places v_serials v_proxies v_space v_next_index : V) : (fs_TracedHeap v_places v_serials v_proxies v_space v_next_index).lookup ("space" : Str) = some v_space := by rfl
theorem lk_TracedHeap_next_index (v_places v_serials v_proxies v_space v_next_index : V) : (fs_TracedHeap v_places v_serials v_proxies v_space v_next_index).lookup ("next_index" : Str) = some v_next_index := by rfl
theorem pf_TracedHeap_places (v_places : V) : putF "places" v_places ([] : List (Str × V)) = [(("places" : Str), v_places)] := by rfl
theorem pf_TracedHeap_serials (v_places v_serials : V) : putF "serials" v_serials ([(("places" : Str), v_places)] : List (Str × V)) = [(("places" : Str), v_places), (("serials" : Str), v_serials)] := by rfl
theorem pf_TracedHeap_proxies (v_places v_serials v_proxies : V) : putF "proxies" v_proxies ([(("places" : Str), v_places), (("serials" : Str), v_serials)] : List (Str × V)) = [(("places" : Str), v_places), (("serials" : Str), v_serials), (("proxies" : Str), v_proxies)] := by rfl
theorem pf_TracedHeap_space (v_places v_serials v_proxies v_space : V) : putF "space" v_space ([(("places" : Str), v_places), (("serials" : Str), v_serials), (("proxies" : Str), v_proxies)] : List (Str × V)) = [(("places" : Str), v_places), (("serials" : Str), v_serials), (("proxies" : Str), v_proxies), (("space" : Str), v_space)] := by rfl
theorem pf_TracedHeap_next_index (v_places v_serials v_proxies v_space v_next_index : V) : putF "next_index" v_next_index ([(("places" : Str), v_places), (("serials" : Str), v_serials), (("proxies" : Str), v_proxies), (("space" : Str), v_space)] : List (Str × V)) = fs_TracedHeap v_places v_serials v_proxies v_space v_next_index := by rfl
theorem st_TracedHeap_places (v_places v_serials v_proxies v_space v_next_index w : V) : putF "places" w (fs_TracedHeap v_places v_serials v_proxies v_space v_next_index) = fs_TracedHeap w v_serials v_proxies v_space v_next_index := by rfl
theorem st_TracedHeap_serials (v_places v_serials v_proxies v_space v_next_index w : V) : putF "serials" w (fs_TracedHeap v_places v_serials v_proxies v_space v_next_index) = fs_TracedHeap v_places w v_proxies v_space v_next_index := by rfl
theorem st_TracedHeap_proxies (v_places v_serials v_proxies v_space v_next_index w : V) : putF "proxies" w (fs_TracedHeap v_places v_serials v_proxies v_space v_next_index) = fs_TracedHeap v_places v_serials w v_space v_next_index := by rfl
theorem st_TracedHeap_space (v_places v_serials v_proxies v_space v_next_index w : V) : putF "space" w (fs_TracedHeap v_places v_serials v_proxies v_space v_next_index) = fs_TracedHeap v_places v_serials v_proxies w v_next_index := by rfl
theorem st_TracedHeap_next_index (v_places v_serials v_proxies v_space v_next_index w : V) : putF "next_index" w (fs_TracedHeap v_places v_serials v_proxies v_space v_next_index) = fs_TracedHeap v_places v_serials v_proxies v_space w := by rfl
theorem no_TracedHeap_new_place (v_places v_serials v_proxies v_space v_next_index : V) : (fs_TracedHeap v_places v_serials v_proxies v_space v_next_index).lookup ("new_place" : Str) = none := by rfl
theorem no_TracedHeap_make_cell (v_places v_serials v_proxies v_space v_next_index : V) : (fs_TracedHeap v_places v_serials v_proxies v_space v_next_index).lookup ("make_cell" : Str) = none := by rfl
theorem no_TracedHeap_make_service (v_places v_serials v_proxies v_space v_next_index : V) : (fs_TracedHeap v_places v_serials v_proxies v_space v_next_index).lookup ("make_service" : Str) = none := by rfl
theorem no_TracedHeap_make_proxy (v_places v_serials v_proxies v_space v_next_index : V) : (fs_TracedHeap v_places v_serials v_proxies v_space v_next_index).lookup ("make_proxy" : Str) = none := by rfl
theorem no_TracedHeap_thing (v_places v_serials v_proxies v_space v_next_index : V) : (fs_TracedHeap v_places v_serials v_proxies v_space v_next_index).lookup ("thing" : Str) = none := by rfl
theorem no_TracedHeap_where (v_places v_serials v_proxies v_space v_next_index : V) : (fs_TracedHeap v_places v_serials v_proxies v_space v_next_index).lookup ("where" : Str) = none := by rfl
theorem no_TracedHeap_where_proxy (v_places v_serials v_proxies v_space v_next_index : V) : (fs_TracedHeap v_places v_serials v_proxies v_space v_next_index).lookup ("where_proxy" : Str) = none := by rfl
local macro_rules | `(tactic| walk_at "lk") => `(tactic| with_reducible first | exact Toy.lk_TracedHeap_places _ _ _ _ _ | exact Toy.lk_TracedHeap_serials _ _ _ _ _ | exact Toy.lk_TracedHeap_proxies _ _ _ _ _ | exact Toy.lk_TracedHeap_space _ _ _ _ _ | exact Toy.lk_TracedHeap_next_index _ _ _ _ _ | exact Toy.no_TracedHeap_new_place _ _ _ _ _ | exact Toy.no_TracedHeap_make_cell _ _ _ _ _ | exact Toy.no_TracedHeap_make_service _ _ _ _ _ | exact Toy.no_TracedHeap_make_proxy _ _ _ _ _ | exact Toy.no_TracedHeap_thing _ _ _ _ _ | exact Toy.no_TracedHeap_where _ _ _ _ _ | exact Toy.no_TracedHeap_where_proxy _ _ _ _ _)
/-- the fields of PlainHeap, in order -/
def fs_PlainHeap (v_places v_serials v_proxies : V) : List (Str × V) := [("places", v_places), ("serials", v_serials), ("proxies", v_proxies)]
theorem lk_PlainHeap_places (v_places v_serials v_proxies : V) : (fs_PlainHeap v_places v_serials v_proxies).lookup ("places" : Str) = some v_places := by rfl
theorem lk_PlainHeap_serials (v_places v_serials v_proxies : V) : (fs_PlainHeap v_places v_serials v_proxies).lookup ("serials" : Str) = some v_serials := by rfl
theorem lk_PlainHeap_proxies (v_places v_serials v_proxies : V) : (fs_PlainHeap v_places v_serials v_proxies).lookup ("proxies" : Str) = some v_proxies := by rfl
theorem pf_PlainHeap_places (v_places : V) : putF "places" v_places ([] : List (Str × V)) = [(("places" : Str), v_places)] := by rfl
theorem pf_PlainHeap_serials (v_places v_serials : V) : putF "serials" v_serials ([(("places" : Str), v_places)] : List (Str × V)) = [(("places" : Str), v_places), (("serials" : Str), v_serials)] := by rfl
theorem pf_PlainHeap_proxies (v_places v_serials v_proxies : V) : putF "proxies" v_proxies ([(("places" : Str), v_places), (("serials" : Str), v_serials)] : List (Str × V)) = fs_PlainHeap v_places v_serials v_proxies := by rfl
theorem st_PlainHeap_places (v_places v_serials v_proxies w : V) : putF "places" w (fs_PlainHeap v_places v_serials v_proxies) = fs_PlainHeap w v_serials v_proxies := by rfl
theorem st_PlainHeap_serials (v_places v_serials v_proxies w : V) : putF "serials" w (fs_PlainHeap v_places v_serials v_proxies) = fs_PlainHeap v_places w v_proxies := by rfl
theorem st_PlainHeap_proxies (v_places v_serials v_proxies w : V) : putF "proxies" w (fs_PlainHeap v_places v_serials v_proxies) = fs_PlainHeap v_places v_serials w := by rfl
theorem no_PlainHeap_make_cell (v_places v_serials v_proxies : V) : (fs_PlainHeap v_places v_serials v_proxies).lookup ("make_cell" : Str) = none := by rfl
theorem no_PlainHeap_make_service (v_places v_serials v_proxies : V) : (fs_PlainHeap v_places v_serials v_proxies).lookup ("make_service" : Str) = none := by rfl
theorem no_PlainHeap_make_proxy (v_places v_serials v_proxies : V) : (fs_PlainHeap v_places v_serials v_proxies).lookup ("make_proxy" : Str) = none := by rfl
theorem no_PlainHeap_thing (v_places v_serials v_proxies : V) : (fs_PlainHeap v_places v_serials v_proxies).lookup ("thing" : Str) = none := by rfl
theorem no_PlainHeap_where (v_places v_serials v_proxies : V) : (fs_PlainHeap v_places v_serials v_proxies).lookup ("where" : Str) = none := by rfl
theorem no_PlainHeap_where_proxy (v_places v_serials v_proxies : V) : (fs_PlainHeap v_places v_serials v_proxies).lookup ("where_proxy" : Str) = none := by rfl
local macro_rules | `(tactic| walk_at "lk") => `(tactic| with_reducible first | exact Toy.lk_PlainHeap_places _ _ _ | exact Toy.lk_PlainHeap_serials _ _ _ | exact Toy.lk_PlainHeap_proxies _ _ _ | exact Toy.no_PlainHeap_make_cell _ _ _ | exact Toy.no_PlainHeap_make_service _ _ _ | exact Toy.no_PlainHeap_make_proxy _ _ _ | exact Toy.no_PlainHeap_thing _ _ _ | exact Toy.no_PlainHeap_where _ _ _ | exact Toy.no_PlainHeap_where_proxy _ _ _)
section
variable {P : Program} {w : World} {K : PySem.W.Frag} {mg : Str → Option Value} {base : Heap}
/-! ### the deck and its draws -/
theorem ok_law_takeC {ad : Ad} (T : Txt K mg ad) : FnOk P w K mg base CX0 1 ad.a_law_take ad.d_law_take ["deck", "many"] (Dk.spTakeC) := by
  refine T.F_law_take.ok sc_law_take (fun vs H Q E h => ?_) (fun cdv A outer s H vs Q E hr h => ?_)
  · obtain ⟨l, ns, m, rfl, h1, h2, h3, k⟩ := h
    rfl
  · obtain ⟨l, ns, m, rfl, h1, h2, h3, k⟩ := h
    refine ⟨_, (pss_cons (ps_if (pt_cmpR op_eq (pe_callB (id := "len") Rd.c_len (by rfl) T.z_len (by decide +kernel) (pa_cons (pv 0) pa_nil)) pe_int (nomark _)) (pss_one (ps_ret pe_int)) pss_nil)
      (pss_one (ps_ret (pe_op op_mod (pe_callTy (T := "int") Rd.c_int (by rfl) T.z_int (by decide +kernel) (pa_cons (pe_bm0 PySem.F.plainAttrs_list PySem.F.slot_list_pop PySem.F.type_list_pop mt_pop (pv 0)) pa_nil)) (pv 1))))), ?_⟩
    try dsimp only [L2.cxOf, L2.Cx.nox, L2.Cx.wish]
    change (_ : TS) _ ([some (.ref l), some (.int m)] : St) _
    have cl_Cell := T.cl_Cell
    have n_Cell_content := T.n_Cell_content
    have n_Cell_link := T.n_Cell_link
    have n_Cell_maker := T.n_Cell_maker
    have n_Cell_place := T.n_Cell_place
    have n_Cell_references := T.n_Cell_references
    have n_Cell_serial := T.n_Cell_serial
    have cl_CountedHeap := T.cl_CountedHeap
    have n_CountedHeap_places := T.n_CountedHeap_places
    have n_CountedHeap_proxies := T.n_CountedHeap_proxies
    have n_CountedHeap_serials := T.n_CountedHeap_serials
    have n_CountedHeap_vacant := T.n_CountedHeap_vacant
    have cl_PlainHeap := T.cl_PlainHeap
    have n_PlainHeap_places := T.n_PlainHeap_places
    have n_PlainHeap_proxies := T.n_PlainHeap_proxies
    have n_PlainHeap_serials := T.n_PlainHeap_serials
    have cl_Proxy := T.cl_Proxy
    have n_Proxy_entry := T.n_Proxy_entry
    have n_Proxy_link := T.n_Proxy_link
    have n_Proxy_maker := T.n_Proxy_maker
    have n_Proxy_place := T.n_Proxy_place
    have n_Proxy_references := T.n_Proxy_references
    have n_Proxy_serial := T.n_Proxy_serial
    have cl_Service := T.cl_Service
    have n_Service_body := T.n_Service_body
    have n_Service_link := T.n_Service_link
    have n_Service_maker := T.n_Service_maker
    have n_Service_place := T.n_Service_place
    have n_Service_references := T.n_Service_references
    have n_Service_serial := T.n_Service_serial
    have cl_TracedHeap := T.cl_TracedHeap
    have n_TracedHeap_next_index := T.n_TracedHeap_next_index
    have n_TracedHeap_places := T.n_TracedHeap_places
    have n_TracedHeap_proxies := T.n_TracedHeap_proxies
    have n_TracedHeap_serials := T.n_TracedHeap_serials
    have n_TracedHeap_space := T.n_TracedHeap_space
    have hd : L2.Same H H := Same.refl H
    walk_at "rd"
    refine Rd.ifd (fun c => ?_) (fun c => ?_)
    · walk_at "rd"
      have q := k 0 ns (by omega) h3 h2
      rw [Dk.upd_id h1] at q
      exact q
    · walk_at "rd"
      have hl : (ns.map V.int).length = ns.length := List.length_map ..
      have hp : 0 < ns.length := by
        rw [hl] at c
        omega
      have hz : (ns.map V.int)[(ns.map V.int).length - 1]? = some (V.int (ns[ns.length - 1]'(by omega))) := by
        rw [hl, List.getElem?_map, List.getElem?_eq_getElem (by omega)]
        rfl
      refine Rd.pop h1 hz ?_
      walk_at "rd"
      rw [← List.map_dropLast]
      exact k _ _ (Int.emod_nonneg _ (by omega)) (Int.emod_lt_of_pos _ h3) (by rw [List.length_dropLast]; omega)
theorem ok_law_take {ad : Ad} (T : Txt K mg ad) : FnOk P w K mg base CX0 1 ad.a_law_take ad.d_law_take ["deck", "many"] Dk.spTake := Dk.ok_take (ok_law_takeC T)
theorem ok_law_deckC {ad : Ad} (T : Txt K mg ad) : FnOk P w K mg base CX0 1 ad.a_law_deck ad.d_law_deck ["script", "cells", "each"] (Dk.spDeckC K) := by
  refine T.F_law_deck.ok sc_law_deck (fun vs H Q E h => ?_) (fun cdv A outer s H vs Q E hr h => ?_)
  · obtain ⟨a, ns, c, e, rfl, hS, hn, hc0, he0, hc1, he1, k⟩ := h
    rfl
  · obtain ⟨a, ns, c, e, rfl, hS, hn, hc0, he0, hc1, he1, k⟩ := h
    refine ⟨_, (pss_cons (ps_set (i := 3) sc_law_deck.nd rfl (Or.inl rfl) (pe_lst pa_nil))
      (pss_cons (ps_set (i := 4) sc_law_deck.nd rfl (Or.inl rfl) (pe_op op_add pe_int (pe_callB (id := "len") Rd.c_len (by rfl) T.z_len (by decide +kernel) (pa_cons (pv 0) pa_nil))))
      (pss_cons (ps_for PassesOwn.never rfl (pi_range1 rfl T.z_range (pa_cons (pv 1) pa_nil)) (pg_name (i := 5) sc_law_deck.nd rfl (Or.inl rfl)) (pss_cons (ps_set (i := 6) sc_law_deck.nd rfl (Or.inl rfl) pe_int)
      (Evl.pss_cut (ps_if (pt_cmpR op_lt (pv 5) (pe_callB (id := "len") Rd.c_len (by rfl) T.z_len (by decide +kernel) (pa_cons (pv 0) pa_nil)) (nomark _)) (pss_one (ps_set (i := 6) sc_law_deck.nd rfl (Or.inl rfl) (pe_ix ix_list (pv 0) (pv 5) (fun _ _ => rfl)))) pss_nil)
      (pss_cons (ps_set (i := 7) sc_law_deck.nd rfl (Or.inl rfl) (pe_callB (id := "abs") Rd.c_abs (by rfl) T.z_abs (by decide +kernel) (pa_cons (pv 6) pa_nil)))
      (pss_one (ps_if (pt_cmpR op_ge (pv 7) (pe_op op_pow pe_int pe_int) (nomark _)) (pss_one (ps_for PassesOwn.never rfl (pi_range1 rfl T.z_range (pa_cons (pv 2) pa_nil)) (pg_name (i := 8) sc_law_deck.nd rfl (Or.inl rfl)) (pss_cons (ps_expr (pe_bm PySem.F.plainAttrs_list PySem.F.slot_list_append PySem.F.type_list_append mt_append (pv 3) (pa_cons (pe_op op_mod (pe_callTy (T := "int") Rd.c_int (by rfl) T.z_int (by decide +kernel) (pa_cons (pv 7) pa_nil)) pe_int) pa_nil)))
      (pss_one (ps_set (i := 7) sc_law_deck.nd rfl (Or.inl rfl) (pe_op op_fdiv (pv 7) pe_int)))))) (pss_cons (ps_set (i := 4) sc_law_deck.nd rfl (Or.inl rfl) (pe_op op_mod (pe_callTy (T := "int") Rd.c_int (by rfl) T.z_int (by decide +kernel) (pa_cons (pe_op op_add (pe_op op_add (pe_op op_add (pe_op op_mul (pv 4) pe_int) (pe_op op_mul pe_int (pv 7))) (pe_callTy (T := "int") Rd.c_int (by rfl) T.z_int (by decide +kernel) (pa_cons (pe_cmpR op_lt (pv 6) pe_int (nomark _)) pa_nil))) (pv 5)) pa_nil)) pe_int))
      (pss_one (ps_for PassesOwn.never rfl (pi_range1 rfl T.z_range (pa_cons (pv 2) pa_nil)) (pg_name (i := 8) sc_law_deck.nd rfl (Or.inl rfl)) (pss_cons (ps_set (i := 4) sc_law_deck.nd rfl (Or.inl rfl) (pe_op op_mod (pe_callTy (T := "int") Rd.c_int (by rfl) T.z_int (by decide +kernel) (pa_cons (pe_op op_add (pe_op op_add (pe_op op_mul (pv 4) pe_int) (pv 8)) pe_int) pa_nil)) pe_int))
      (pss_one (ps_expr (pe_bm PySem.F.plainAttrs_list PySem.F.slot_list_append PySem.F.type_list_append mt_append (pv 3) (pa_cons (pe_op op_mod (pe_callTy (T := "int") Rd.c_int (by rfl) T.z_int (by decide +kernel) (pa_cons (pe_op op_fdiv (pv 4) pe_int) pa_nil)) pe_int) pa_nil))))))))))))))
      (pss_cons (ps_expr (pe_bm0 PySem.F.plainAttrs_list PySem.F.slot_list_reverse PySem.F.type_list_reverse mt_reverse (pv 3)))
      (pss_one (ps_ret (pv 3))))))), ?_⟩
    try dsimp only [L2.cxOf, L2.Cx.nox, L2.Cx.wish]
    change (_ : TS) _ ([some (.ref a), some (.int c), some (.int e), none, none, none, none, none, none] : St) _
    have cl_Cell := T.cl_Cell
    have n_Cell_content := T.n_Cell_content
    have n_Cell_link := T.n_Cell_link
    have n_Cell_maker := T.n_Cell_maker
    have n_Cell_place := T.n_Cell_place
    have n_Cell_references := T.n_Cell_references
    have n_Cell_serial := T.n_Cell_serial
    have cl_CountedHeap := T.cl_CountedHeap
    have n_CountedHeap_places := T.n_CountedHeap_places
    have n_CountedHeap_proxies := T.n_CountedHeap_proxies
    have n_CountedHeap_serials := T.n_CountedHeap_serials
    have n_CountedHeap_vacant := T.n_CountedHeap_vacant
    have cl_PlainHeap := T.cl_PlainHeap
    have n_PlainHeap_places := T.n_PlainHeap_places
    have n_PlainHeap_proxies := T.n_PlainHeap_proxies
    have n_PlainHeap_serials := T.n_PlainHeap_serials
    have cl_Proxy := T.cl_Proxy
    have n_Proxy_entry := T.n_Proxy_entry
    have n_Proxy_link := T.n_Proxy_link
    have n_Proxy_maker := T.n_Proxy_maker
    have n_Proxy_place := T.n_Proxy_place
    have n_Proxy_references := T.n_Proxy_references
    have n_Proxy_serial := T.n_Proxy_serial
    have cl_Service := T.cl_Service
    have n_Service_body := T.n_Service_body
    have n_Service_link := T.n_Service_link
    have n_Service_maker := T.n_Service_maker
    have n_Service_place := T.n_Service_place
    have n_Service_references := T.n_Service_references
    have n_Service_serial := T.n_Service_serial
    have cl_TracedHeap := T.cl_TracedHeap
    have n_TracedHeap_next_index := T.n_TracedHeap_next_index
    have n_TracedHeap_places := T.n_TracedHeap_places
    have n_TracedHeap_proxies := T.n_TracedHeap_proxies
    have n_TracedHeap_serials := T.n_TracedHeap_serials
    have n_TracedHeap_space := T.n_TracedHeap_space
    walk_at "rd"
    refine Rd.xlstU rfl fun l hl => ?_
    have hS1 : SqL K (upd H l (.lst [])) a (ns.map V.int) := Evl.ex_l (Evl.Ex.new hl) hS
    walk_at "rd"
    refine Rd.xfr1 ⟨by omega, by omega⟩ (fun i σ H' => ∃ (ms : List Int) (sd : Int) (v5 v6 v7 v8 : Option V), σ = [some (.ref a), some (.int c), some (.int e), some (.ref l), some (.int sd), v5, v6, v7, v8] ∧ H' = upd H l (.lst (ms.map V.int)) ∧ ms.length ≤ i * 64)
      ⟨[], _, none, none, none, none, rfl, rfl, Nat.zero_le _⟩ ?_ ?_
    · rintro i σ H' hi ⟨ms, sd, v5, v6, v7, v8, rfl, rfl, hm⟩
      have hS2 : SqL K (upd H l (.lst (ms.map V.int))) a (ns.map V.int) := Evl.ex_l (Evl.Ex.new hl) hS
      walk_at "rd"
      refine ⟨fun σ H' => ∃ cell : Int, σ = [some (.ref a), some (.int c), some (.int e), some (.ref l), some (.int sd), some (.int i), some (.int cell), v7, v8] ∧ H' = upd H l (.lst (ms.map V.int)), ?_, ?_⟩
      · walk_at "rd"
        refine Rd.ifd (fun h1 => ?_) (fun h1 => ?_)
        · walk_at "rd"
          rw [List.length_map] at h1
          refine Rd.ixL hS2 (atI_nat (j := i) (v := V.int (ns[i]'(by omega))) (by rw [List.getElem?_map, List.getElem?_eq_getElem (by omega)]; rfl)) ?_
          walk_at "rd"
          exact ⟨_, rfl, rfl⟩
        · walk_at "rd"
          exact ⟨_, rfl, rfl⟩
      · rintro σ H' ⟨cell, rfl, rfl⟩
        walk_at "rd"
        generalize hrest : (if cell < 0 then -cell else cell) = rest0
        refine Rd.ifd (fun h1 => ?_) (fun h1 => ?_)
        · walk_at "rd"
          refine Rd.xfr1 ⟨by omega, by omega⟩ (fun j σ H' => ∃ (ms' : List Int) (rest : Int) (v8 : Option V), σ = [some (.ref a), some (.int c), some (.int e), some (.ref l), some (.int sd), some (.int i), some (.int cell), some (.int rest), v8] ∧ H' = upd H l (.lst (ms'.map V.int)) ∧ ms'.length ≤ i * 64 + j)
            ⟨ms, _, _, rfl, rfl, hm⟩ ?_ ?_
          · rintro j σ H' hj ⟨ms', rest, v8, rfl, rfl, hm'⟩
            walk_at "rd"
            refine Rd.append upd_same (by rw [List.length_map]; omega) ?_
            walk_at "rd"
            exact ⟨ms' ++ [rest % 1000003], rest / 1000003, _, rfl, by rw [upd_upd, List.map_append]; rfl, by rw [List.length_append]; simp; omega⟩
          · rintro σ H' ⟨ms', rest, v8, rfl, rfl, hm'⟩
            exact ⟨ms', sd, _, _, _, _, rfl, rfl, by omega⟩
        · walk_at "rd"
          refine Rd.xfr1 ⟨by omega, by omega⟩ (fun j σ H' => ∃ (ms' : List Int) (sd : Int) (v8 : Option V), σ = [some (.ref a), some (.int c), some (.int e), some (.ref l), some (.int sd), some (.int i), some (.int cell), some (.int rest0), v8] ∧ H' = upd H l (.lst (ms'.map V.int)) ∧ ms'.length ≤ i * 64 + j)
            ⟨ms, _, _, rfl, rfl, hm⟩ ?_ ?_
          · rintro j σ H' hj ⟨ms', sd, v8, rfl, rfl, hm'⟩
            walk_at "rd"
            refine Rd.append upd_same (by rw [List.length_map]; omega) ?_
            walk_at "rd"
            exact ⟨ms' ++ [_], _, _, rfl, by rw [upd_upd, List.map_append]; rfl, by rw [List.length_append]; simp; omega⟩
          · rintro σ H' ⟨ms', sd, v8, rfl, rfl, hm'⟩
            exact ⟨ms', sd, _, _, _, _, rfl, rfl, by omega⟩
    · rintro σ H' ⟨ms, sd, v5, v6, v7, v8, rfl, rfl, hm⟩
      walk_at "rd"
      refine Rd.reverse upd_same ?_
      walk_at "rd"
      rw [upd_upd, ← List.map_reverse]
      exact k l ms.reverse _ hl rfl (by rw [List.length_reverse]; have := Int.toNat_of_nonneg hc0; omega)
theorem ok_law_deck {ad : Ad} (T : Txt K mg ad) : FnOk P w K mg base CX0 1 ad.a_law_deck ad.d_law_deck ["script", "cells", "each"] (Dk.spDeck K) := Dk.ok_deck (ok_law_deckC T)

def spWhole : Sp := fun vs H Q _ => ∃ i : Int, vs = [.int i] ∧ Q (.bl true) H
theorem ok_law_whole {ad : Ad} (T : Txt K mg ad) : FnOk P w K mg base CX0 1 ad.a_law_whole ad.d_law_whole ["value"] (spWhole) := by
  refine T.F_law_whole.ok sc_law_whole (fun vs H Q E h => ?_) (fun cdv A outer s H vs Q E hr h => ?_)
  · obtain ⟨i, rfl, k⟩ := h
    rfl
  · obtain ⟨i, rfl, k⟩ := h
    refine ⟨_, (pss_one (ps_ret (pe_and (pe_callB (id := "isinstance") call_isi (by rfl) T.z_isinstance (by decide +kernel) (pa_cons (pv 0) (pa_cons (pe_bltn rfl T.z_int (by decide +kernel) (v := .ty "int") rfl) pa_nil))) (pe_one (pe_not (pe_callB (id := "isinstance") call_isi (by rfl) T.z_isinstance (by decide +kernel) (pa_cons (pv 0) (pa_cons (pe_bltn rfl T.z_bool (by decide +kernel) (v := .ty "bool") rfl) pa_nil)))))))), ?_⟩
    try dsimp only [L2.cxOf, L2.Cx.nox, L2.Cx.wish]
    change (_ : TS) _ ([some (.int i)] : St) _
    walk_at "rd"
    exact k

/-! ### things -/
def spCellI (C : Addr) : Sp := fun vs H Q _ => ∃ (x dx : Addr) (se mk ct : V), vs = [.ref x, se, mk, ct] ∧ H x = some (.ins C dx []) ∧ Q .non (upd H x (.ins C dx (fs_Cell se mk ct (.int 0) .non (.int 0))))
theorem ok_Cell_init_ {ad : Ad} (T : Txt K mg ad) : FnOk P w K mg base CX0 1 ad.a_Cell_init_ ad.d_Cell_init_ ["self", "serial", "maker", "content"] (spCellI ad.c_Cell) := by
  refine T.F_Cell_init_.ok sc_Cell_init_ (fun vs H Q E h => ?_) (fun cdv A outer s H vs Q E hr h => ?_)
  · obtain ⟨x, dx, se, mk, ct, rfl, hx, k⟩ := h
    rfl
  · obtain ⟨x, dx, se, mk, ct, rfl, hx, k⟩ := h
    refine ⟨_, (pss_cons (ps_fld (pv 0) (pv 1) rfl)
      (pss_cons (ps_fld (pv 0) (pv 2) rfl)
      (pss_cons (ps_fld (pv 0) (pv 3) rfl)
      (pss_cons (ps_fld (pv 0) pe_int rfl)
      (pss_cons (ps_fld (pv 0) pe_non rfl)
      (pss_one (ps_fld (pv 0) pe_int rfl))))))), ?_⟩
    try dsimp only [L2.cxOf, L2.Cx.nox, L2.Cx.wish]
    change (_ : TS) _ ([some (.ref x), some (se), some (mk), some (ct)] : St) _
    have cl_Cell := T.cl_Cell
    have n_Cell_content := T.n_Cell_content
    have n_Cell_link := T.n_Cell_link
    have n_Cell_maker := T.n_Cell_maker
    have n_Cell_place := T.n_Cell_place
    have n_Cell_references := T.n_Cell_references
    have n_Cell_serial := T.n_Cell_serial
    have cl_CountedHeap := T.cl_CountedHeap
    have n_CountedHeap_places := T.n_CountedHeap_places
    have n_CountedHeap_proxies := T.n_CountedHeap_proxies
    have n_CountedHeap_serials := T.n_CountedHeap_serials
    have n_CountedHeap_vacant := T.n_CountedHeap_vacant
    have cl_PlainHeap := T.cl_PlainHeap
    have n_PlainHeap_places := T.n_PlainHeap_places
    have n_PlainHeap_proxies := T.n_PlainHeap_proxies
    have n_PlainHeap_serials := T.n_PlainHeap_serials
    have cl_Proxy := T.cl_Proxy
    have n_Proxy_entry := T.n_Proxy_entry
    have n_Proxy_link := T.n_Proxy_link
    have n_Proxy_maker := T.n_Proxy_maker
    have n_Proxy_place := T.n_Proxy_place
    have n_Proxy_references := T.n_Proxy_references
    have n_Proxy_serial := T.n_Proxy_serial
    have cl_Service := T.cl_Service
    have n_Service_body := T.n_Service_body
    have n_Service_link := T.n_Service_link
    have n_Service_maker := T.n_Service_maker
    have n_Service_place := T.n_Service_place
    have n_Service_references := T.n_Service_references
    have n_Service_serial := T.n_Service_serial
    have cl_TracedHeap := T.cl_TracedHeap
    have n_TracedHeap_next_index := T.n_TracedHeap_next_index
    have n_TracedHeap_places := T.n_TracedHeap_places
    have n_TracedHeap_proxies := T.n_TracedHeap_proxies
    have n_TracedHeap_serials := T.n_TracedHeap_serials
    have n_TracedHeap_space := T.n_TracedHeap_space
    walk_at "rd"
    simp only [upd_upd, pf_Cell_serial, pf_Cell_maker, pf_Cell_content, pf_Cell_place, pf_Cell_link, pf_Cell_references]
    exact k
theorem x_Cell {C : Addr} {H : Hp} {Q : VK} {E : XK} {se mk ct : V} (q : ∀ x dx H', H x = none → Evl.Ex H H' → H' x = some (.ins C dx (fs_Cell se mk ct (.int 0) .non (.int 0))) → Q (.ref x) H') :
    Rd.xMk C (fun x H2 Q2 => spCellI C (x :: ([se, mk, ct] ++ [])) H2 Q2 E) H Q := Rd.xmk fun x dx H' e n hx =>
  ⟨x, dx, se, mk, ct, rfl, hx, rfl, q x dx _ n (Evl.Ex.mut e n) upd_same⟩
def spServiceI (C : Addr) : Sp := fun vs H Q _ => ∃ (x dx : Addr) (se mk bo : V), vs = [.ref x, se, mk, bo] ∧ H x = some (.ins C dx []) ∧ Q .non (upd H x (.ins C dx (fs_Service se mk bo (.int 0) .non (.int 0))))
theorem ok_Service_init_ {ad : Ad} (T : Txt K mg ad) : FnOk P w K mg base CX0 1 ad.a_Service_init_ ad.d_Service_init_ ["self", "serial", "maker", "body"] (spServiceI ad.c_Service) := by
  refine T.F_Service_init_.ok sc_Service_init_ (fun vs H Q E h => ?_) (fun cdv A outer s H vs Q E hr h => ?_)
  · obtain ⟨x, dx, se, mk, bo, rfl, hx, k⟩ := h
    rfl
  · obtain ⟨x, dx, se, mk, bo, rfl, hx, k⟩ := h
    refine ⟨_, (pss_cons (ps_fld (pv 0) (pv 1) rfl)
      (pss_cons (ps_fld (pv 0) (pv 2) rfl)
      (pss_cons (ps_fld (pv 0) (pv 3) rfl)
      (pss_cons (ps_fld (pv 0) pe_int rfl)
      (pss_cons (ps_fld (pv 0) pe_non rfl)
      (pss_one (ps_fld (pv 0) pe_int rfl))))))), ?_⟩
    try dsimp only [L2.cxOf, L2.Cx.nox, L2.Cx.wish]
    change (_ : TS) _ ([some (.ref x), some (se), some (mk), some (bo)] : St) _
    have cl_Cell := T.cl_Cell
    have n_Cell_content := T.n_Cell_content
    have n_Cell_link := T.n_Cell_link
    have n_Cell_maker := T.n_Cell_maker
    have n_Cell_place := T.n_Cell_place
    have n_Cell_references := T.n_Cell_references
    have n_Cell_serial := T.n_Cell_serial
    have cl_CountedHeap := T.cl_CountedHeap
    have n_CountedHeap_places := T.n_CountedHeap_places
    have n_CountedHeap_proxies := T.n_CountedHeap_proxies
    have n_CountedHeap_serials := T.n_CountedHeap_serials
    have n_CountedHeap_vacant := T.n_CountedHeap_vacant
    have cl_PlainHeap := T.cl_PlainHeap
    have n_PlainHeap_places := T.n_PlainHeap_places
    have n_PlainHeap_proxies := T.n_PlainHeap_proxies
    have n_PlainHeap_serials := T.n_PlainHeap_serials
    have cl_Proxy := T.cl_Proxy
    have n_Proxy_entry := T.n_Proxy_entry
    have n_Proxy_link := T.n_Proxy_link
    have n_Proxy_maker := T.n_Proxy_maker
    have n_Proxy_place := T.n_Proxy_place
    have n_Proxy_references := T.n_Proxy_references
    have n_Proxy_serial := T.n_Proxy_serial
    have cl_Service := T.cl_Service
    have n_Service_body := T.n_Service_body
    have n_Service_link := T.n_Service_link
    have n_Service_maker := T.n_Service_maker
    have n_Service_place := T.n_Service_place
    have n_Service_references := T.n_Service_references
    have n_Service_serial := T.n_Service_serial
    have cl_TracedHeap := T.cl_TracedHeap
    have n_TracedHeap_next_index := T.n_TracedHeap_next_index
    have n_TracedHeap_places := T.n_TracedHeap_places
    have n_TracedHeap_proxies := T.n_TracedHeap_proxies
    have n_TracedHeap_serials := T.n_TracedHeap_serials
    have n_TracedHeap_space := T.n_TracedHeap_space
    walk_at "rd"
    simp only [upd_upd, pf_Service_serial, pf_Service_maker, pf_Service_body, pf_Service_place, pf_Service_link, pf_Service_references]
    exact k
theorem x_Service {C : Addr} {H : Hp} {Q : VK} {E : XK} {se mk bo : V} (q : ∀ x dx H', H x = none → Evl.Ex H H' → H' x = some (.ins C dx (fs_Service se mk bo (.int 0) .non (.int 0))) → Q (.ref x) H') :
    Rd.xMk C (fun x H2 Q2 => spServiceI C (x :: ([se, mk, bo] ++ [])) H2 Q2 E) H Q := Rd.xmk fun x dx H' e n hx =>
  ⟨x, dx, se, mk, bo, rfl, hx, rfl, q x dx _ n (Evl.Ex.mut e n) upd_same⟩
def spProxyI (C : Addr) : Sp := fun vs H Q _ => ∃ (x dx : Addr) (en : V), vs = [.ref x, en] ∧ H x = some (.ins C dx []) ∧ Q .non (upd H x (.ins C dx (fs_Proxy .non .non en (.int 0) .non (.int 0))))
theorem ok_Proxy_init_ {ad : Ad} (T : Txt K mg ad) : FnOk P w K mg base CX0 1 ad.a_Proxy_init_ ad.d_Proxy_init_ ["self", "entry"] (spProxyI ad.c_Proxy) := by
  refine T.F_Proxy_init_.ok sc_Proxy_init_ (fun vs H Q E h => ?_) (fun cdv A outer s H vs Q E hr h => ?_)
  · obtain ⟨x, dx, en, rfl, hx, k⟩ := h
    rfl
  · obtain ⟨x, dx, en, rfl, hx, k⟩ := h
    refine ⟨_, (pss_cons (ps_fld (pv 0) pe_non rfl)
      (pss_cons (ps_fld (pv 0) pe_non rfl)
      (pss_cons (ps_fld (pv 0) (pv 1) rfl)
      (pss_cons (ps_fld (pv 0) pe_int rfl)
      (pss_cons (ps_fld (pv 0) pe_non rfl)
      (pss_one (ps_fld (pv 0) pe_int rfl))))))), ?_⟩
    try dsimp only [L2.cxOf, L2.Cx.nox, L2.Cx.wish]
    change (_ : TS) _ ([some (.ref x), some (en)] : St) _
    have cl_Cell := T.cl_Cell
    have n_Cell_content := T.n_Cell_content
    have n_Cell_link := T.n_Cell_link
    have n_Cell_maker := T.n_Cell_maker
    have n_Cell_place := T.n_Cell_place
    have n_Cell_references := T.n_Cell_references
    have n_Cell_serial := T.n_Cell_serial
    have cl_CountedHeap := T.cl_CountedHeap
    have n_CountedHeap_places := T.n_CountedHeap_places
    have n_CountedHeap_proxies := T.n_CountedHeap_proxies
    have n_CountedHeap_serials := T.n_CountedHeap_serials
    have n_CountedHeap_vacant := T.n_CountedHeap_vacant
    have cl_PlainHeap := T.cl_PlainHeap
    have n_PlainHeap_places := T.n_PlainHeap_places
    have n_PlainHeap_proxies := T.n_PlainHeap_proxies
    have n_PlainHeap_serials := T.n_PlainHeap_serials
    have cl_Proxy := T.cl_Proxy
    have n_Proxy_entry := T.n_Proxy_entry
    have n_Proxy_link := T.n_Proxy_link
    have n_Proxy_maker := T.n_Proxy_maker
    have n_Proxy_place := T.n_Proxy_place
    have n_Proxy_references := T.n_Proxy_references
    have n_Proxy_serial := T.n_Proxy_serial
    have cl_Service := T.cl_Service
    have n_Service_body := T.n_Service_body
    have n_Service_link := T.n_Service_link
    have n_Service_maker := T.n_Service_maker
    have n_Service_place := T.n_Service_place
    have n_Service_references := T.n_Service_references
    have n_Service_serial := T.n_Service_serial
    have cl_TracedHeap := T.cl_TracedHeap
    have n_TracedHeap_next_index := T.n_TracedHeap_next_index
    have n_TracedHeap_places := T.n_TracedHeap_places
    have n_TracedHeap_proxies := T.n_TracedHeap_proxies
    have n_TracedHeap_serials := T.n_TracedHeap_serials
    have n_TracedHeap_space := T.n_TracedHeap_space
    walk_at "rd"
    simp only [upd_upd, pf_Proxy_serial, pf_Proxy_maker, pf_Proxy_entry, pf_Proxy_place, pf_Proxy_link, pf_Proxy_references]
    exact k
theorem x_Proxy {C : Addr} {H : Hp} {Q : VK} {E : XK} {en : V} (q : ∀ x dx H', H x = none → Evl.Ex H H' → H' x = some (.ins C dx (fs_Proxy .non .non en (.int 0) .non (.int 0))) → Q (.ref x) H') :
    Rd.xMk C (fun x H2 Q2 => spProxyI C (x :: ([en] ++ [])) H2 Q2 E) H Q := Rd.xmk fun x dx H' e n hx =>
  ⟨x, dx, en, rfl, hx, rfl, q x dx _ n (Evl.Ex.mut e n) upd_same⟩
/-! ### a thing is put into a heap -/
structure HeapF (K : PySem.W.Frag) (H : Hp) (h p s q : Addr) (kp ks kq : List (Key × V)) : Prop where
  at_ : ∃ C dx fs, H h = some (.ins C dx fs) ∧ Cls K C ∧ NoAttr K C "places" ∧ NoAttr K C "serials" ∧ NoAttr K C "proxies" ∧ fs.lookup ("places" : Str) = some (.ref p) ∧ fs.lookup ("serials" : Str) = some (.ref s) ∧ fs.lookup ("proxies" : Str) = some (.ref q)
  hp : H p = some (.dK kp)
  hs : H s = some (.dK ks)
  hq : H q = some (.dK kq)
  ps : p ≠ s
  pq : p ≠ q
  sq : s ≠ q
  lp : kp.length ≤ 1000
  ls : ks.length ≤ 1000
  lq : kq.length ≤ 1000
theorem HeapF.keep {K : PySem.W.Frag} {H H' : Hp} {h p s q : Addr} {kp ks kq : List (Key × V)} (f : HeapF K H h p s q kp ks kq) (k : ∀ b o, (b = h ∨ b = p ∨ b = s ∨ b = q) → H b = some o → H' b = some o) : HeapF K H' h p s q kp ks kq := by
  obtain ⟨⟨C, dx, fs, g1, g2⟩, hp, hs, hq, ps, pq, sq, lp, ls, lq⟩ := f
  exact ⟨⟨C, dx, fs, k _ _ (.inl rfl) g1, g2⟩, k _ _ (.inr (.inl rfl)) hp, k _ _ (.inr (.inr (.inl rfl))) hs, k _ _ (.inr (.inr (.inr rfl))) hq, ps, pq, sq, lp, ls, lq⟩
theorem HeapF.mono {K : PySem.W.Frag} {H H' : Hp} {h p s q : Addr} {kp ks kq : List (Key × V)} (f : HeapF K H h p s q kp ks kq) (e : Evl.Ex H H') : HeapF K H' h p s q kp ks kq := f.keep fun b o _ x => e b o x
theorem HeapF.ne {K : PySem.W.Frag} {H : Hp} {h p s q t : Addr} {kp ks kq : List (Key × V)} (f : HeapF K H h p s q kp ks kq) (n : H t = none) : t ≠ h ∧ t ≠ p ∧ t ≠ s ∧ t ≠ q := by
  obtain ⟨⟨C, dx, fs, g1, g2⟩, hp, hs, hq, _⟩ := f
  exact ⟨fun z => (by rw [z, g1] at n; cases n), fun z => (by rw [z, hp] at n; cases n), fun z => (by rw [z, hs] at n; cases n), fun z => (by rw [z, hq] at n; cases n)⟩
/-- all but these stays -/
def But (xs : List Addr) (H H' : Hp) : Prop := ∀ b o, b ∉ xs → H b = some o → H' b = some o
/-- what put_in leaves: the thing t (its object u), in the heap at place n -/
structure PutOk (H H' : Hp) (t p s q r : Addr) (n : Int) (u : HO) (kp' ks' kq' : List (Key × V)) : Prop where
  at_t : H' t = some u
  at_p : H' p = some (.dK kp')
  at_s : H' s = some (.dK ks')
  at_q : H' q = some (.dK kq')
  at_r : H' r = some (.tup [.str "at", .int n])
  new_r : H r = none
  but : But [t, p, s, q] H H'
def spPutIn (cC cS cP : Addr) (K : PySem.W.Frag) : Sp := fun vs H Q _ => ∃ (h t p s q dt : Addr) (n : Int) (kp ks kq : List (Key × V)) (rf : V), vs = [.ref h, .ref t, .int n] ∧ HeapF K H h p s q kp ks kq ∧ h ≠ t ∧
  ((∃ (se : Int) (mk ct : V), H t = some (.ins cC dt (fs_Cell (.int se) mk ct (.int 0) .non rf)) ∧ ∀ r H', PutOk H H' t p s q r n (.ins cC dt (fs_Cell (.int se) mk ct (.int n) .non rf)) (putK kp (.inl n) (.ref t)) (putK ks (.inl se) (.int n)) kq → Q (.ref r) H') ∨
   (∃ (se : Int) (mk bo : V), H t = some (.ins cS dt (fs_Service (.int se) mk bo (.int 0) .non rf)) ∧ ∀ r H', PutOk H H' t p s q r n (.ins cS dt (fs_Service (.int se) mk bo (.int n) .non rf)) (putK kp (.inl n) (.ref t)) (putK ks (.inl se) (.int n)) kq → Q (.ref r) H') ∨
   (∃ (en : Int), H t = some (.ins cP dt (fs_Proxy .non .non (.int en) (.int 0) .non rf)) ∧ ∀ r H', PutOk H H' t p s q r n (.ins cP dt (fs_Proxy .non .non (.int en) (.int n) .non rf)) (putK kp (.inl n) (.ref t)) ks (putK kq (.inl en) (.int n)) → Q (.ref r) H'))
theorem put_ok {H H4 : Hp} {t p s q r : Addr} {n : Int} {u u0 : HO} {kp ks kp' ks' kq : List (Key × V)} (ht : H t = some u0) (htp : t ≠ p) (hts : t ≠ s) (htq : t ≠ q) (hp : H p = some (.dK kp)) (hs : H s = some (.dK ks)) (hq : H q = some (.dK kq)) (ps : p ≠ s) (pq : p ≠ q) (sq : s ≠ q)
    (e : Evl.Ex (upd (upd (upd H t u) p (.dK kp')) s (.dK ks')) H4) (nr : (upd (upd (upd H t u) p (.dK kp')) s (.dK ks')) r = none) (hr : H4 r = some (.tup [.str "at", .int n])) : PutOk H H4 t p s q r n u kp' ks' kq where
  at_t := e _ _ (by rw [upd_ne hts, upd_ne htp]; exact upd_same)
  at_p := e _ _ (by rw [upd_ne ps]; exact upd_same)
  at_s := e _ _ upd_same
  at_q := e _ _ (by rw [upd_ne (Ne.symm sq), upd_ne (Ne.symm pq), upd_ne (Ne.symm htq)]; exact hq)
  at_r := hr
  new_r := by
    have hrt : r ≠ t := fun z => by rw [z, upd_ne hts, upd_ne htp, upd_same] at nr; cases nr
    have hrs : r ≠ s := fun z => by rw [z, upd_same] at nr; cases nr
    have hrp : r ≠ p := fun z => by rw [z, upd_ne ps, upd_same] at nr; cases nr
    rw [upd_ne hrs, upd_ne hrp, upd_ne hrt] at nr; exact nr
  but := fun b o hb hbo => by
    simp only [List.mem_cons, List.not_mem_nil, or_false, not_or] at hb
    exact e _ _ (by rw [upd_ne hb.2.2.1, upd_ne hb.2.1, upd_ne hb.1]; exact hbo)
theorem ok_put_in {ad : Ad} (T : Txt K mg ad) : FnOk P w K mg base CX0 1 ad.a_put_in ad.d_put_in ["heap", "thing", "place"] (spPutIn ad.c_Cell ad.c_Service ad.c_Proxy K) := by
  refine T.F_put_in.ok sc_put_in (fun vs H Q E h => ?_) (fun cdv A outer s H vs Q E hr h => ?_)
  · obtain ⟨h, t, p, s1, q, dt, n, kp, ks, kq, rf, rfl, hF, hht, hk⟩ := h
    rfl
  · obtain ⟨h, t, p, s1, q, dt, n, kp, ks, kq, rf, rfl, hF, hht, hk⟩ := h
    refine ⟨_, (pss_cons (ps_fld (pv 1) (pv 2) rfl)
      (pss_cons (ps_dput (hu_of hr) (pe_fld (pv 0) rfl) (pv 2) (pv 1) rfl)
      (pss_cons (ps_if (pt_val (pe_callB (id := "isinstance") call_isi (by rfl) T.z_isinstance (by decide +kernel) (pa_cons (pv 1) (pa_cons (pe_glob (v := .ref ad.c_Proxy) rfl T.mg_Proxy rfl) pa_nil)))) (pss_one (ps_dput (hu_of hr) (pe_fld (pv 0) rfl) (pe_fld (pv 1) rfl) (pv 2) rfl)) (pss_one (ps_dput (hu_of hr) (pe_fld (pv 0) rfl) (pe_fld (pv 1) rfl) (pv 2) rfl)))
      (pss_one (ps_ret (pe_tup (pa_cons pe_str (pa_cons (pv 2) pa_nil)))))))), ?_⟩
    try dsimp only [L2.cxOf, L2.Cx.nox, L2.Cx.wish]
    change (_ : TS) _ ([some (.ref h), some (.ref t), some (.int n)] : St) _
    have cl_Cell := T.cl_Cell
    have n_Cell_content := T.n_Cell_content
    have n_Cell_link := T.n_Cell_link
    have n_Cell_maker := T.n_Cell_maker
    have n_Cell_place := T.n_Cell_place
    have n_Cell_references := T.n_Cell_references
    have n_Cell_serial := T.n_Cell_serial
    have cl_CountedHeap := T.cl_CountedHeap
    have n_CountedHeap_places := T.n_CountedHeap_places
    have n_CountedHeap_proxies := T.n_CountedHeap_proxies
    have n_CountedHeap_serials := T.n_CountedHeap_serials
    have n_CountedHeap_vacant := T.n_CountedHeap_vacant
    have cl_PlainHeap := T.cl_PlainHeap
    have n_PlainHeap_places := T.n_PlainHeap_places
    have n_PlainHeap_proxies := T.n_PlainHeap_proxies
    have n_PlainHeap_serials := T.n_PlainHeap_serials
    have cl_Proxy := T.cl_Proxy
    have n_Proxy_entry := T.n_Proxy_entry
    have n_Proxy_link := T.n_Proxy_link
    have n_Proxy_maker := T.n_Proxy_maker
    have n_Proxy_place := T.n_Proxy_place
    have n_Proxy_references := T.n_Proxy_references
    have n_Proxy_serial := T.n_Proxy_serial
    have cl_Service := T.cl_Service
    have n_Service_body := T.n_Service_body
    have n_Service_link := T.n_Service_link
    have n_Service_maker := T.n_Service_maker
    have n_Service_place := T.n_Service_place
    have n_Service_references := T.n_Service_references
    have n_Service_serial := T.n_Service_serial
    have cl_TracedHeap := T.cl_TracedHeap
    have n_TracedHeap_next_index := T.n_TracedHeap_next_index
    have n_TracedHeap_places := T.n_TracedHeap_places
    have n_TracedHeap_proxies := T.n_TracedHeap_proxies
    have n_TracedHeap_serials := T.n_TracedHeap_serials
    have n_TracedHeap_space := T.n_TracedHeap_space
    obtain ⟨⟨Ch, dh, fh, hh, hcl, hn1, hn2, hn3, hl1, hl2, hl3⟩, hp, hs, hq, ps, pq, sq, lp, ls, lq⟩ := hF
    rcases hk with ⟨se, mk, ct, ht, k⟩ | ⟨se, mk, bo, ht, k⟩ | ⟨en, ht, k⟩
    · have htp : t ≠ p := ne_of ht hp (by intro z; cases z)
      have hts : t ≠ s1 := ne_of ht hs (by intro z; cases z)
      have htq : t ≠ q := ne_of ht hq (by intro z; cases z)
      have hhp : h ≠ p := ne_of hh hp (by intro z; cases z)
      walk_at "rd"
      rw [st_Cell_place]
      have hh1 : (upd H t (.ins ad.c_Cell dt (fs_Cell (.int se) mk ct (.int n) .non rf))) h = some (.ins Ch dh fh) := by rw [upd_ne hht]; exact hh
      refine Rd.rfld hh1 hcl hn1 hl1 ?_
      walk_at "rd"
      refine Rd.xdput (kvs := kp) (by rw [upd_ne (Ne.symm htp)]; exact hp) (by omega) ?_
      walk_at "rd"
      refine Rd.isiOwn ((upd_ne htp).trans upd_same) T.cl_Cell T.is_Cell T.is_get T.is_tk T.io_Cell T.kt_Cell_Proxy ?_
      walk_at "rd"
      refine Rd.rfld ((upd_ne hhp).trans hh1) hcl hn2 hl2 ?_
      walk_at "rd"
      refine Rd.xdput (kvs := ks) (by rw [upd_ne (Ne.symm ps), upd_ne (Ne.symm hts)]; exact hs) (by omega) ?_
      walk_at "rd"
      refine Rd.xtup rfl fun r H4 n4 e4 hr => ?_
      exact k r H4 (put_ok ht htp hts htq hp hs hq ps pq sq e4 n4 hr)
    · have htp : t ≠ p := ne_of ht hp (by intro z; cases z)
      have hts : t ≠ s1 := ne_of ht hs (by intro z; cases z)
      have htq : t ≠ q := ne_of ht hq (by intro z; cases z)
      have hhp : h ≠ p := ne_of hh hp (by intro z; cases z)
      walk_at "rd"
      rw [st_Service_place]
      have hh1 : (upd H t (.ins ad.c_Service dt (fs_Service (.int se) mk bo (.int n) .non rf))) h = some (.ins Ch dh fh) := by rw [upd_ne hht]; exact hh
      refine Rd.rfld hh1 hcl hn1 hl1 ?_
      walk_at "rd"
      refine Rd.xdput (kvs := kp) (by rw [upd_ne (Ne.symm htp)]; exact hp) (by omega) ?_
      walk_at "rd"
      refine Rd.isiOwn ((upd_ne htp).trans upd_same) T.cl_Service T.is_Service T.is_get T.is_tk T.io_Service T.kt_Service_Proxy ?_
      walk_at "rd"
      refine Rd.rfld ((upd_ne hhp).trans hh1) hcl hn2 hl2 ?_
      walk_at "rd"
      refine Rd.xdput (kvs := ks) (by rw [upd_ne (Ne.symm ps), upd_ne (Ne.symm hts)]; exact hs) (by omega) ?_
      walk_at "rd"
      refine Rd.xtup rfl fun r H4 n4 e4 hr => ?_
      exact k r H4 (put_ok ht htp hts htq hp hs hq ps pq sq e4 n4 hr)
    · have htp : t ≠ p := ne_of ht hp (by intro z; cases z)
      have hts : t ≠ s1 := ne_of ht hs (by intro z; cases z)
      have htq : t ≠ q := ne_of ht hq (by intro z; cases z)
      have hhp : h ≠ p := ne_of hh hp (by intro z; cases z)
      walk_at "rd"
      rw [st_Proxy_place]
      have hh1 : (upd H t (.ins ad.c_Proxy dt (fs_Proxy .non .non (.int en) (.int n) .non rf))) h = some (.ins Ch dh fh) := by rw [upd_ne hht]; exact hh
      refine Rd.rfld hh1 hcl hn1 hl1 ?_
      walk_at "rd"
      refine Rd.xdput (kvs := kp) (by rw [upd_ne (Ne.symm htp)]; exact hp) (by omega) ?_
      walk_at "rd"
      refine Rd.isiOwn ((upd_ne htp).trans upd_same) T.cl_Proxy T.is_Proxy T.is_get T.is_tk T.io_Proxy T.kt_Proxy_Proxy ?_
      walk_at "rd"
      refine Rd.rfld ((upd_ne hhp).trans hh1) hcl hn3 hl3 ?_
      walk_at "rd"
      refine Rd.xdput (kvs := kq) (by rw [upd_ne (Ne.symm pq), upd_ne (Ne.symm htq)]; exact hq) (by omega) ?_
      walk_at "rd"
      refine Rd.xtup rfl fun r H4 n4 e4 hr => ?_
      have g := put_ok ht htp htq hts hp hq hs pq ps (Ne.symm sq) e4 n4 hr
      refine k r H4 ⟨g.at_t, g.at_p, g.at_q, g.at_s, g.at_r, g.new_r, fun b o hb hbo => g.but b o (fun z => hb ?_) hbo⟩
      simp only [List.mem_cons, List.not_mem_nil, or_false] at z ⊢
      rcases z with z | z | z | z
      · exact .inl z
      · exact .inr (.inl z)
      · exact .inr (.inr (.inr z))
      · exact .inr (.inr (.inl z))

/-! split -/
/-! ### the heaps -/
def spHeapI (C : Addr) (mk : V → V → V → V → List (Str × V)) : Sp := fun vs H Q _ => ∃ (x dx : Addr), vs = [.ref x] ∧ H x = some (.ins C dx []) ∧
  ∀ p s q v H', H p = none → H s = none → H q = none → p ≠ s → p ≠ q → s ≠ q → H' x = some (.ins C dx (mk (.ref p) (.ref s) (.ref q) (.ref v))) → H' p = some (.dK []) → H' s = some (.dK []) → H' q = some (.dK []) → H' v = some (.lst []) → But [x] H H' → Q .non H'
theorem ok_CountedHeap_init_ {ad : Ad} (T : Txt K mg ad) : FnOk P w K mg base CX0 1 ad.a_CountedHeap_init_ ad.d_CountedHeap_init_ ["self"] (spHeapI ad.c_CountedHeap fs_CountedHeap) := by
  refine T.F_CountedHeap_init_.ok sc_CountedHeap_init_ (fun vs H Q E h => ?_) (fun cdv A outer s H vs Q E hr h => ?_)
  · obtain ⟨x, dx, rfl, hx, k⟩ := h
    rfl
  · obtain ⟨x, dx, rfl, hx, k⟩ := h
    refine ⟨_, (pss_cons (ps_fld (pv 0) pe_dnewK rfl)
      (pss_cons (ps_fld (pv 0) pe_dnewK rfl)
      (pss_cons (ps_fld (pv 0) pe_dnewK rfl)
      (pss_one (ps_fld (pv 0) (pe_lst pa_nil) rfl))))), ?_⟩
    try dsimp only [L2.cxOf, L2.Cx.nox, L2.Cx.wish]
    change (_ : TS) _ ([some (.ref x)] : St) _
    have cl_Cell := T.cl_Cell
    have n_Cell_content := T.n_Cell_content
    have n_Cell_link := T.n_Cell_link
    have n_Cell_maker := T.n_Cell_maker
    have n_Cell_place := T.n_Cell_place
    have n_Cell_references := T.n_Cell_references
    have n_Cell_serial := T.n_Cell_serial
    have cl_CountedHeap := T.cl_CountedHeap
    have n_CountedHeap_places := T.n_CountedHeap_places
    have n_CountedHeap_proxies := T.n_CountedHeap_proxies
    have n_CountedHeap_serials := T.n_CountedHeap_serials
    have n_CountedHeap_vacant := T.n_CountedHeap_vacant
    have cl_PlainHeap := T.cl_PlainHeap
    have n_PlainHeap_places := T.n_PlainHeap_places
    have n_PlainHeap_proxies := T.n_PlainHeap_proxies
    have n_PlainHeap_serials := T.n_PlainHeap_serials
    have cl_Proxy := T.cl_Proxy
    have n_Proxy_entry := T.n_Proxy_entry
    have n_Proxy_link := T.n_Proxy_link
    have n_Proxy_maker := T.n_Proxy_maker
    have n_Proxy_place := T.n_Proxy_place
    have n_Proxy_references := T.n_Proxy_references
    have n_Proxy_serial := T.n_Proxy_serial
    have cl_Service := T.cl_Service
    have n_Service_body := T.n_Service_body
    have n_Service_link := T.n_Service_link
    have n_Service_maker := T.n_Service_maker
    have n_Service_place := T.n_Service_place
    have n_Service_references := T.n_Service_references
    have n_Service_serial := T.n_Service_serial
    have cl_TracedHeap := T.cl_TracedHeap
    have n_TracedHeap_next_index := T.n_TracedHeap_next_index
    have n_TracedHeap_places := T.n_TracedHeap_places
    have n_TracedHeap_proxies := T.n_TracedHeap_proxies
    have n_TracedHeap_serials := T.n_TracedHeap_serials
    have n_TracedHeap_space := T.n_TracedHeap_space
    walk_at "rd"
    refine Rd.dnewE fun p H1 np e1 hp => ?_
    have hx1 := e1 _ _ hx
    have px : p ≠ x := fun z => by rw [z, hx] at np; cases np
    walk_at "rd"
    refine Rd.dnewE fun s1 H2 ns e2 hs => ?_
    have hx2 := e2 _ _ upd_same
    have hp2 := e2 _ _ ((upd_ne px).trans hp)
    have sx : s1 ≠ x := fun z => by rw [z, upd_same] at ns; cases ns
    have sp1 : s1 ≠ p := fun z => by rw [z, upd_ne px, hp] at ns; cases ns
    have ns' : H1 s1 = none := by rw [upd_ne sx] at ns; exact ns
    walk_at "rd"
    refine Rd.dnewE fun q H3 nq e3 hq => ?_
    have hx3 := e3 _ _ upd_same
    have hp3 := e3 _ _ ((upd_ne px).trans hp2)
    have hs3 := e3 _ _ ((upd_ne sx).trans hs)
    have qx : q ≠ x := fun z => by rw [z, upd_same] at nq; cases nq
    have qp : q ≠ p := fun z => by rw [z, upd_ne px, hp2] at nq; cases nq
    have qs : q ≠ s1 := fun z => by rw [z, upd_ne sx, hs] at nq; cases nq
    have nq' : H2 q = none := by rw [upd_ne qx] at nq; exact nq
    walk_at "rd"
    refine Rd.xlst rfl fun v H4 nv e4 hv => ?_
    have hx4 := e4 _ _ upd_same
    have hp4 := e4 _ _ ((upd_ne px).trans hp3)
    have hs4 := e4 _ _ ((upd_ne sx).trans hs3)
    have hq4 := e4 _ _ ((upd_ne qx).trans hq)
    have vx : v ≠ x := fun z => by rw [z, upd_same] at nv; cases nv
    walk_at "rd"
    simp only [pf_CountedHeap_places, pf_CountedHeap_serials, pf_CountedHeap_proxies, pf_CountedHeap_vacant]
    have back1 : ∀ b, H2 b = none → b ≠ x → H1 b = none := fun b n bx => by have z := Evl.fresh_back e2 n; rw [upd_ne bx] at z; exact z
    refine k p s1 q v _ np (Evl.fresh_back e1 ns') (Evl.fresh_back e1 (back1 q nq' qx)) (Ne.symm sp1) (Ne.symm qp) (Ne.symm qs) upd_same ((upd_ne px).trans hp4) ((upd_ne sx).trans hs4) ((upd_ne qx).trans hq4) ((upd_ne vx).trans hv) fun b o hb hbo => ?_
    simp only [List.mem_cons, List.not_mem_nil, or_false] at hb
    exact (upd_ne hb).trans (e4 _ _ ((upd_ne hb).trans (e3 _ _ ((upd_ne hb).trans (e2 _ _ ((upd_ne hb).trans (e1 _ _ hbo)))))))
def spHeapI3 (C : Addr) (mk : V → V → V → List (Str × V)) : Sp := fun vs H Q _ => ∃ (x dx : Addr), vs = [.ref x] ∧ H x = some (.ins C dx []) ∧
  ∀ p s q H', H p = none → H s = none → H q = none → p ≠ s → p ≠ q → s ≠ q → H' x = some (.ins C dx (mk (.ref p) (.ref s) (.ref q))) → H' p = some (.dK []) → H' s = some (.dK []) → H' q = some (.dK []) → But [x] H H' → Q .non H'
def mkT (a b c : V) : List (Str × V) := fs_TracedHeap a b c (.int 0) (.int 0)
theorem ok_TracedHeap_init_ {ad : Ad} (T : Txt K mg ad) : FnOk P w K mg base CX0 1 ad.a_TracedHeap_init_ ad.d_TracedHeap_init_ ["self"] (spHeapI3 ad.c_TracedHeap mkT) := by
  refine T.F_TracedHeap_init_.ok sc_TracedHeap_init_ (fun vs H Q E h => ?_) (fun cdv A outer s H vs Q E hr h => ?_)
  · obtain ⟨x, dx, rfl, hx, k⟩ := h
    rfl
  · obtain ⟨x, dx, rfl, hx, k⟩ := h
    refine ⟨_, (pss_cons (ps_fld (pv 0) pe_dnewK rfl)
      (pss_cons (ps_fld (pv 0) pe_dnewK rfl)
      (pss_cons (ps_fld (pv 0) pe_dnewK rfl)
      (pss_cons (ps_fld (pv 0) pe_int rfl)
      (pss_one (ps_fld (pv 0) pe_int rfl)))))), ?_⟩
    try dsimp only [L2.cxOf, L2.Cx.nox, L2.Cx.wish]
    change (_ : TS) _ ([some (.ref x)] : St) _
    have cl_Cell := T.cl_Cell
    have n_Cell_content := T.n_Cell_content
    have n_Cell_link := T.n_Cell_link
    have n_Cell_maker := T.n_Cell_maker
    have n_Cell_place := T.n_Cell_place
    have n_Cell_references := T.n_Cell_references
    have n_Cell_serial := T.n_Cell_serial
    have cl_CountedHeap := T.cl_CountedHeap
    have n_CountedHeap_places := T.n_CountedHeap_places
    have n_CountedHeap_proxies := T.n_CountedHeap_proxies
    have n_CountedHeap_serials := T.n_CountedHeap_serials
    have n_CountedHeap_vacant := T.n_CountedHeap_vacant
    have cl_PlainHeap := T.cl_PlainHeap
    have n_PlainHeap_places := T.n_PlainHeap_places
    have n_PlainHeap_proxies := T.n_PlainHeap_proxies
    have n_PlainHeap_serials := T.n_PlainHeap_serials
    have cl_Proxy := T.cl_Proxy
    have n_Proxy_entry := T.n_Proxy_entry
    have n_Proxy_link := T.n_Proxy_link
    have n_Proxy_maker := T.n_Proxy_maker
    have n_Proxy_place := T.n_Proxy_place
    have n_Proxy_references := T.n_Proxy_references
    have n_Proxy_serial := T.n_Proxy_serial
    have cl_Service := T.cl_Service
    have n_Service_body := T.n_Service_body
    have n_Service_link := T.n_Service_link
    have n_Service_maker := T.n_Service_maker
    have n_Service_place := T.n_Service_place
    have n_Service_references := T.n_Service_references
    have n_Service_serial := T.n_Service_serial
    have cl_TracedHeap := T.cl_TracedHeap
    have n_TracedHeap_next_index := T.n_TracedHeap_next_index
    have n_TracedHeap_places := T.n_TracedHeap_places
    have n_TracedHeap_proxies := T.n_TracedHeap_proxies
    have n_TracedHeap_serials := T.n_TracedHeap_serials
    have n_TracedHeap_space := T.n_TracedHeap_space
    walk_at "rd"
    refine Rd.dnewE fun p H1 np e1 hp => ?_
    have hx1 := e1 _ _ hx
    have px : p ≠ x := fun z => by rw [z, hx] at np; cases np
    walk_at "rd"
    refine Rd.dnewE fun s1 H2 ns e2 hs => ?_
    have hx2 := e2 _ _ upd_same
    have hp2 := e2 _ _ ((upd_ne px).trans hp)
    have sx : s1 ≠ x := fun z => by rw [z, upd_same] at ns; cases ns
    have sp1 : s1 ≠ p := fun z => by rw [z, upd_ne px, hp] at ns; cases ns
    have ns' : H1 s1 = none := by rw [upd_ne sx] at ns; exact ns
    walk_at "rd"
    refine Rd.dnewE fun q H3 nq e3 hq => ?_
    have hx3 := e3 _ _ upd_same
    have hp3 := e3 _ _ ((upd_ne px).trans hp2)
    have hs3 := e3 _ _ ((upd_ne sx).trans hs)
    have qx : q ≠ x := fun z => by rw [z, upd_same] at nq; cases nq
    have qp : q ≠ p := fun z => by rw [z, upd_ne px, hp2] at nq; cases nq
    have qs : q ≠ s1 := fun z => by rw [z, upd_ne sx, hs] at nq; cases nq
    have nq' : H2 q = none := by rw [upd_ne qx] at nq; exact nq
    walk_at "rd"
    have back1 : ∀ b, H2 b = none → b ≠ x → H1 b = none := fun b n bx => by have z := Evl.fresh_back e2 n; rw [upd_ne bx] at z; exact z
    simp only [upd_upd, pf_TracedHeap_places, pf_TracedHeap_serials, pf_TracedHeap_proxies]
    refine k p s1 q _ np (Evl.fresh_back e1 ns') (Evl.fresh_back e1 (back1 q nq' qx)) (Ne.symm sp1) (Ne.symm qp) (Ne.symm qs) upd_same ((upd_ne px).trans hp3) ((upd_ne sx).trans hs3) ((upd_ne qx).trans hq) fun b o hb hbo => ?_
    simp only [List.mem_cons, List.not_mem_nil, or_false] at hb
    exact (upd_ne hb).trans (e3 _ _ ((upd_ne hb).trans (e2 _ _ ((upd_ne hb).trans (e1 _ _ hbo)))))
theorem ok_PlainHeap_init_ {ad : Ad} (T : Txt K mg ad) : FnOk P w K mg base CX0 1 ad.a_PlainHeap_init_ ad.d_PlainHeap_init_ ["self"] (spHeapI3 ad.c_PlainHeap fs_PlainHeap) := by
  refine T.F_PlainHeap_init_.ok sc_PlainHeap_init_ (fun vs H Q E h => ?_) (fun cdv A outer s H vs Q E hr h => ?_)
  · obtain ⟨x, dx, rfl, hx, k⟩ := h
    rfl
  · obtain ⟨x, dx, rfl, hx, k⟩ := h
    refine ⟨_, (pss_cons (ps_fld (pv 0) pe_dnewK rfl)
      (pss_cons (ps_fld (pv 0) pe_dnewK rfl)
      (pss_one (ps_fld (pv 0) pe_dnewK rfl)))), ?_⟩
    try dsimp only [L2.cxOf, L2.Cx.nox, L2.Cx.wish]
    change (_ : TS) _ ([some (.ref x)] : St) _
    have cl_Cell := T.cl_Cell
    have n_Cell_content := T.n_Cell_content
    have n_Cell_link := T.n_Cell_link
    have n_Cell_maker := T.n_Cell_maker
    have n_Cell_place := T.n_Cell_place
    have n_Cell_references := T.n_Cell_references
    have n_Cell_serial := T.n_Cell_serial
    have cl_CountedHeap := T.cl_CountedHeap
    have n_CountedHeap_places := T.n_CountedHeap_places
    have n_CountedHeap_proxies := T.n_CountedHeap_proxies
    have n_CountedHeap_serials := T.n_CountedHeap_serials
    have n_CountedHeap_vacant := T.n_CountedHeap_vacant
    have cl_PlainHeap := T.cl_PlainHeap
    have n_PlainHeap_places := T.n_PlainHeap_places
    have n_PlainHeap_proxies := T.n_PlainHeap_proxies
    have n_PlainHeap_serials := T.n_PlainHeap_serials
    have cl_Proxy := T.cl_Proxy
    have n_Proxy_entry := T.n_Proxy_entry
    have n_Proxy_link := T.n_Proxy_link
    have n_Proxy_maker := T.n_Proxy_maker
    have n_Proxy_place := T.n_Proxy_place
    have n_Proxy_references := T.n_Proxy_references
    have n_Proxy_serial := T.n_Proxy_serial
    have cl_Service := T.cl_Service
    have n_Service_body := T.n_Service_body
    have n_Service_link := T.n_Service_link
    have n_Service_maker := T.n_Service_maker
    have n_Service_place := T.n_Service_place
    have n_Service_references := T.n_Service_references
    have n_Service_serial := T.n_Service_serial
    have cl_TracedHeap := T.cl_TracedHeap
    have n_TracedHeap_next_index := T.n_TracedHeap_next_index
    have n_TracedHeap_places := T.n_TracedHeap_places
    have n_TracedHeap_proxies := T.n_TracedHeap_proxies
    have n_TracedHeap_serials := T.n_TracedHeap_serials
    have n_TracedHeap_space := T.n_TracedHeap_space
    walk_at "rd"
    refine Rd.dnewE fun p H1 np e1 hp => ?_
    have hx1 := e1 _ _ hx
    have px : p ≠ x := fun z => by rw [z, hx] at np; cases np
    walk_at "rd"
    refine Rd.dnewE fun s1 H2 ns e2 hs => ?_
    have hx2 := e2 _ _ upd_same
    have hp2 := e2 _ _ ((upd_ne px).trans hp)
    have sx : s1 ≠ x := fun z => by rw [z, upd_same] at ns; cases ns
    have sp1 : s1 ≠ p := fun z => by rw [z, upd_ne px, hp] at ns; cases ns
    have ns' : H1 s1 = none := by rw [upd_ne sx] at ns; exact ns
    walk_at "rd"
    refine Rd.dnewE fun q H3 nq e3 hq => ?_
    have hx3 := e3 _ _ upd_same
    have hp3 := e3 _ _ ((upd_ne px).trans hp2)
    have hs3 := e3 _ _ ((upd_ne sx).trans hs)
    have qx : q ≠ x := fun z => by rw [z, upd_same] at nq; cases nq
    have qp : q ≠ p := fun z => by rw [z, upd_ne px, hp2] at nq; cases nq
    have qs : q ≠ s1 := fun z => by rw [z, upd_ne sx, hs] at nq; cases nq
    have nq' : H2 q = none := by rw [upd_ne qx] at nq; exact nq
    walk_at "rd"
    have back1 : ∀ b, H2 b = none → b ≠ x → H1 b = none := fun b n bx => by have z := Evl.fresh_back e2 n; rw [upd_ne bx] at z; exact z
    simp only [upd_upd, pf_PlainHeap_places, pf_PlainHeap_serials, pf_PlainHeap_proxies]
    refine k p s1 q _ np (Evl.fresh_back e1 ns') (Evl.fresh_back e1 (back1 q nq' qx)) (Ne.symm sp1) (Ne.symm qp) (Ne.symm qs) upd_same ((upd_ne px).trans hp3) ((upd_ne sx).trans hs3) ((upd_ne qx).trans hq) fun b o hb hbo => ?_
    simp only [List.mem_cons, List.not_mem_nil, or_false] at hb
    exact (upd_ne hb).trans (e3 _ _ ((upd_ne hb).trans (e2 _ _ ((upd_ne hb).trans (e1 _ _ hbo)))))
def spThing (K : PySem.W.Frag) : Sp := fun vs H Q _ => ∃ (h p s q r : Addr) (n : Int) (kp ks kq : List (Key × V)) (t : V), vs = [.ref h, .ref r] ∧ HeapF K H h p s q kp ks kq ∧ H r = some (.tup [.str "at", .int n]) ∧ valV kp (.inl n) = some t ∧ Q t H
def spWhere (K : PySem.W.Frag) : Sp := fun vs H Q _ => ∃ (h p s q : Addr) (n : Int) (kp ks kq : List (Key × V)), vs = [.ref h, .int n] ∧ HeapF K H h p s q kp ks kq ∧ Q ((valV ks (.inl n)).getD .non) H
def spWhereP (K : PySem.W.Frag) : Sp := fun vs H Q _ => ∃ (h p s q : Addr) (n : Int) (kp ks kq : List (Key × V)), vs = [.ref h, .int n] ∧ HeapF K H h p s q kp ks kq ∧ Q ((valV kq (.inl n)).getD .non) H
theorem ok_CountedHeap_thing {ad : Ad} (T : Txt K mg ad) : FnOk P w K mg base CX0 1 ad.a_CountedHeap_thing ad.d_CountedHeap_thing ["self", "reference"] (spThing K) := by
  refine T.F_CountedHeap_thing.ok sc_CountedHeap_thing (fun vs H Q E h => ?_) (fun cdv A outer s H vs Q E hr h => ?_)
  · obtain ⟨h, p, s1, q, r, n, kp, ks, kq, t, rfl, ⟨⟨Ch, dh, fh, hh, hcl, hn1, hn2, hn3, hl1, hl2, hl3⟩, hp, _⟩, hr1, hv, k⟩ := h
    rfl
  · obtain ⟨h, p, s1, q, r, n, kp, ks, kq, t, rfl, ⟨⟨Ch, dh, fh, hh, hcl, hn1, hn2, hn3, hl1, hl2, hl3⟩, hp, _⟩, hr1, hv, k⟩ := h
    refine ⟨_, (pss_one (ps_ret (pe_dget (hu_of hr) (pe_fld (pv 0) rfl) (pe_ix ix_tup (pv 1) pe_int (fun _ _ => rfl)) (fun _ _ => rfl)))), ?_⟩
    try dsimp only [L2.cxOf, L2.Cx.nox, L2.Cx.wish]
    change (_ : TS) _ ([some (.ref h), some (.ref r)] : St) _
    have cl_Cell := T.cl_Cell
    have n_Cell_content := T.n_Cell_content
    have n_Cell_link := T.n_Cell_link
    have n_Cell_maker := T.n_Cell_maker
    have n_Cell_place := T.n_Cell_place
    have n_Cell_references := T.n_Cell_references
    have n_Cell_serial := T.n_Cell_serial
    have cl_CountedHeap := T.cl_CountedHeap
    have n_CountedHeap_places := T.n_CountedHeap_places
    have n_CountedHeap_proxies := T.n_CountedHeap_proxies
    have n_CountedHeap_serials := T.n_CountedHeap_serials
    have n_CountedHeap_vacant := T.n_CountedHeap_vacant
    have cl_PlainHeap := T.cl_PlainHeap
    have n_PlainHeap_places := T.n_PlainHeap_places
    have n_PlainHeap_proxies := T.n_PlainHeap_proxies
    have n_PlainHeap_serials := T.n_PlainHeap_serials
    have cl_Proxy := T.cl_Proxy
    have n_Proxy_entry := T.n_Proxy_entry
    have n_Proxy_link := T.n_Proxy_link
    have n_Proxy_maker := T.n_Proxy_maker
    have n_Proxy_place := T.n_Proxy_place
    have n_Proxy_references := T.n_Proxy_references
    have n_Proxy_serial := T.n_Proxy_serial
    have cl_Service := T.cl_Service
    have n_Service_body := T.n_Service_body
    have n_Service_link := T.n_Service_link
    have n_Service_maker := T.n_Service_maker
    have n_Service_place := T.n_Service_place
    have n_Service_references := T.n_Service_references
    have n_Service_serial := T.n_Service_serial
    have cl_TracedHeap := T.cl_TracedHeap
    have n_TracedHeap_next_index := T.n_TracedHeap_next_index
    have n_TracedHeap_places := T.n_TracedHeap_places
    have n_TracedHeap_proxies := T.n_TracedHeap_proxies
    have n_TracedHeap_serials := T.n_TracedHeap_serials
    have n_TracedHeap_space := T.n_TracedHeap_space
    walk_at "rd"
    refine Rd.rfld hh hcl hn1 hl1 ?_
    walk_at "rd"
    exact Rd.xdget hp hv k
theorem ok_CountedHeap_where {ad : Ad} (T : Txt K mg ad) : FnOk P w K mg base CX0 1 ad.a_CountedHeap_where ad.d_CountedHeap_where ["self", "serial"] (spWhere K) := by
  refine T.F_CountedHeap_where.ok sc_CountedHeap_where (fun vs H Q E h => ?_) (fun cdv A outer s H vs Q E hr h => ?_)
  · obtain ⟨h, p, s1, q, n, kp, ks, kq, rfl, ⟨⟨Ch, dh, fh, hh, hcl, hn1, hn2, hn3, hl1, hl2, hl3⟩, hp, hs, _⟩, k⟩ := h
    rfl
  · obtain ⟨h, p, s1, q, n, kp, ks, kq, rfl, ⟨⟨Ch, dh, fh, hh, hcl, hn1, hn2, hn3, hl1, hl2, hl3⟩, hp, hs, _⟩, k⟩ := h
    refine ⟨_, (pss_one (ps_ret (pe_dget1 (hu_of hr) (pe_fld (pv 0) rfl) (pv 1) ⟨by rfl, by rfl, by rfl, by rfl⟩))), ?_⟩
    try dsimp only [L2.cxOf, L2.Cx.nox, L2.Cx.wish]
    change (_ : TS) _ ([some (.ref h), some (.int n)] : St) _
    have cl_Cell := T.cl_Cell
    have n_Cell_content := T.n_Cell_content
    have n_Cell_link := T.n_Cell_link
    have n_Cell_maker := T.n_Cell_maker
    have n_Cell_place := T.n_Cell_place
    have n_Cell_references := T.n_Cell_references
    have n_Cell_serial := T.n_Cell_serial
    have cl_CountedHeap := T.cl_CountedHeap
    have n_CountedHeap_places := T.n_CountedHeap_places
    have n_CountedHeap_proxies := T.n_CountedHeap_proxies
    have n_CountedHeap_serials := T.n_CountedHeap_serials
    have n_CountedHeap_vacant := T.n_CountedHeap_vacant
    have cl_PlainHeap := T.cl_PlainHeap
    have n_PlainHeap_places := T.n_PlainHeap_places
    have n_PlainHeap_proxies := T.n_PlainHeap_proxies
    have n_PlainHeap_serials := T.n_PlainHeap_serials
    have cl_Proxy := T.cl_Proxy
    have n_Proxy_entry := T.n_Proxy_entry
    have n_Proxy_link := T.n_Proxy_link
    have n_Proxy_maker := T.n_Proxy_maker
    have n_Proxy_place := T.n_Proxy_place
    have n_Proxy_references := T.n_Proxy_references
    have n_Proxy_serial := T.n_Proxy_serial
    have cl_Service := T.cl_Service
    have n_Service_body := T.n_Service_body
    have n_Service_link := T.n_Service_link
    have n_Service_maker := T.n_Service_maker
    have n_Service_place := T.n_Service_place
    have n_Service_references := T.n_Service_references
    have n_Service_serial := T.n_Service_serial
    have cl_TracedHeap := T.cl_TracedHeap
    have n_TracedHeap_next_index := T.n_TracedHeap_next_index
    have n_TracedHeap_places := T.n_TracedHeap_places
    have n_TracedHeap_proxies := T.n_TracedHeap_proxies
    have n_TracedHeap_serials := T.n_TracedHeap_serials
    have n_TracedHeap_space := T.n_TracedHeap_space
    walk_at "rd"
    refine Rd.rfld hh hcl hn2 hl2 ?_
    walk_at "rd"
    exact Rd.xdo hs rfl k
theorem ok_CountedHeap_where_proxy {ad : Ad} (T : Txt K mg ad) : FnOk P w K mg base CX0 1 ad.a_CountedHeap_where_proxy ad.d_CountedHeap_where_proxy ["self", "entry"] (spWhereP K) := by
  refine T.F_CountedHeap_where_proxy.ok sc_CountedHeap_where_proxy (fun vs H Q E h => ?_) (fun cdv A outer s H vs Q E hr h => ?_)
  · obtain ⟨h, p, s1, q, n, kp, ks, kq, rfl, ⟨⟨Ch, dh, fh, hh, hcl, hn1, hn2, hn3, hl1, hl2, hl3⟩, hp, hs, hq, _⟩, k⟩ := h
    rfl
  · obtain ⟨h, p, s1, q, n, kp, ks, kq, rfl, ⟨⟨Ch, dh, fh, hh, hcl, hn1, hn2, hn3, hl1, hl2, hl3⟩, hp, hs, hq, _⟩, k⟩ := h
    refine ⟨_, (pss_one (ps_ret (pe_dget1 (hu_of hr) (pe_fld (pv 0) rfl) (pv 1) ⟨by rfl, by rfl, by rfl, by rfl⟩))), ?_⟩
    try dsimp only [L2.cxOf, L2.Cx.nox, L2.Cx.wish]
    change (_ : TS) _ ([some (.ref h), some (.int n)] : St) _
    have cl_Cell := T.cl_Cell
    have n_Cell_content := T.n_Cell_content
    have n_Cell_link := T.n_Cell_link
    have n_Cell_maker := T.n_Cell_maker
    have n_Cell_place := T.n_Cell_place
    have n_Cell_references := T.n_Cell_references
    have n_Cell_serial := T.n_Cell_serial
    have cl_CountedHeap := T.cl_CountedHeap
    have n_CountedHeap_places := T.n_CountedHeap_places
    have n_CountedHeap_proxies := T.n_CountedHeap_proxies
    have n_CountedHeap_serials := T.n_CountedHeap_serials
    have n_CountedHeap_vacant := T.n_CountedHeap_vacant
    have cl_PlainHeap := T.cl_PlainHeap
    have n_PlainHeap_places := T.n_PlainHeap_places
    have n_PlainHeap_proxies := T.n_PlainHeap_proxies
    have n_PlainHeap_serials := T.n_PlainHeap_serials
    have cl_Proxy := T.cl_Proxy
    have n_Proxy_entry := T.n_Proxy_entry
    have n_Proxy_link := T.n_Proxy_link
    have n_Proxy_maker := T.n_Proxy_maker
    have n_Proxy_place := T.n_Proxy_place
    have n_Proxy_references := T.n_Proxy_references
    have n_Proxy_serial := T.n_Proxy_serial
    have cl_Service := T.cl_Service
    have n_Service_body := T.n_Service_body
    have n_Service_link := T.n_Service_link
    have n_Service_maker := T.n_Service_maker
    have n_Service_place := T.n_Service_place
    have n_Service_references := T.n_Service_references
    have n_Service_serial := T.n_Service_serial
    have cl_TracedHeap := T.cl_TracedHeap
    have n_TracedHeap_next_index := T.n_TracedHeap_next_index
    have n_TracedHeap_places := T.n_TracedHeap_places
    have n_TracedHeap_proxies := T.n_TracedHeap_proxies
    have n_TracedHeap_serials := T.n_TracedHeap_serials
    have n_TracedHeap_space := T.n_TracedHeap_space
    walk_at "rd"
    refine Rd.rfld hh hcl hn3 hl3 ?_
    walk_at "rd"
    exact Rd.xdo hq rfl k
theorem ok_TracedHeap_thing {ad : Ad} (T : Txt K mg ad) : FnOk P w K mg base CX0 1 ad.a_TracedHeap_thing ad.d_TracedHeap_thing ["self", "reference"] (spThing K) := by
  refine T.F_TracedHeap_thing.ok sc_TracedHeap_thing (fun vs H Q E h => ?_) (fun cdv A outer s H vs Q E hr h => ?_)
  · obtain ⟨h, p, s1, q, r, n, kp, ks, kq, t, rfl, ⟨⟨Ch, dh, fh, hh, hcl, hn1, hn2, hn3, hl1, hl2, hl3⟩, hp, _⟩, hr1, hv, k⟩ := h
    rfl
  · obtain ⟨h, p, s1, q, r, n, kp, ks, kq, t, rfl, ⟨⟨Ch, dh, fh, hh, hcl, hn1, hn2, hn3, hl1, hl2, hl3⟩, hp, _⟩, hr1, hv, k⟩ := h
    refine ⟨_, (pss_one (ps_ret (pe_dget (hu_of hr) (pe_fld (pv 0) rfl) (pe_ix ix_tup (pv 1) pe_int (fun _ _ => rfl)) (fun _ _ => rfl)))), ?_⟩
    try dsimp only [L2.cxOf, L2.Cx.nox, L2.Cx.wish]
    change (_ : TS) _ ([some (.ref h), some (.ref r)] : St) _
    have cl_Cell := T.cl_Cell
    have n_Cell_content := T.n_Cell_content
    have n_Cell_link := T.n_Cell_link
    have n_Cell_maker := T.n_Cell_maker
    have n_Cell_place := T.n_Cell_place
    have n_Cell_references := T.n_Cell_references
    have n_Cell_serial := T.n_Cell_serial
    have cl_CountedHeap := T.cl_CountedHeap
    have n_CountedHeap_places := T.n_CountedHeap_places
    have n_CountedHeap_proxies := T.n_CountedHeap_proxies
    have n_CountedHeap_serials := T.n_CountedHeap_serials
    have n_CountedHeap_vacant := T.n_CountedHeap_vacant
    have cl_PlainHeap := T.cl_PlainHeap
    have n_PlainHeap_places := T.n_PlainHeap_places
    have n_PlainHeap_proxies := T.n_PlainHeap_proxies
    have n_PlainHeap_serials := T.n_PlainHeap_serials
    have cl_Proxy := T.cl_Proxy
    have n_Proxy_entry := T.n_Proxy_entry
    have n_Proxy_link := T.n_Proxy_link
    have n_Proxy_maker := T.n_Proxy_maker
    have n_Proxy_place := T.n_Proxy_place
    have n_Proxy_references := T.n_Proxy_references
    have n_Proxy_serial := T.n_Proxy_serial
    have cl_Service := T.cl_Service
    have n_Service_body := T.n_Service_body
    have n_Service_link := T.n_Service_link
    have n_Service_maker := T.n_Service_maker
    have n_Service_place := T.n_Service_place
    have n_Service_references := T.n_Service_references
    have n_Service_serial := T.n_Service_serial
    have cl_TracedHeap := T.cl_TracedHeap
    have n_TracedHeap_next_index := T.n_TracedHeap_next_index
    have n_TracedHeap_places := T.n_TracedHeap_places
    have n_TracedHeap_proxies := T.n_TracedHeap_proxies
    have n_TracedHeap_serials := T.n_TracedHeap_serials
    have n_TracedHeap_space := T.n_TracedHeap_space
    walk_at "rd"
    refine Rd.rfld hh hcl hn1 hl1 ?_
    walk_at "rd"
    exact Rd.xdget hp hv k
theorem ok_TracedHeap_where {ad : Ad} (T : Txt K mg ad) : FnOk P w K mg base CX0 1 ad.a_TracedHeap_where ad.d_TracedHeap_where ["self", "serial"] (spWhere K) := by
  refine T.F_TracedHeap_where.ok sc_TracedHeap_where (fun vs H Q E h => ?_) (fun cdv A outer s H vs Q E hr h => ?_)
  · obtain ⟨h, p, s1, q, n, kp, ks, kq, rfl, ⟨⟨Ch, dh, fh, hh, hcl, hn1, hn2, hn3, hl1, hl2, hl3⟩, hp, hs, _⟩, k⟩ := h
    rfl
  · obtain ⟨h, p, s1, q, n, kp, ks, kq, rfl, ⟨⟨Ch, dh, fh, hh, hcl, hn1, hn2, hn3, hl1, hl2, hl3⟩, hp, hs, _⟩, k⟩ := h
    refine ⟨_, (pss_one (ps_ret (pe_dget1 (hu_of hr) (pe_fld (pv 0) rfl) (pv 1) ⟨by rfl, by rfl, by rfl, by rfl⟩))), ?_⟩
    try dsimp only [L2.cxOf, L2.Cx.nox, L2.Cx.wish]
    change (_ : TS) _ ([some (.ref h), some (.int n)] : St) _
    have cl_Cell := T.cl_Cell
    have n_Cell_content := T.n_Cell_content
    have n_Cell_link := T.n_Cell_link
    have n_Cell_maker := T.n_Cell_maker
    have n_Cell_place := T.n_Cell_place
    have n_Cell_references := T.n_Cell_references
    have n_Cell_serial := T.n_Cell_serial
    have cl_CountedHeap := T.cl_CountedHeap
    have n_CountedHeap_places := T.n_CountedHeap_places
    have n_CountedHeap_proxies := T.n_CountedHeap_proxies
    have n_CountedHeap_serials := T.n_CountedHeap_serials
    have n_CountedHeap_vacant := T.n_CountedHeap_vacant
    have cl_PlainHeap := T.cl_PlainHeap
    have n_PlainHeap_places := T.n_PlainHeap_places
    have n_PlainHeap_proxies := T.n_PlainHeap_proxies
    have n_PlainHeap_serials := T.n_PlainHeap_serials
    have cl_Proxy := T.cl_Proxy
    have n_Proxy_entry := T.n_Proxy_entry
    have n_Proxy_link := T.n_Proxy_link
    have n_Proxy_maker := T.n_Proxy_maker
    have n_Proxy_place := T.n_Proxy_place
    have n_Proxy_references := T.n_Proxy_references
    have n_Proxy_serial := T.n_Proxy_serial
    have cl_Service := T.cl_Service
    have n_Service_body := T.n_Service_body
    have n_Service_link := T.n_Service_link
    have n_Service_maker := T.n_Service_maker
    have n_Service_place := T.n_Service_place
    have n_Service_references := T.n_Service_references
    have n_Service_serial := T.n_Service_serial
    have cl_TracedHeap := T.cl_TracedHeap
    have n_TracedHeap_next_index := T.n_TracedHeap_next_index
    have n_TracedHeap_places := T.n_TracedHeap_places
    have n_TracedHeap_proxies := T.n_TracedHeap_proxies
    have n_TracedHeap_serials := T.n_TracedHeap_serials
    have n_TracedHeap_space := T.n_TracedHeap_space
    walk_at "rd"
    refine Rd.rfld hh hcl hn2 hl2 ?_
    walk_at "rd"
    exact Rd.xdo hs rfl k
theorem ok_TracedHeap_where_proxy {ad : Ad} (T : Txt K mg ad) : FnOk P w K mg base CX0 1 ad.a_TracedHeap_where_proxy ad.d_TracedHeap_where_proxy ["self", "entry"] (spWhereP K) := by
  refine T.F_TracedHeap_where_proxy.ok sc_TracedHeap_where_proxy (fun vs H Q E h => ?_) (fun cdv A outer s H vs Q E hr h => ?_)
  · obtain ⟨h, p, s1, q, n, kp, ks, kq, rfl, ⟨⟨Ch, dh, fh, hh, hcl, hn1, hn2, hn3, hl1, hl2, hl3⟩, hp, hs, hq, _⟩, k⟩ := h
    rfl
  · obtain ⟨h, p, s1, q, n, kp, ks, kq, rfl, ⟨⟨Ch, dh, fh, hh, hcl, hn1, hn2, hn3, hl1, hl2, hl3⟩, hp, hs, hq, _⟩, k⟩ := h
    refine ⟨_, (pss_one (ps_ret (pe_dget1 (hu_of hr) (pe_fld (pv 0) rfl) (pv 1) ⟨by rfl, by rfl, by rfl, by rfl⟩))), ?_⟩
    try dsimp only [L2.cxOf, L2.Cx.nox, L2.Cx.wish]
    change (_ : TS) _ ([some (.ref h), some (.int n)] : St) _
    have cl_Cell := T.cl_Cell
    have n_Cell_content := T.n_Cell_content
    have n_Cell_link := T.n_Cell_link
    have n_Cell_maker := T.n_Cell_maker
    have n_Cell_place := T.n_Cell_place
    have n_Cell_references := T.n_Cell_references
    have n_Cell_serial := T.n_Cell_serial
    have cl_CountedHeap := T.cl_CountedHeap
    have n_CountedHeap_places := T.n_CountedHeap_places
    have n_CountedHeap_proxies := T.n_CountedHeap_proxies
    have n_CountedHeap_serials := T.n_CountedHeap_serials
    have n_CountedHeap_vacant := T.n_CountedHeap_vacant
    have cl_PlainHeap := T.cl_PlainHeap
    have n_PlainHeap_places := T.n_PlainHeap_places
    have n_PlainHeap_proxies := T.n_PlainHeap_proxies
    have n_PlainHeap_serials := T.n_PlainHeap_serials
    have cl_Proxy := T.cl_Proxy
    have n_Proxy_entry := T.n_Proxy_entry
    have n_Proxy_link := T.n_Proxy_link
    have n_Proxy_maker := T.n_Proxy_maker
    have n_Proxy_place := T.n_Proxy_place
    have n_Proxy_references := T.n_Proxy_references
    have n_Proxy_serial := T.n_Proxy_serial
    have cl_Service := T.cl_Service
    have n_Service_body := T.n_Service_body
    have n_Service_link := T.n_Service_link
    have n_Service_maker := T.n_Service_maker
    have n_Service_place := T.n_Service_place
    have n_Service_references := T.n_Service_references
    have n_Service_serial := T.n_Service_serial
    have cl_TracedHeap := T.cl_TracedHeap
    have n_TracedHeap_next_index := T.n_TracedHeap_next_index
    have n_TracedHeap_places := T.n_TracedHeap_places
    have n_TracedHeap_proxies := T.n_TracedHeap_proxies
    have n_TracedHeap_serials := T.n_TracedHeap_serials
    have n_TracedHeap_space := T.n_TracedHeap_space
    walk_at "rd"
    refine Rd.rfld hh hcl hn3 hl3 ?_
    walk_at "rd"
    exact Rd.xdo hq rfl k
theorem ok_PlainHeap_thing {ad : Ad} (T : Txt K mg ad) : FnOk P w K mg base CX0 1 ad.a_PlainHeap_thing ad.d_PlainHeap_thing ["self", "reference"] (spThing K) := by
  refine T.F_PlainHeap_thing.ok sc_PlainHeap_thing (fun vs H Q E h => ?_) (fun cdv A outer s H vs Q E hr h => ?_)
  · obtain ⟨h, p, s1, q, r, n, kp, ks, kq, t, rfl, ⟨⟨Ch, dh, fh, hh, hcl, hn1, hn2, hn3, hl1, hl2, hl3⟩, hp, _⟩, hr1, hv, k⟩ := h
    rfl
  · obtain ⟨h, p, s1, q, r, n, kp, ks, kq, t, rfl, ⟨⟨Ch, dh, fh, hh, hcl, hn1, hn2, hn3, hl1, hl2, hl3⟩, hp, _⟩, hr1, hv, k⟩ := h
    refine ⟨_, (pss_one (ps_ret (pe_dget (hu_of hr) (pe_fld (pv 0) rfl) (pe_ix ix_tup (pv 1) pe_int (fun _ _ => rfl)) (fun _ _ => rfl)))), ?_⟩
    try dsimp only [L2.cxOf, L2.Cx.nox, L2.Cx.wish]
    change (_ : TS) _ ([some (.ref h), some (.ref r)] : St) _
    have cl_Cell := T.cl_Cell
    have n_Cell_content := T.n_Cell_content
    have n_Cell_link := T.n_Cell_link
    have n_Cell_maker := T.n_Cell_maker
    have n_Cell_place := T.n_Cell_place
    have n_Cell_references := T.n_Cell_references
    have n_Cell_serial := T.n_Cell_serial
    have cl_CountedHeap := T.cl_CountedHeap
    have n_CountedHeap_places := T.n_CountedHeap_places
    have n_CountedHeap_proxies := T.n_CountedHeap_proxies
    have n_CountedHeap_serials := T.n_CountedHeap_serials
    have n_CountedHeap_vacant := T.n_CountedHeap_vacant
    have cl_PlainHeap := T.cl_PlainHeap
    have n_PlainHeap_places := T.n_PlainHeap_places
    have n_PlainHeap_proxies := T.n_PlainHeap_proxies
    have n_PlainHeap_serials := T.n_PlainHeap_serials
    have cl_Proxy := T.cl_Proxy
    have n_Proxy_entry := T.n_Proxy_entry
    have n_Proxy_link := T.n_Proxy_link
    have n_Proxy_maker := T.n_Proxy_maker
    have n_Proxy_place := T.n_Proxy_place
    have n_Proxy_references := T.n_Proxy_references
    have n_Proxy_serial := T.n_Proxy_serial
    have cl_Service := T.cl_Service
    have n_Service_body := T.n_Service_body
    have n_Service_link := T.n_Service_link
    have n_Service_maker := T.n_Service_maker
    have n_Service_place := T.n_Service_place
    have n_Service_references := T.n_Service_references
    have n_Service_serial := T.n_Service_serial
    have cl_TracedHeap := T.cl_TracedHeap
    have n_TracedHeap_next_index := T.n_TracedHeap_next_index
    have n_TracedHeap_places := T.n_TracedHeap_places
    have n_TracedHeap_proxies := T.n_TracedHeap_proxies
    have n_TracedHeap_serials := T.n_TracedHeap_serials
    have n_TracedHeap_space := T.n_TracedHeap_space
    walk_at "rd"
    refine Rd.rfld hh hcl hn1 hl1 ?_
    walk_at "rd"
    exact Rd.xdget hp hv k
theorem ok_PlainHeap_where {ad : Ad} (T : Txt K mg ad) : FnOk P w K mg base CX0 1 ad.a_PlainHeap_where ad.d_PlainHeap_where ["self", "serial"] (spWhere K) := by
  refine T.F_PlainHeap_where.ok sc_PlainHeap_where (fun vs H Q E h => ?_) (fun cdv A outer s H vs Q E hr h => ?_)
  · obtain ⟨h, p, s1, q, n, kp, ks, kq, rfl, ⟨⟨Ch, dh, fh, hh, hcl, hn1, hn2, hn3, hl1, hl2, hl3⟩, hp, hs, _⟩, k⟩ := h
    rfl
  · obtain ⟨h, p, s1, q, n, kp, ks, kq, rfl, ⟨⟨Ch, dh, fh, hh, hcl, hn1, hn2, hn3, hl1, hl2, hl3⟩, hp, hs, _⟩, k⟩ := h
    refine ⟨_, (pss_one (ps_ret (pe_dget1 (hu_of hr) (pe_fld (pv 0) rfl) (pv 1) ⟨by rfl, by rfl, by rfl, by rfl⟩))), ?_⟩
    try dsimp only [L2.cxOf, L2.Cx.nox, L2.Cx.wish]
    change (_ : TS) _ ([some (.ref h), some (.int n)] : St) _
    have cl_Cell := T.cl_Cell
    have n_Cell_content := T.n_Cell_content
    have n_Cell_link := T.n_Cell_link
    have n_Cell_maker := T.n_Cell_maker
    have n_Cell_place := T.n_Cell_place
    have n_Cell_references := T.n_Cell_references
    have n_Cell_serial := T.n_Cell_serial
    have cl_CountedHeap := T.cl_CountedHeap
    have n_CountedHeap_places := T.n_CountedHeap_places
    have n_CountedHeap_proxies := T.n_CountedHeap_proxies
    have n_CountedHeap_serials := T.n_CountedHeap_serials
    have n_CountedHeap_vacant := T.n_CountedHeap_vacant
    have cl_PlainHeap := T.cl_PlainHeap
    have n_PlainHeap_places := T.n_PlainHeap_places
    have n_PlainHeap_proxies := T.n_PlainHeap_proxies
    have n_PlainHeap_serials := T.n_PlainHeap_serials
    have cl_Proxy := T.cl_Proxy
    have n_Proxy_entry := T.n_Proxy_entry
    have n_Proxy_link := T.n_Proxy_link
    have n_Proxy_maker := T.n_Proxy_maker
    have n_Proxy_place := T.n_Proxy_place
    have n_Proxy_references := T.n_Proxy_references
    have n_Proxy_serial := T.n_Proxy_serial
    have cl_Service := T.cl_Service
    have n_Service_body := T.n_Service_body
    have n_Service_link := T.n_Service_link
    have n_Service_maker := T.n_Service_maker
    have n_Service_place := T.n_Service_place
    have n_Service_references := T.n_Service_references
    have n_Service_serial := T.n_Service_serial
    have cl_TracedHeap := T.cl_TracedHeap
    have n_TracedHeap_next_index := T.n_TracedHeap_next_index
    have n_TracedHeap_places := T.n_TracedHeap_places
    have n_TracedHeap_proxies := T.n_TracedHeap_proxies
    have n_TracedHeap_serials := T.n_TracedHeap_serials
    have n_TracedHeap_space := T.n_TracedHeap_space
    walk_at "rd"
    refine Rd.rfld hh hcl hn2 hl2 ?_
    walk_at "rd"
    exact Rd.xdo hs rfl k
theorem ok_PlainHeap_where_proxy {ad : Ad} (T : Txt K mg ad) : FnOk P w K mg base CX0 1 ad.a_PlainHeap_where_proxy ad.d_PlainHeap_where_proxy ["self", "entry"] (spWhereP K) := by
  refine T.F_PlainHeap_where_proxy.ok sc_PlainHeap_where_proxy (fun vs H Q E h => ?_) (fun cdv A outer s H vs Q E hr h => ?_)
  · obtain ⟨h, p, s1, q, n, kp, ks, kq, rfl, ⟨⟨Ch, dh, fh, hh, hcl, hn1, hn2, hn3, hl1, hl2, hl3⟩, hp, hs, hq, _⟩, k⟩ := h
    rfl
  · obtain ⟨h, p, s1, q, n, kp, ks, kq, rfl, ⟨⟨Ch, dh, fh, hh, hcl, hn1, hn2, hn3, hl1, hl2, hl3⟩, hp, hs, hq, _⟩, k⟩ := h
    refine ⟨_, (pss_one (ps_ret (pe_dget1 (hu_of hr) (pe_fld (pv 0) rfl) (pv 1) ⟨by rfl, by rfl, by rfl, by rfl⟩))), ?_⟩
    try dsimp only [L2.cxOf, L2.Cx.nox, L2.Cx.wish]
    change (_ : TS) _ ([some (.ref h), some (.int n)] : St) _
    have cl_Cell := T.cl_Cell
    have n_Cell_content := T.n_Cell_content
    have n_Cell_link := T.n_Cell_link
    have n_Cell_maker := T.n_Cell_maker
    have n_Cell_place := T.n_Cell_place
    have n_Cell_references := T.n_Cell_references
    have n_Cell_serial := T.n_Cell_serial
    have cl_CountedHeap := T.cl_CountedHeap
    have n_CountedHeap_places := T.n_CountedHeap_places
    have n_CountedHeap_proxies := T.n_CountedHeap_proxies
    have n_CountedHeap_serials := T.n_CountedHeap_serials
    have n_CountedHeap_vacant := T.n_CountedHeap_vacant
    have cl_PlainHeap := T.cl_PlainHeap
    have n_PlainHeap_places := T.n_PlainHeap_places
    have n_PlainHeap_proxies := T.n_PlainHeap_proxies
    have n_PlainHeap_serials := T.n_PlainHeap_serials
    have cl_Proxy := T.cl_Proxy
    have n_Proxy_entry := T.n_Proxy_entry
    have n_Proxy_link := T.n_Proxy_link
    have n_Proxy_maker := T.n_Proxy_maker
    have n_Proxy_place := T.n_Proxy_place
    have n_Proxy_references := T.n_Proxy_references
    have n_Proxy_serial := T.n_Proxy_serial
    have cl_Service := T.cl_Service
    have n_Service_body := T.n_Service_body
    have n_Service_link := T.n_Service_link
    have n_Service_maker := T.n_Service_maker
    have n_Service_place := T.n_Service_place
    have n_Service_references := T.n_Service_references
    have n_Service_serial := T.n_Service_serial
    have cl_TracedHeap := T.cl_TracedHeap
    have n_TracedHeap_next_index := T.n_TracedHeap_next_index
    have n_TracedHeap_places := T.n_TracedHeap_places
    have n_TracedHeap_proxies := T.n_TracedHeap_proxies
    have n_TracedHeap_serials := T.n_TracedHeap_serials
    have n_TracedHeap_space := T.n_TracedHeap_space
    walk_at "rd"
    refine Rd.rfld hh hcl hn3 hl3 ?_
    walk_at "rd"
    exact Rd.xdo hq rfl k
/-- a heap of a class with n things -/
def St_CountedHeap (C : Addr) (H : Hp) (h p s q : Addr) (n : Nat) : Prop := ∃ dx v, H h = some (.ins C dx (fs_CountedHeap (.ref p) (.ref s) (.ref q) (.ref v))) ∧ H v = some (.lst [])
def St_TracedHeap (C : Addr) (H : Hp) (h p s q : Addr) (n : Nat) : Prop := ∃ dx, H h = some (.ins C dx (fs_TracedHeap (.ref p) (.ref s) (.ref q) (.int 0) (.int n)))
def St_PlainHeap (C : Addr) (H : Hp) (h p s q : Addr) (n : Nat) : Prop := ∃ dx, H h = some (.ins C dx (fs_PlainHeap (.ref p) (.ref s) (.ref q)))
structure Made (H H' : Hp) (h t p s q r : Addr) (n : Int) (u : HO) (kp' ks' kq' : List (Key × V)) : Prop where
  at_t : H' t = some u
  at_p : H' p = some (.dK kp')
  at_s : H' s = some (.dK ks')
  at_q : H' q = some (.dK kq')
  at_r : H' r = some (.tup [.str "at", .int n])
  nt : H t = none
  nr : H r = none
  but : But [h, p, s, q] H H'
theorem made_of {H H1 H' : Hp} {h t p s q r : Addr} {n : Int} {u : HO} {kp' ks' kq' : List (Key × V)} (nt : H t = none) (k1 : ∀ b o, b ∉ [h, p, s, q] → H b = some o → H1 b = some o) (nr : H1 r = none → H r = none) (g : PutOk H1 H' t p s q r n u kp' ks' kq') : Made H H' h t p s q r n u kp' ks' kq' :=
  ⟨g.at_t, g.at_p, g.at_s, g.at_q, g.at_r, nt, nr g.new_r, fun b o hb hbo => g.but b o (fun z => by
    simp only [List.mem_cons, List.not_mem_nil, or_false, not_or] at z hb
    rcases z with z | z | z | z
    · rw [z, nt] at hbo; cases hbo
    · exact hb.2.1 z
    · exact hb.2.2.1 z
    · exact hb.2.2.2 z) (k1 b o hb hbo)⟩
def spAdd (cH cC cS cP : Addr) (K : PySem.W.Frag) : Sp := fun vs H Q _ => ∃ (h t p s q dt dh v : Addr) (kp ks kq : List (Key × V)), vs = [.ref h, .ref t] ∧ HeapF K H h p s q kp ks kq ∧ H h = some (.ins cH dh (fs_CountedHeap (.ref p) (.ref s) (.ref q) (.ref v))) ∧ H v = some (.lst []) ∧ h ≠ t ∧
  ((∃ (se : Int) (mk ct : V), H t = some (.ins cC dt (fs_Cell (.int se) mk ct (.int 0) .non (.int 0))) ∧ ∀ r H', PutOk H H' t p s q r kp.length (.ins cC dt (fs_Cell (.int se) mk ct (.int kp.length) .non (.int 1))) (putK kp (.inl kp.length) (.ref t)) (putK ks (.inl se) (.int kp.length)) kq → Q (.ref r) H') ∨
   (∃ (se : Int) (mk bo : V), H t = some (.ins cS dt (fs_Service (.int se) mk bo (.int 0) .non (.int 0))) ∧ ∀ r H', PutOk H H' t p s q r kp.length (.ins cS dt (fs_Service (.int se) mk bo (.int kp.length) .non (.int 1))) (putK kp (.inl kp.length) (.ref t)) (putK ks (.inl se) (.int kp.length)) kq → Q (.ref r) H') ∨
   (∃ (en : Int), H t = some (.ins cP dt (fs_Proxy .non .non (.int en) (.int 0) .non (.int 0))) ∧ ∀ r H', PutOk H H' t p s q r kp.length (.ins cP dt (fs_Proxy .non .non (.int en) (.int kp.length) .non (.int 1))) (putK kp (.inl kp.length) (.ref t)) ks (putK kq (.inl en) (.int kp.length)) → Q (.ref r) H'))
theorem put_upd {H H' : Hp} {t p s q r : Addr} {n : Int} {u o : HO} {kp' ks' kq' : List (Key × V)} {C d : Addr} {fs : List (Str × V)} (ht : H t = some (.ins C d fs)) (g : PutOk (upd H t o) H' t p s q r n u kp' ks' kq') : PutOk H H' t p s q r n u kp' ks' kq' where
  at_t := g.at_t
  at_p := g.at_p
  at_s := g.at_s
  at_q := g.at_q
  at_r := g.at_r
  new_r := by
    have z := g.new_r
    by_cases e : r = t
    · rw [e, upd_same] at z; cases z
    · rw [upd_ne e] at z; exact z
  but := fun b o' hb hbo => g.but b o' hb (by rw [upd_ne (fun z => hb (by rw [z]; exact List.mem_cons_self))]; exact hbo)
theorem ok_CountedHeap_add {ad : Ad} (T : Txt K mg ad) : FnOk P w K mg base CX0 2 ad.a_CountedHeap_add ad.d_CountedHeap_add ["self", "thing"] (spAdd ad.c_CountedHeap ad.c_Cell ad.c_Service ad.c_Proxy K) := by
  refine T.F_CountedHeap_add.ok sc_CountedHeap_add (fun vs H Q E h => ?_) (fun cdv A outer s H vs Q E hr h => ?_)
  · obtain ⟨h, t, p, s1, q, dt, dh, v, kp, ks, kq, rfl, hF, hh, hv, hht, hk⟩ := h
    rfl
  · obtain ⟨h, t, p, s1, q, dt, dh, v, kp, ks, kq, rfl, hF, hh, hv, hht, hk⟩ := h
    refine ⟨_, (pss_cons (ps_fld (pv 1) pe_int rfl)
      (pss_cons (ps_if (pt_truth (pe_fld (pv 0) rfl) (by intro _; rfl)) pss_never pss_nil)
      (pss_one (ps_ret (pe_call (ok_put_in T) (hr.mono (by decide)) rfl T.m_put_in T.F_put_in.kp T.b_put_in .nil pass0 (pa_cons (pv 0) (pa_cons (pv 1) (pa_cons (pe_callB (id := "len") Rd.c_lenD (by rfl) T.z_len (by decide +kernel) (pa_cons (pe_fld (pv 0) rfl) pa_nil)) pa_nil)))))))), ?_⟩
    try dsimp only [L2.cxOf, L2.Cx.nox, L2.Cx.wish]
    change (_ : TS) _ ([some (.ref h), some (.ref t)] : St) _
    have cl_Cell := T.cl_Cell
    have n_Cell_content := T.n_Cell_content
    have n_Cell_link := T.n_Cell_link
    have n_Cell_maker := T.n_Cell_maker
    have n_Cell_place := T.n_Cell_place
    have n_Cell_references := T.n_Cell_references
    have n_Cell_serial := T.n_Cell_serial
    have cl_CountedHeap := T.cl_CountedHeap
    have n_CountedHeap_places := T.n_CountedHeap_places
    have n_CountedHeap_proxies := T.n_CountedHeap_proxies
    have n_CountedHeap_serials := T.n_CountedHeap_serials
    have n_CountedHeap_vacant := T.n_CountedHeap_vacant
    have cl_PlainHeap := T.cl_PlainHeap
    have n_PlainHeap_places := T.n_PlainHeap_places
    have n_PlainHeap_proxies := T.n_PlainHeap_proxies
    have n_PlainHeap_serials := T.n_PlainHeap_serials
    have cl_Proxy := T.cl_Proxy
    have n_Proxy_entry := T.n_Proxy_entry
    have n_Proxy_link := T.n_Proxy_link
    have n_Proxy_maker := T.n_Proxy_maker
    have n_Proxy_place := T.n_Proxy_place
    have n_Proxy_references := T.n_Proxy_references
    have n_Proxy_serial := T.n_Proxy_serial
    have cl_Service := T.cl_Service
    have n_Service_body := T.n_Service_body
    have n_Service_link := T.n_Service_link
    have n_Service_maker := T.n_Service_maker
    have n_Service_place := T.n_Service_place
    have n_Service_references := T.n_Service_references
    have n_Service_serial := T.n_Service_serial
    have cl_TracedHeap := T.cl_TracedHeap
    have n_TracedHeap_next_index := T.n_TracedHeap_next_index
    have n_TracedHeap_places := T.n_TracedHeap_places
    have n_TracedHeap_proxies := T.n_TracedHeap_proxies
    have n_TracedHeap_serials := T.n_TracedHeap_serials
    have n_TracedHeap_space := T.n_TracedHeap_space
    have hth : t ≠ h := Ne.symm hht
    rcases hk with ⟨se, mk, ct, ht, k⟩ | ⟨se, mk, bo, ht, k⟩ | ⟨en, ht, k⟩
    · have htp : t ≠ p := ne_of ht hF.hp (by intro z; cases z)
      have hts : t ≠ s1 := ne_of ht hF.hs (by intro z; cases z)
      have htq : t ≠ q := ne_of ht hF.hq (by intro z; cases z)
      have htv : t ≠ v := ne_of ht hv (by intro z; cases z)
      walk_at "rd"
      simp only [st_Cell_references]
      have hF1 : HeapF K (upd H t (.ins ad.c_Cell dt (fs_Cell (.int se) mk ct (.int 0) .non (.int 1)))) h p s1 q kp ks kq := hF.keep fun b o hb hbo => by
        have hbt : b ≠ t := by
          rcases hb with rfl | rfl | rfl | rfl
          · exact hht
          · exact Ne.symm htp
          · exact Ne.symm hts
          · exact Ne.symm htq
        rw [upd_ne hbt]; exact hbo
      have hh1 : (upd H t (.ins ad.c_Cell dt (fs_Cell (.int se) mk ct (.int 0) .non (.int 1)))) h = _ := (upd_ne hht).trans hh
      have hv1 : (upd H t (.ins ad.c_Cell dt (fs_Cell (.int se) mk ct (.int 0) .non (.int 1)))) v = _ := (upd_ne (Ne.symm htv)).trans hv
      have hp1 := hF1.hp
      walk_at "rd"
      refine ⟨false, .inl ⟨[], SqL.of hv1, rfl⟩, ?_⟩
      walk_at "rd"
      refine ⟨h, t, p, s1, q, dt, kp.length, kp, ks, kq, .int 1, rfl, hF1, hht, .inl ⟨se, mk, ct, upd_same, fun r H' g => ?_⟩⟩
      exact k r H' (put_upd ht g)
    · have htp : t ≠ p := ne_of ht hF.hp (by intro z; cases z)
      have hts : t ≠ s1 := ne_of ht hF.hs (by intro z; cases z)
      have htq : t ≠ q := ne_of ht hF.hq (by intro z; cases z)
      have htv : t ≠ v := ne_of ht hv (by intro z; cases z)
      walk_at "rd"
      simp only [st_Service_references]
      have hF1 : HeapF K (upd H t (.ins ad.c_Service dt (fs_Service (.int se) mk bo (.int 0) .non (.int 1)))) h p s1 q kp ks kq := hF.keep fun b o hb hbo => by
        have hbt : b ≠ t := by
          rcases hb with rfl | rfl | rfl | rfl
          · exact hht
          · exact Ne.symm htp
          · exact Ne.symm hts
          · exact Ne.symm htq
        rw [upd_ne hbt]; exact hbo
      have hh1 : (upd H t (.ins ad.c_Service dt (fs_Service (.int se) mk bo (.int 0) .non (.int 1)))) h = _ := (upd_ne hht).trans hh
      have hv1 : (upd H t (.ins ad.c_Service dt (fs_Service (.int se) mk bo (.int 0) .non (.int 1)))) v = _ := (upd_ne (Ne.symm htv)).trans hv
      have hp1 := hF1.hp
      walk_at "rd"
      refine ⟨false, .inl ⟨[], SqL.of hv1, rfl⟩, ?_⟩
      walk_at "rd"
      refine ⟨h, t, p, s1, q, dt, kp.length, kp, ks, kq, .int 1, rfl, hF1, hht, .inr (.inl ⟨se, mk, bo, upd_same, fun r H' g => ?_⟩)⟩
      exact k r H' (put_upd ht g)
    · have htp : t ≠ p := ne_of ht hF.hp (by intro z; cases z)
      have hts : t ≠ s1 := ne_of ht hF.hs (by intro z; cases z)
      have htq : t ≠ q := ne_of ht hF.hq (by intro z; cases z)
      have htv : t ≠ v := ne_of ht hv (by intro z; cases z)
      walk_at "rd"
      simp only [st_Proxy_references]
      have hF1 : HeapF K (upd H t (.ins ad.c_Proxy dt (fs_Proxy .non .non (.int en) (.int 0) .non (.int 1)))) h p s1 q kp ks kq := hF.keep fun b o hb hbo => by
        have hbt : b ≠ t := by
          rcases hb with rfl | rfl | rfl | rfl
          · exact hht
          · exact Ne.symm htp
          · exact Ne.symm hts
          · exact Ne.symm htq
        rw [upd_ne hbt]; exact hbo
      have hh1 : (upd H t (.ins ad.c_Proxy dt (fs_Proxy .non .non (.int en) (.int 0) .non (.int 1)))) h = _ := (upd_ne hht).trans hh
      have hv1 : (upd H t (.ins ad.c_Proxy dt (fs_Proxy .non .non (.int en) (.int 0) .non (.int 1)))) v = _ := (upd_ne (Ne.symm htv)).trans hv
      have hp1 := hF1.hp
      walk_at "rd"
      refine ⟨false, .inl ⟨[], SqL.of hv1, rfl⟩, ?_⟩
      walk_at "rd"
      refine ⟨h, t, p, s1, q, dt, kp.length, kp, ks, kq, .int 1, rfl, hF1, hht, .inr (.inr ⟨en, upd_same, fun r H' g => ?_⟩)⟩
      exact k r H' (put_upd ht g)
/-- making a thing: what is asked ahead -/
def Ahead (K : PySem.W.Frag) (H : Hp) (h p s q : Addr) (n m : Nat) (kp ks kq : List (Key × V)) : Prop := HeapF K H h p s q kp ks kq ∧ kp.length = n ∧ valV kp (.inl (m : Int)) = none
def sp_CountedHeap_make_cell (cH ad_C : Addr) (K : PySem.W.Frag) : Sp := fun vs H Q _ => ∃ (h p s q : Addr) (n : Nat) (kp ks kq : List (Key × V)) (se : Int) (mk ct : V), vs = [.ref h, .int se, mk, ct] ∧ Ahead K H h p s q n n kp ks kq ∧ St_CountedHeap cH H h p s q n ∧
  ∀ t dt r H', Made H H' h t p s q r (n : Nat) (.ins ad_C dt (fs_Cell (.int se) mk ct (.int (n : Nat)) .non (.int 1))) (putK kp (.inl (n : Nat)) (.ref t)) (putK ks (.inl se) (.int (n : Nat))) kq → St_CountedHeap cH H' h p s q (n + 1) → Q (.ref r) H'
theorem ok_CountedHeap_make_cell {ad : Ad} (T : Txt K mg ad) : FnOk P w K mg base CX0 3 ad.a_CountedHeap_make_cell ad.d_CountedHeap_make_cell ["self", "serial", "maker", "content"] (sp_CountedHeap_make_cell ad.c_CountedHeap ad.c_Cell K) := by
  refine T.F_CountedHeap_make_cell.ok sc_CountedHeap_make_cell (fun vs H Q E h => ?_) (fun cdv A outer s H vs Q E hr h => ?_)
  · obtain ⟨h, p, s1, q, n, kp, ks, kq, se, mk, ct, rfl, ⟨hF, hn, hv⟩, ⟨dh, v, hh, hvl⟩, k⟩ := h
    rfl
  · obtain ⟨h, p, s1, q, n, kp, ks, kq, se, mk, ct, rfl, ⟨hF, hn, hv⟩, ⟨dh, v, hh, hvl⟩, k⟩ := h
    refine ⟨_, (pss_one (ps_ret (pe_meth (pv 0) T.cl_CountedHeap T.me_CountedHeap_add (ok_CountedHeap_add T) (hr.mono (by decide)) T.b_CountedHeap_add .nil pass0 (pa_cons (pe_make T.mk_Cell (ok_Cell_init_ T) (hr.mono (by decide)) rfl T.mg_Cell T.b_Cell_init_ .nil pass0 (pa_cons (pv 1) (pa_cons (pv 2) (pa_cons (pv 3) pa_nil)))) pa_nil)))), ?_⟩
    try dsimp only [L2.cxOf, L2.Cx.nox, L2.Cx.wish]
    change (_ : TS) _ ([some (.ref h), some (.int se), some (mk), some (ct)] : St) _
    have cl_Cell := T.cl_Cell
    have n_Cell_content := T.n_Cell_content
    have n_Cell_link := T.n_Cell_link
    have n_Cell_maker := T.n_Cell_maker
    have n_Cell_place := T.n_Cell_place
    have n_Cell_references := T.n_Cell_references
    have n_Cell_serial := T.n_Cell_serial
    have cl_CountedHeap := T.cl_CountedHeap
    have n_CountedHeap_places := T.n_CountedHeap_places
    have n_CountedHeap_proxies := T.n_CountedHeap_proxies
    have n_CountedHeap_serials := T.n_CountedHeap_serials
    have n_CountedHeap_vacant := T.n_CountedHeap_vacant
    have cl_PlainHeap := T.cl_PlainHeap
    have n_PlainHeap_places := T.n_PlainHeap_places
    have n_PlainHeap_proxies := T.n_PlainHeap_proxies
    have n_PlainHeap_serials := T.n_PlainHeap_serials
    have cl_Proxy := T.cl_Proxy
    have n_Proxy_entry := T.n_Proxy_entry
    have n_Proxy_link := T.n_Proxy_link
    have n_Proxy_maker := T.n_Proxy_maker
    have n_Proxy_place := T.n_Proxy_place
    have n_Proxy_references := T.n_Proxy_references
    have n_Proxy_serial := T.n_Proxy_serial
    have cl_Service := T.cl_Service
    have n_Service_body := T.n_Service_body
    have n_Service_link := T.n_Service_link
    have n_Service_maker := T.n_Service_maker
    have n_Service_place := T.n_Service_place
    have n_Service_references := T.n_Service_references
    have n_Service_serial := T.n_Service_serial
    have cl_TracedHeap := T.cl_TracedHeap
    have n_TracedHeap_next_index := T.n_TracedHeap_next_index
    have n_TracedHeap_places := T.n_TracedHeap_places
    have n_TracedHeap_proxies := T.n_TracedHeap_proxies
    have n_TracedHeap_serials := T.n_TracedHeap_serials
    have n_TracedHeap_space := T.n_TracedHeap_space
    walk_at "rd"
    refine x_Cell fun t dt H1 nt e1 ht => ?_
    have hF1 := hF.mono e1
    have hht : h ≠ t := Ne.symm (hF.ne nt).1
    refine ⟨h, t, p, s1, q, dt, dh, v, kp, ks, kq, rfl, hF1, e1 _ _ hh, e1 _ _ hvl, hht, .inl ⟨se, mk, ct, ht, fun r H' g => ?_⟩⟩
    rw [hn] at g
    refine k t dt r H' (made_of nt (fun b o _ hbo => e1 _ _ hbo) (fun z => Evl.fresh_back e1 z) g) ⟨dh, v, g.but _ _ ?_ (e1 _ _ hh), g.but _ _ ?_ (e1 _ _ hvl)⟩
    · have h1 := hF.hp
      have h2 := hF.hs
      have h3 := hF.hq
      simp only [List.mem_cons, List.not_mem_nil, or_false, not_or]
      exact ⟨hht, ne_of hh h1 (by intro z; cases z), ne_of hh h2 (by intro z; cases z), ne_of hh h3 (by intro z; cases z)⟩
    · have h1 := hF.hp
      have h2 := hF.hs
      have h3 := hF.hq
      simp only [List.mem_cons, List.not_mem_nil, or_false, not_or]
      exact ⟨fun z => (by rw [z, nt] at hvl; cases hvl), ne_of hvl h1 (by intro z; cases z), ne_of hvl h2 (by intro z; cases z), ne_of hvl h3 (by intro z; cases z)⟩
def sp_CountedHeap_make_service (cH ad_C : Addr) (K : PySem.W.Frag) : Sp := fun vs H Q _ => ∃ (h p s q : Addr) (n : Nat) (kp ks kq : List (Key × V)) (se : Int) (mk bo : V), vs = [.ref h, .int se, mk, bo] ∧ Ahead K H h p s q n n kp ks kq ∧ St_CountedHeap cH H h p s q n ∧
  ∀ t dt r H', Made H H' h t p s q r (n : Nat) (.ins ad_C dt (fs_Service (.int se) mk bo (.int (n : Nat)) .non (.int 1))) (putK kp (.inl (n : Nat)) (.ref t)) (putK ks (.inl se) (.int (n : Nat))) kq → St_CountedHeap cH H' h p s q (n + 1) → Q (.ref r) H'
theorem ok_CountedHeap_make_service {ad : Ad} (T : Txt K mg ad) : FnOk P w K mg base CX0 3 ad.a_CountedHeap_make_service ad.d_CountedHeap_make_service ["self", "serial", "maker", "body"] (sp_CountedHeap_make_service ad.c_CountedHeap ad.c_Service K) := by
  refine T.F_CountedHeap_make_service.ok sc_CountedHeap_make_service (fun vs H Q E h => ?_) (fun cdv A outer s H vs Q E hr h => ?_)
  · obtain ⟨h, p, s1, q, n, kp, ks, kq, se, mk, bo, rfl, ⟨hF, hn, hv⟩, ⟨dh, v, hh, hvl⟩, k⟩ := h
    rfl
  · obtain ⟨h, p, s1, q, n, kp, ks, kq, se, mk, bo, rfl, ⟨hF, hn, hv⟩, ⟨dh, v, hh, hvl⟩, k⟩ := h
    refine ⟨_, (pss_one (ps_ret (pe_meth (pv 0) T.cl_CountedHeap T.me_CountedHeap_add (ok_CountedHeap_add T) (hr.mono (by decide)) T.b_CountedHeap_add .nil pass0 (pa_cons (pe_make T.mk_Service (ok_Service_init_ T) (hr.mono (by decide)) rfl T.mg_Service T.b_Service_init_ .nil pass0 (pa_cons (pv 1) (pa_cons (pv 2) (pa_cons (pv 3) pa_nil)))) pa_nil)))), ?_⟩
    try dsimp only [L2.cxOf, L2.Cx.nox, L2.Cx.wish]
    change (_ : TS) _ ([some (.ref h), some (.int se), some (mk), some (bo)] : St) _
    have cl_Cell := T.cl_Cell
    have n_Cell_content := T.n_Cell_content
    have n_Cell_link := T.n_Cell_link
    have n_Cell_maker := T.n_Cell_maker
    have n_Cell_place := T.n_Cell_place
    have n_Cell_references := T.n_Cell_references
    have n_Cell_serial := T.n_Cell_serial
    have cl_CountedHeap := T.cl_CountedHeap
    have n_CountedHeap_places := T.n_CountedHeap_places
    have n_CountedHeap_proxies := T.n_CountedHeap_proxies
    have n_CountedHeap_serials := T.n_CountedHeap_serials
    have n_CountedHeap_vacant := T.n_CountedHeap_vacant
    have cl_PlainHeap := T.cl_PlainHeap
    have n_PlainHeap_places := T.n_PlainHeap_places
    have n_PlainHeap_proxies := T.n_PlainHeap_proxies
    have n_PlainHeap_serials := T.n_PlainHeap_serials
    have cl_Proxy := T.cl_Proxy
    have n_Proxy_entry := T.n_Proxy_entry
    have n_Proxy_link := T.n_Proxy_link
    have n_Proxy_maker := T.n_Proxy_maker
    have n_Proxy_place := T.n_Proxy_place
    have n_Proxy_references := T.n_Proxy_references
    have n_Proxy_serial := T.n_Proxy_serial
    have cl_Service := T.cl_Service
    have n_Service_body := T.n_Service_body
    have n_Service_link := T.n_Service_link
    have n_Service_maker := T.n_Service_maker
    have n_Service_place := T.n_Service_place
    have n_Service_references := T.n_Service_references
    have n_Service_serial := T.n_Service_serial
    have cl_TracedHeap := T.cl_TracedHeap
    have n_TracedHeap_next_index := T.n_TracedHeap_next_index
    have n_TracedHeap_places := T.n_TracedHeap_places
    have n_TracedHeap_proxies := T.n_TracedHeap_proxies
    have n_TracedHeap_serials := T.n_TracedHeap_serials
    have n_TracedHeap_space := T.n_TracedHeap_space
    walk_at "rd"
    refine x_Service fun t dt H1 nt e1 ht => ?_
    have hF1 := hF.mono e1
    have hht : h ≠ t := Ne.symm (hF.ne nt).1
    refine ⟨h, t, p, s1, q, dt, dh, v, kp, ks, kq, rfl, hF1, e1 _ _ hh, e1 _ _ hvl, hht, .inr (.inl ⟨se, mk, bo, ht, fun r H' g => ?_⟩)⟩
    rw [hn] at g
    refine k t dt r H' (made_of nt (fun b o _ hbo => e1 _ _ hbo) (fun z => Evl.fresh_back e1 z) g) ⟨dh, v, g.but _ _ ?_ (e1 _ _ hh), g.but _ _ ?_ (e1 _ _ hvl)⟩
    · have h1 := hF.hp
      have h2 := hF.hs
      have h3 := hF.hq
      simp only [List.mem_cons, List.not_mem_nil, or_false, not_or]
      exact ⟨hht, ne_of hh h1 (by intro z; cases z), ne_of hh h2 (by intro z; cases z), ne_of hh h3 (by intro z; cases z)⟩
    · have h1 := hF.hp
      have h2 := hF.hs
      have h3 := hF.hq
      simp only [List.mem_cons, List.not_mem_nil, or_false, not_or]
      exact ⟨fun z => (by rw [z, nt] at hvl; cases hvl), ne_of hvl h1 (by intro z; cases z), ne_of hvl h2 (by intro z; cases z), ne_of hvl h3 (by intro z; cases z)⟩
def sp_CountedHeap_make_proxy (cH ad_C : Addr) (K : PySem.W.Frag) : Sp := fun vs H Q _ => ∃ (h p s q : Addr) (n : Nat) (kp ks kq : List (Key × V)) (en : Int), vs = [.ref h, .int en] ∧ Ahead K H h p s q n n kp ks kq ∧ St_CountedHeap cH H h p s q n ∧
  ∀ t dt r H', Made H H' h t p s q r (n : Nat) (.ins ad_C dt (fs_Proxy .non .non (.int en) (.int (n : Nat)) .non (.int 1))) (putK kp (.inl (n : Nat)) (.ref t)) ks (putK kq (.inl en) (.int (n : Nat))) → St_CountedHeap cH H' h p s q (n + 1) → Q (.ref r) H'
theorem ok_CountedHeap_make_proxy {ad : Ad} (T : Txt K mg ad) : FnOk P w K mg base CX0 3 ad.a_CountedHeap_make_proxy ad.d_CountedHeap_make_proxy ["self", "entry"] (sp_CountedHeap_make_proxy ad.c_CountedHeap ad.c_Proxy K) := by
  refine T.F_CountedHeap_make_proxy.ok sc_CountedHeap_make_proxy (fun vs H Q E h => ?_) (fun cdv A outer s H vs Q E hr h => ?_)
  · obtain ⟨h, p, s1, q, n, kp, ks, kq, en, rfl, ⟨hF, hn, hv⟩, ⟨dh, v, hh, hvl⟩, k⟩ := h
    rfl
  · obtain ⟨h, p, s1, q, n, kp, ks, kq, en, rfl, ⟨hF, hn, hv⟩, ⟨dh, v, hh, hvl⟩, k⟩ := h
    refine ⟨_, (pss_one (ps_ret (pe_meth (pv 0) T.cl_CountedHeap T.me_CountedHeap_add (ok_CountedHeap_add T) (hr.mono (by decide)) T.b_CountedHeap_add .nil pass0 (pa_cons (pe_make T.mk_Proxy (ok_Proxy_init_ T) (hr.mono (by decide)) rfl T.mg_Proxy T.b_Proxy_init_ .nil pass0 (pa_cons (pv 1) pa_nil)) pa_nil)))), ?_⟩
    try dsimp only [L2.cxOf, L2.Cx.nox, L2.Cx.wish]
    change (_ : TS) _ ([some (.ref h), some (.int en)] : St) _
    have cl_Cell := T.cl_Cell
    have n_Cell_content := T.n_Cell_content
    have n_Cell_link := T.n_Cell_link
    have n_Cell_maker := T.n_Cell_maker
    have n_Cell_place := T.n_Cell_place
    have n_Cell_references := T.n_Cell_references
    have n_Cell_serial := T.n_Cell_serial
    have cl_CountedHeap := T.cl_CountedHeap
    have n_CountedHeap_places := T.n_CountedHeap_places
    have n_CountedHeap_proxies := T.n_CountedHeap_proxies
    have n_CountedHeap_serials := T.n_CountedHeap_serials
    have n_CountedHeap_vacant := T.n_CountedHeap_vacant
    have cl_PlainHeap := T.cl_PlainHeap
    have n_PlainHeap_places := T.n_PlainHeap_places
    have n_PlainHeap_proxies := T.n_PlainHeap_proxies
    have n_PlainHeap_serials := T.n_PlainHeap_serials
    have cl_Proxy := T.cl_Proxy
    have n_Proxy_entry := T.n_Proxy_entry
    have n_Proxy_link := T.n_Proxy_link
    have n_Proxy_maker := T.n_Proxy_maker
    have n_Proxy_place := T.n_Proxy_place
    have n_Proxy_references := T.n_Proxy_references
    have n_Proxy_serial := T.n_Proxy_serial
    have cl_Service := T.cl_Service
    have n_Service_body := T.n_Service_body
    have n_Service_link := T.n_Service_link
    have n_Service_maker := T.n_Service_maker
    have n_Service_place := T.n_Service_place
    have n_Service_references := T.n_Service_references
    have n_Service_serial := T.n_Service_serial
    have cl_TracedHeap := T.cl_TracedHeap
    have n_TracedHeap_next_index := T.n_TracedHeap_next_index
    have n_TracedHeap_places := T.n_TracedHeap_places
    have n_TracedHeap_proxies := T.n_TracedHeap_proxies
    have n_TracedHeap_serials := T.n_TracedHeap_serials
    have n_TracedHeap_space := T.n_TracedHeap_space
    walk_at "rd"
    refine x_Proxy fun t dt H1 nt e1 ht => ?_
    have hF1 := hF.mono e1
    have hht : h ≠ t := Ne.symm (hF.ne nt).1
    refine ⟨h, t, p, s1, q, dt, dh, v, kp, ks, kq, rfl, hF1, e1 _ _ hh, e1 _ _ hvl, hht, .inr (.inr ⟨en, ht, fun r H' g => ?_⟩)⟩
    rw [hn] at g
    refine k t dt r H' (made_of nt (fun b o _ hbo => e1 _ _ hbo) (fun z => Evl.fresh_back e1 z) g) ⟨dh, v, g.but _ _ ?_ (e1 _ _ hh), g.but _ _ ?_ (e1 _ _ hvl)⟩
    · have h1 := hF.hp
      have h2 := hF.hs
      have h3 := hF.hq
      simp only [List.mem_cons, List.not_mem_nil, or_false, not_or]
      exact ⟨hht, ne_of hh h1 (by intro z; cases z), ne_of hh h2 (by intro z; cases z), ne_of hh h3 (by intro z; cases z)⟩
    · have h1 := hF.hp
      have h2 := hF.hs
      have h3 := hF.hq
      simp only [List.mem_cons, List.not_mem_nil, or_false, not_or]
      exact ⟨fun z => (by rw [z, nt] at hvl; cases hvl), ne_of hvl h1 (by intro z; cases z), ne_of hvl h2 (by intro z; cases z), ne_of hvl h3 (by intro z; cases z)⟩
def sp_TracedHeap_make_cell (cH ad_C : Addr) (K : PySem.W.Frag) : Sp := fun vs H Q _ => ∃ (h p s q : Addr) (n : Nat) (kp ks kq : List (Key × V)) (se : Int) (mk ct : V), vs = [.ref h, .int se, mk, ct] ∧ Ahead K H h p s q n (2 * n) kp ks kq ∧ St_TracedHeap cH H h p s q n ∧
  ∀ t dt r H', Made H H' h t p s q r ((2 * n) : Nat) (.ins ad_C dt (fs_Cell (.int se) mk ct (.int ((2 * n) : Nat)) .non (.int 0))) (putK kp (.inl ((2 * n) : Nat)) (.ref t)) (putK ks (.inl se) (.int ((2 * n) : Nat))) kq → St_TracedHeap cH H' h p s q (n + 1) → Q (.ref r) H'
def spNewPlace (cH : Addr) (K : PySem.W.Frag) : Sp := fun vs H Q _ => ∃ (h p s q dh : Addr) (n : Nat) (kp : List (Key × V)), vs = [.ref h] ∧ H h = some (.ins cH dh (fs_TracedHeap (.ref p) (.ref s) (.ref q) (.int 0) (.int n))) ∧ H p = some (.dK kp) ∧ valV kp (.inl ((2 * n : Nat) : Int)) = none ∧
  Q (.int ((2 * n : Nat) : Int)) (upd H h (.ins cH dh (fs_TracedHeap (.ref p) (.ref s) (.ref q) (.int 0) (.int (n + 1 : Nat)))))
theorem ok_TracedHeap_new_place {ad : Ad} (T : Txt K mg ad) : FnOk P w K mg base CX0 1 ad.a_TracedHeap_new_place ad.d_TracedHeap_new_place ["self"] (spNewPlace ad.c_TracedHeap K) := by
  refine T.F_TracedHeap_new_place.ok sc_TracedHeap_new_place (fun vs H Q E h => ?_) (fun cdv A outer s H vs Q E hr h => ?_)
  · obtain ⟨h, p, s1, q, dh, n, kp, rfl, hh, hp, hv, k⟩ := h
    rfl
  · obtain ⟨h, p, s1, q, dh, n, kp, rfl, hh, hp, hv, k⟩ := h
    refine ⟨_, (pss_cons (ps_while PassesOwn.never (pt_cmp (pc_din (hu_of hr) (pe_op op_add (pe_op op_mul pe_int (pe_fld (pv 0) rfl)) (pe_fld (pv 0) rfl)) (pe_fld (pv 0) rfl))) (pss_one (ps_fldaug (pv 0) pe_int in_add)))
      (pss_cons (ps_fldaug (pv 0) pe_int in_add)
      (pss_one (ps_ret (pe_op op_add (pe_op op_sub (pe_op op_mul pe_int (pe_fld (pv 0) rfl)) pe_int) (pe_fld (pv 0) rfl)))))), ?_⟩
    try dsimp only [L2.cxOf, L2.Cx.nox, L2.Cx.wish]
    change (_ : TS) _ ([some (.ref h)] : St) _
    have cl_Cell := T.cl_Cell
    have n_Cell_content := T.n_Cell_content
    have n_Cell_link := T.n_Cell_link
    have n_Cell_maker := T.n_Cell_maker
    have n_Cell_place := T.n_Cell_place
    have n_Cell_references := T.n_Cell_references
    have n_Cell_serial := T.n_Cell_serial
    have cl_CountedHeap := T.cl_CountedHeap
    have n_CountedHeap_places := T.n_CountedHeap_places
    have n_CountedHeap_proxies := T.n_CountedHeap_proxies
    have n_CountedHeap_serials := T.n_CountedHeap_serials
    have n_CountedHeap_vacant := T.n_CountedHeap_vacant
    have cl_PlainHeap := T.cl_PlainHeap
    have n_PlainHeap_places := T.n_PlainHeap_places
    have n_PlainHeap_proxies := T.n_PlainHeap_proxies
    have n_PlainHeap_serials := T.n_PlainHeap_serials
    have cl_Proxy := T.cl_Proxy
    have n_Proxy_entry := T.n_Proxy_entry
    have n_Proxy_link := T.n_Proxy_link
    have n_Proxy_maker := T.n_Proxy_maker
    have n_Proxy_place := T.n_Proxy_place
    have n_Proxy_references := T.n_Proxy_references
    have n_Proxy_serial := T.n_Proxy_serial
    have cl_Service := T.cl_Service
    have n_Service_body := T.n_Service_body
    have n_Service_link := T.n_Service_link
    have n_Service_maker := T.n_Service_maker
    have n_Service_place := T.n_Service_place
    have n_Service_references := T.n_Service_references
    have n_Service_serial := T.n_Service_serial
    have cl_TracedHeap := T.cl_TracedHeap
    have n_TracedHeap_next_index := T.n_TracedHeap_next_index
    have n_TracedHeap_places := T.n_TracedHeap_places
    have n_TracedHeap_proxies := T.n_TracedHeap_proxies
    have n_TracedHeap_serials := T.n_TracedHeap_serials
    have n_TracedHeap_space := T.n_TracedHeap_space
    walk_at "rd"
    refine Rd.whl ⟨fun _ σ' H' => σ' = [some (.ref h)] ∧ H' = H, ⟨0, rfl, rfl⟩, ?_⟩
    rintro m σ H' ⟨rfl, rfl⟩
    walk_at "rd"
    rw [show (2 : Int) * (n : Int) + 0 = ((2 * n : Nat) : Int) by omega]
    have hv2 : (valV kp (.inl ((2 * n : Nat) : Int))).isSome = false := congrArg Option.isSome hv
    refine Rd.xdin hp hv2 ?_
    walk_at "rd"
    refine Rd.xfb hh (by show (5 : Nat) < 1000; decide) ?_
    rw [st_TracedHeap_next_index, show (n : Int) + 1 = ((n + 1 : Nat) : Int) by omega]
    walk_at "rd"
    rw [show (2 : Int) * ((n + 1 : Nat) : Int) - 2 + 0 = ((2 * n : Nat) : Int) by omega]
    exact k
theorem ok_TracedHeap_make_cell {ad : Ad} (T : Txt K mg ad) : FnOk P w K mg base CX0 3 ad.a_TracedHeap_make_cell ad.d_TracedHeap_make_cell ["self", "serial", "maker", "content"] (sp_TracedHeap_make_cell ad.c_TracedHeap ad.c_Cell K) := by
  refine T.F_TracedHeap_make_cell.ok sc_TracedHeap_make_cell (fun vs H Q E h => ?_) (fun cdv A outer s H vs Q E hr h => ?_)
  · obtain ⟨h, p, s1, q, n, kp, ks, kq, se, mk, ct, rfl, ⟨hF, hn, hv⟩, ⟨dh, hh⟩, k⟩ := h
    rfl
  · obtain ⟨h, p, s1, q, n, kp, ks, kq, se, mk, ct, rfl, ⟨hF, hn, hv⟩, ⟨dh, hh⟩, k⟩ := h
    refine ⟨_, (pss_one (ps_ret (pe_call (ok_put_in T) (hr.mono (by decide)) rfl T.m_put_in T.F_put_in.kp T.b_put_in .nil pass0 (pa_cons (pv 0) (pa_cons (pe_make T.mk_Cell (ok_Cell_init_ T) (hr.mono (by decide)) rfl T.mg_Cell T.b_Cell_init_ .nil pass0 (pa_cons (pv 1) (pa_cons (pv 2) (pa_cons (pv 3) pa_nil)))) (pa_cons (pe_meth0 (pv 0) T.cl_TracedHeap T.me_TracedHeap_new_place (ok_TracedHeap_new_place T) (hr.mono (by decide)) T.b_TracedHeap_new_place .nil pass0) pa_nil)))))), ?_⟩
    try dsimp only [L2.cxOf, L2.Cx.nox, L2.Cx.wish]
    change (_ : TS) _ ([some (.ref h), some (.int se), some (mk), some (ct)] : St) _
    have cl_Cell := T.cl_Cell
    have n_Cell_content := T.n_Cell_content
    have n_Cell_link := T.n_Cell_link
    have n_Cell_maker := T.n_Cell_maker
    have n_Cell_place := T.n_Cell_place
    have n_Cell_references := T.n_Cell_references
    have n_Cell_serial := T.n_Cell_serial
    have cl_CountedHeap := T.cl_CountedHeap
    have n_CountedHeap_places := T.n_CountedHeap_places
    have n_CountedHeap_proxies := T.n_CountedHeap_proxies
    have n_CountedHeap_serials := T.n_CountedHeap_serials
    have n_CountedHeap_vacant := T.n_CountedHeap_vacant
    have cl_PlainHeap := T.cl_PlainHeap
    have n_PlainHeap_places := T.n_PlainHeap_places
    have n_PlainHeap_proxies := T.n_PlainHeap_proxies
    have n_PlainHeap_serials := T.n_PlainHeap_serials
    have cl_Proxy := T.cl_Proxy
    have n_Proxy_entry := T.n_Proxy_entry
    have n_Proxy_link := T.n_Proxy_link
    have n_Proxy_maker := T.n_Proxy_maker
    have n_Proxy_place := T.n_Proxy_place
    have n_Proxy_references := T.n_Proxy_references
    have n_Proxy_serial := T.n_Proxy_serial
    have cl_Service := T.cl_Service
    have n_Service_body := T.n_Service_body
    have n_Service_link := T.n_Service_link
    have n_Service_maker := T.n_Service_maker
    have n_Service_place := T.n_Service_place
    have n_Service_references := T.n_Service_references
    have n_Service_serial := T.n_Service_serial
    have cl_TracedHeap := T.cl_TracedHeap
    have n_TracedHeap_next_index := T.n_TracedHeap_next_index
    have n_TracedHeap_places := T.n_TracedHeap_places
    have n_TracedHeap_proxies := T.n_TracedHeap_proxies
    have n_TracedHeap_serials := T.n_TracedHeap_serials
    have n_TracedHeap_space := T.n_TracedHeap_space
    walk_at "rd"
    refine x_Cell fun t dt H1 nt e1 ht => ?_
    have hF1 := hF.mono e1
    have hht : h ≠ t := Ne.symm (hF.ne nt).1
    have hh1 := e1 _ _ hh
    have hp1 := hF1.hp
    have hhp : h ≠ p := ne_of hh hF.hp (by intro z; cases z)
    have hhs : h ≠ s1 := ne_of hh hF.hs (by intro z; cases z)
    have hhq : h ≠ q := ne_of hh hF.hq (by intro z; cases z)
    walk_at "rd"
    refine ⟨h, p, s1, q, dh, n, kp, rfl, hh1, hp1, hv, ?_⟩
    have hF2 : HeapF K (upd H1 h (.ins ad.c_TracedHeap dh (fs_TracedHeap (.ref p) (.ref s1) (.ref q) (.int 0) (.int (n + 1 : Nat))))) h p s1 q kp ks kq :=
      ⟨⟨_, _, _, upd_same, T.cl_TracedHeap, T.n_TracedHeap_places, T.n_TracedHeap_serials, T.n_TracedHeap_proxies, by walk_at "lk", by walk_at "lk", by walk_at "lk"⟩, (upd_ne (Ne.symm hhp)).trans hp1, (upd_ne (Ne.symm hhs)).trans hF1.hs, (upd_ne (Ne.symm hhq)).trans hF1.hq, hF.ps, hF.pq, hF.sq, hF.lp, hF.ls, hF.lq⟩
    walk_at "rd"
    refine ⟨h, t, p, s1, q, dt, ((2 * n : Nat) : Int), kp, ks, kq, .int 0, rfl, hF2, hht, .inl ⟨se, mk, ct, (upd_ne (Ne.symm hht)).trans ht, fun r H' g => ?_⟩⟩
    refine k t dt r H' (made_of nt (fun b o hb hbo => ?_) (fun z => ?_) g) ⟨dh, g.but _ _ ?_ upd_same⟩
    · rw [upd_ne (fun z => hb (by rw [z]; exact List.mem_cons_self))]; exact e1 _ _ hbo
    · have z2 : r ≠ h := fun y => by rw [y, upd_same] at z; cases z
      rw [upd_ne z2] at z
      exact Evl.fresh_back e1 z
    · simp only [List.mem_cons, List.not_mem_nil, or_false, not_or]
      exact ⟨hht, hhp, hhs, hhq⟩
def sp_TracedHeap_make_service (cH ad_C : Addr) (K : PySem.W.Frag) : Sp := fun vs H Q _ => ∃ (h p s q : Addr) (n : Nat) (kp ks kq : List (Key × V)) (se : Int) (mk bo : V), vs = [.ref h, .int se, mk, bo] ∧ Ahead K H h p s q n (2 * n) kp ks kq ∧ St_TracedHeap cH H h p s q n ∧
  ∀ t dt r H', Made H H' h t p s q r ((2 * n) : Nat) (.ins ad_C dt (fs_Service (.int se) mk bo (.int ((2 * n) : Nat)) .non (.int 0))) (putK kp (.inl ((2 * n) : Nat)) (.ref t)) (putK ks (.inl se) (.int ((2 * n) : Nat))) kq → St_TracedHeap cH H' h p s q (n + 1) → Q (.ref r) H'
theorem ok_TracedHeap_make_service {ad : Ad} (T : Txt K mg ad) : FnOk P w K mg base CX0 3 ad.a_TracedHeap_make_service ad.d_TracedHeap_make_service ["self", "serial", "maker", "body"] (sp_TracedHeap_make_service ad.c_TracedHeap ad.c_Service K) := by
  refine T.F_TracedHeap_make_service.ok sc_TracedHeap_make_service (fun vs H Q E h => ?_) (fun cdv A outer s H vs Q E hr h => ?_)
  · obtain ⟨h, p, s1, q, n, kp, ks, kq, se, mk, bo, rfl, ⟨hF, hn, hv⟩, ⟨dh, hh⟩, k⟩ := h
    rfl
  · obtain ⟨h, p, s1, q, n, kp, ks, kq, se, mk, bo, rfl, ⟨hF, hn, hv⟩, ⟨dh, hh⟩, k⟩ := h
    refine ⟨_, (pss_one (ps_ret (pe_call (ok_put_in T) (hr.mono (by decide)) rfl T.m_put_in T.F_put_in.kp T.b_put_in .nil pass0 (pa_cons (pv 0) (pa_cons (pe_make T.mk_Service (ok_Service_init_ T) (hr.mono (by decide)) rfl T.mg_Service T.b_Service_init_ .nil pass0 (pa_cons (pv 1) (pa_cons (pv 2) (pa_cons (pv 3) pa_nil)))) (pa_cons (pe_meth0 (pv 0) T.cl_TracedHeap T.me_TracedHeap_new_place (ok_TracedHeap_new_place T) (hr.mono (by decide)) T.b_TracedHeap_new_place .nil pass0) pa_nil)))))), ?_⟩
    try dsimp only [L2.cxOf, L2.Cx.nox, L2.Cx.wish]
    change (_ : TS) _ ([some (.ref h), some (.int se), some (mk), some (bo)] : St) _
    have cl_Cell := T.cl_Cell
    have n_Cell_content := T.n_Cell_content
    have n_Cell_link := T.n_Cell_link
    have n_Cell_maker := T.n_Cell_maker
    have n_Cell_place := T.n_Cell_place
    have n_Cell_references := T.n_Cell_references
    have n_Cell_serial := T.n_Cell_serial
    have cl_CountedHeap := T.cl_CountedHeap
    have n_CountedHeap_places := T.n_CountedHeap_places
    have n_CountedHeap_proxies := T.n_CountedHeap_proxies
    have n_CountedHeap_serials := T.n_CountedHeap_serials
    have n_CountedHeap_vacant := T.n_CountedHeap_vacant
    have cl_PlainHeap := T.cl_PlainHeap
    have n_PlainHeap_places := T.n_PlainHeap_places
    have n_PlainHeap_proxies := T.n_PlainHeap_proxies
    have n_PlainHeap_serials := T.n_PlainHeap_serials
    have cl_Proxy := T.cl_Proxy
    have n_Proxy_entry := T.n_Proxy_entry
    have n_Proxy_link := T.n_Proxy_link
    have n_Proxy_maker := T.n_Proxy_maker
    have n_Proxy_place := T.n_Proxy_place
    have n_Proxy_references := T.n_Proxy_references
    have n_Proxy_serial := T.n_Proxy_serial
    have cl_Service := T.cl_Service
    have n_Service_body := T.n_Service_body
    have n_Service_link := T.n_Service_link
    have n_Service_maker := T.n_Service_maker
    have n_Service_place := T.n_Service_place
    have n_Service_references := T.n_Service_references
    have n_Service_serial := T.n_Service_serial
    have cl_TracedHeap := T.cl_TracedHeap
    have n_TracedHeap_next_index := T.n_TracedHeap_next_index
    have n_TracedHeap_places := T.n_TracedHeap_places
    have n_TracedHeap_proxies := T.n_TracedHeap_proxies
    have n_TracedHeap_serials := T.n_TracedHeap_serials
    have n_TracedHeap_space := T.n_TracedHeap_space
    walk_at "rd"
    refine x_Service fun t dt H1 nt e1 ht => ?_
    have hF1 := hF.mono e1
    have hht : h ≠ t := Ne.symm (hF.ne nt).1
    have hh1 := e1 _ _ hh
    have hp1 := hF1.hp
    have hhp : h ≠ p := ne_of hh hF.hp (by intro z; cases z)
    have hhs : h ≠ s1 := ne_of hh hF.hs (by intro z; cases z)
    have hhq : h ≠ q := ne_of hh hF.hq (by intro z; cases z)
    walk_at "rd"
    refine ⟨h, p, s1, q, dh, n, kp, rfl, hh1, hp1, hv, ?_⟩
    have hF2 : HeapF K (upd H1 h (.ins ad.c_TracedHeap dh (fs_TracedHeap (.ref p) (.ref s1) (.ref q) (.int 0) (.int (n + 1 : Nat))))) h p s1 q kp ks kq :=
      ⟨⟨_, _, _, upd_same, T.cl_TracedHeap, T.n_TracedHeap_places, T.n_TracedHeap_serials, T.n_TracedHeap_proxies, by walk_at "lk", by walk_at "lk", by walk_at "lk"⟩, (upd_ne (Ne.symm hhp)).trans hp1, (upd_ne (Ne.symm hhs)).trans hF1.hs, (upd_ne (Ne.symm hhq)).trans hF1.hq, hF.ps, hF.pq, hF.sq, hF.lp, hF.ls, hF.lq⟩
    walk_at "rd"
    refine ⟨h, t, p, s1, q, dt, ((2 * n : Nat) : Int), kp, ks, kq, .int 0, rfl, hF2, hht, .inr (.inl ⟨se, mk, bo, (upd_ne (Ne.symm hht)).trans ht, fun r H' g => ?_⟩)⟩
    refine k t dt r H' (made_of nt (fun b o hb hbo => ?_) (fun z => ?_) g) ⟨dh, g.but _ _ ?_ upd_same⟩
    · rw [upd_ne (fun z => hb (by rw [z]; exact List.mem_cons_self))]; exact e1 _ _ hbo
    · have z2 : r ≠ h := fun y => by rw [y, upd_same] at z; cases z
      rw [upd_ne z2] at z
      exact Evl.fresh_back e1 z
    · simp only [List.mem_cons, List.not_mem_nil, or_false, not_or]
      exact ⟨hht, hhp, hhs, hhq⟩
def sp_TracedHeap_make_proxy (cH ad_C : Addr) (K : PySem.W.Frag) : Sp := fun vs H Q _ => ∃ (h p s q : Addr) (n : Nat) (kp ks kq : List (Key × V)) (en : Int), vs = [.ref h, .int en] ∧ Ahead K H h p s q n (2 * n) kp ks kq ∧ St_TracedHeap cH H h p s q n ∧
  ∀ t dt r H', Made H H' h t p s q r ((2 * n) : Nat) (.ins ad_C dt (fs_Proxy .non .non (.int en) (.int ((2 * n) : Nat)) .non (.int 0))) (putK kp (.inl ((2 * n) : Nat)) (.ref t)) ks (putK kq (.inl en) (.int ((2 * n) : Nat))) → St_TracedHeap cH H' h p s q (n + 1) → Q (.ref r) H'
theorem ok_TracedHeap_make_proxy {ad : Ad} (T : Txt K mg ad) : FnOk P w K mg base CX0 3 ad.a_TracedHeap_make_proxy ad.d_TracedHeap_make_proxy ["self", "entry"] (sp_TracedHeap_make_proxy ad.c_TracedHeap ad.c_Proxy K) := by
  refine T.F_TracedHeap_make_proxy.ok sc_TracedHeap_make_proxy (fun vs H Q E h => ?_) (fun cdv A outer s H vs Q E hr h => ?_)
  · obtain ⟨h, p, s1, q, n, kp, ks, kq, en, rfl, ⟨hF, hn, hv⟩, ⟨dh, hh⟩, k⟩ := h
    rfl
  · obtain ⟨h, p, s1, q, n, kp, ks, kq, en, rfl, ⟨hF, hn, hv⟩, ⟨dh, hh⟩, k⟩ := h
    refine ⟨_, (pss_one (ps_ret (pe_call (ok_put_in T) (hr.mono (by decide)) rfl T.m_put_in T.F_put_in.kp T.b_put_in .nil pass0 (pa_cons (pv 0) (pa_cons (pe_make T.mk_Proxy (ok_Proxy_init_ T) (hr.mono (by decide)) rfl T.mg_Proxy T.b_Proxy_init_ .nil pass0 (pa_cons (pv 1) pa_nil)) (pa_cons (pe_meth0 (pv 0) T.cl_TracedHeap T.me_TracedHeap_new_place (ok_TracedHeap_new_place T) (hr.mono (by decide)) T.b_TracedHeap_new_place .nil pass0) pa_nil)))))), ?_⟩
    try dsimp only [L2.cxOf, L2.Cx.nox, L2.Cx.wish]
    change (_ : TS) _ ([some (.ref h), some (.int en)] : St) _
    have cl_Cell := T.cl_Cell
    have n_Cell_content := T.n_Cell_content
    have n_Cell_link := T.n_Cell_link
    have n_Cell_maker := T.n_Cell_maker
    have n_Cell_place := T.n_Cell_place
    have n_Cell_references := T.n_Cell_references
    have n_Cell_serial := T.n_Cell_serial
    have cl_CountedHeap := T.cl_CountedHeap
    have n_CountedHeap_places := T.n_CountedHeap_places
    have n_CountedHeap_proxies := T.n_CountedHeap_proxies
    have n_CountedHeap_serials := T.n_CountedHeap_serials
    have n_CountedHeap_vacant := T.n_CountedHeap_vacant
    have cl_PlainHeap := T.cl_PlainHeap
    have n_PlainHeap_places := T.n_PlainHeap_places
    have n_PlainHeap_proxies := T.n_PlainHeap_proxies
    have n_PlainHeap_serials := T.n_PlainHeap_serials
    have cl_Proxy := T.cl_Proxy
    have n_Proxy_entry := T.n_Proxy_entry
    have n_Proxy_link := T.n_Proxy_link
    have n_Proxy_maker := T.n_Proxy_maker
    have n_Proxy_place := T.n_Proxy_place
    have n_Proxy_references := T.n_Proxy_references
    have n_Proxy_serial := T.n_Proxy_serial
    have cl_Service := T.cl_Service
    have n_Service_body := T.n_Service_body
    have n_Service_link := T.n_Service_link
    have n_Service_maker := T.n_Service_maker
    have n_Service_place := T.n_Service_place
    have n_Service_references := T.n_Service_references
    have n_Service_serial := T.n_Service_serial
    have cl_TracedHeap := T.cl_TracedHeap
    have n_TracedHeap_next_index := T.n_TracedHeap_next_index
    have n_TracedHeap_places := T.n_TracedHeap_places
    have n_TracedHeap_proxies := T.n_TracedHeap_proxies
    have n_TracedHeap_serials := T.n_TracedHeap_serials
    have n_TracedHeap_space := T.n_TracedHeap_space
    walk_at "rd"
    refine x_Proxy fun t dt H1 nt e1 ht => ?_
    have hF1 := hF.mono e1
    have hht : h ≠ t := Ne.symm (hF.ne nt).1
    have hh1 := e1 _ _ hh
    have hp1 := hF1.hp
    have hhp : h ≠ p := ne_of hh hF.hp (by intro z; cases z)
    have hhs : h ≠ s1 := ne_of hh hF.hs (by intro z; cases z)
    have hhq : h ≠ q := ne_of hh hF.hq (by intro z; cases z)
    walk_at "rd"
    refine ⟨h, p, s1, q, dh, n, kp, rfl, hh1, hp1, hv, ?_⟩
    have hF2 : HeapF K (upd H1 h (.ins ad.c_TracedHeap dh (fs_TracedHeap (.ref p) (.ref s1) (.ref q) (.int 0) (.int (n + 1 : Nat))))) h p s1 q kp ks kq :=
      ⟨⟨_, _, _, upd_same, T.cl_TracedHeap, T.n_TracedHeap_places, T.n_TracedHeap_serials, T.n_TracedHeap_proxies, by walk_at "lk", by walk_at "lk", by walk_at "lk"⟩, (upd_ne (Ne.symm hhp)).trans hp1, (upd_ne (Ne.symm hhs)).trans hF1.hs, (upd_ne (Ne.symm hhq)).trans hF1.hq, hF.ps, hF.pq, hF.sq, hF.lp, hF.ls, hF.lq⟩
    walk_at "rd"
    refine ⟨h, t, p, s1, q, dt, ((2 * n : Nat) : Int), kp, ks, kq, .int 0, rfl, hF2, hht, .inr (.inr ⟨en, (upd_ne (Ne.symm hht)).trans ht, fun r H' g => ?_⟩)⟩
    refine k t dt r H' (made_of nt (fun b o hb hbo => ?_) (fun z => ?_) g) ⟨dh, g.but _ _ ?_ upd_same⟩
    · rw [upd_ne (fun z => hb (by rw [z]; exact List.mem_cons_self))]; exact e1 _ _ hbo
    · have z2 : r ≠ h := fun y => by rw [y, upd_same] at z; cases z
      rw [upd_ne z2] at z
      exact Evl.fresh_back e1 z
    · simp only [List.mem_cons, List.not_mem_nil, or_false, not_or]
      exact ⟨hht, hhp, hhs, hhq⟩
def sp_PlainHeap_make_cell (cH ad_C : Addr) (K : PySem.W.Frag) : Sp := fun vs H Q _ => ∃ (h p s q : Addr) (n : Nat) (kp ks kq : List (Key × V)) (se : Int) (mk ct : V), vs = [.ref h, .int se, mk, ct] ∧ Ahead K H h p s q n n kp ks kq ∧ St_PlainHeap cH H h p s q n ∧
  ∀ t dt r H', Made H H' h t p s q r (n : Nat) (.ins ad_C dt (fs_Cell (.int se) mk ct (.int (n : Nat)) .non (.int 0))) (putK kp (.inl (n : Nat)) (.ref t)) (putK ks (.inl se) (.int (n : Nat))) kq → St_PlainHeap cH H' h p s q (n + 1) → Q (.ref r) H'
theorem ok_PlainHeap_make_cell {ad : Ad} (T : Txt K mg ad) : FnOk P w K mg base CX0 3 ad.a_PlainHeap_make_cell ad.d_PlainHeap_make_cell ["self", "serial", "maker", "content"] (sp_PlainHeap_make_cell ad.c_PlainHeap ad.c_Cell K) := by
  refine T.F_PlainHeap_make_cell.ok sc_PlainHeap_make_cell (fun vs H Q E h => ?_) (fun cdv A outer s H vs Q E hr h => ?_)
  · obtain ⟨h, p, s1, q, n, kp, ks, kq, se, mk, ct, rfl, ⟨hF, hn, hv⟩, ⟨dh, hh⟩, k⟩ := h
    rfl
  · obtain ⟨h, p, s1, q, n, kp, ks, kq, se, mk, ct, rfl, ⟨hF, hn, hv⟩, ⟨dh, hh⟩, k⟩ := h
    refine ⟨_, (pss_one (ps_ret (pe_call (ok_put_in T) (hr.mono (by decide)) rfl T.m_put_in T.F_put_in.kp T.b_put_in .nil pass0 (pa_cons (pv 0) (pa_cons (pe_make T.mk_Cell (ok_Cell_init_ T) (hr.mono (by decide)) rfl T.mg_Cell T.b_Cell_init_ .nil pass0 (pa_cons (pv 1) (pa_cons (pv 2) (pa_cons (pv 3) pa_nil)))) (pa_cons (pe_callB (id := "len") Rd.c_lenD (by rfl) T.z_len (by decide +kernel) (pa_cons (pe_fld (pv 0) rfl) pa_nil)) pa_nil)))))), ?_⟩
    try dsimp only [L2.cxOf, L2.Cx.nox, L2.Cx.wish]
    change (_ : TS) _ ([some (.ref h), some (.int se), some (mk), some (ct)] : St) _
    have cl_Cell := T.cl_Cell
    have n_Cell_content := T.n_Cell_content
    have n_Cell_link := T.n_Cell_link
    have n_Cell_maker := T.n_Cell_maker
    have n_Cell_place := T.n_Cell_place
    have n_Cell_references := T.n_Cell_references
    have n_Cell_serial := T.n_Cell_serial
    have cl_CountedHeap := T.cl_CountedHeap
    have n_CountedHeap_places := T.n_CountedHeap_places
    have n_CountedHeap_proxies := T.n_CountedHeap_proxies
    have n_CountedHeap_serials := T.n_CountedHeap_serials
    have n_CountedHeap_vacant := T.n_CountedHeap_vacant
    have cl_PlainHeap := T.cl_PlainHeap
    have n_PlainHeap_places := T.n_PlainHeap_places
    have n_PlainHeap_proxies := T.n_PlainHeap_proxies
    have n_PlainHeap_serials := T.n_PlainHeap_serials
    have cl_Proxy := T.cl_Proxy
    have n_Proxy_entry := T.n_Proxy_entry
    have n_Proxy_link := T.n_Proxy_link
    have n_Proxy_maker := T.n_Proxy_maker
    have n_Proxy_place := T.n_Proxy_place
    have n_Proxy_references := T.n_Proxy_references
    have n_Proxy_serial := T.n_Proxy_serial
    have cl_Service := T.cl_Service
    have n_Service_body := T.n_Service_body
    have n_Service_link := T.n_Service_link
    have n_Service_maker := T.n_Service_maker
    have n_Service_place := T.n_Service_place
    have n_Service_references := T.n_Service_references
    have n_Service_serial := T.n_Service_serial
    have cl_TracedHeap := T.cl_TracedHeap
    have n_TracedHeap_next_index := T.n_TracedHeap_next_index
    have n_TracedHeap_places := T.n_TracedHeap_places
    have n_TracedHeap_proxies := T.n_TracedHeap_proxies
    have n_TracedHeap_serials := T.n_TracedHeap_serials
    have n_TracedHeap_space := T.n_TracedHeap_space
    walk_at "rd"
    refine x_Cell fun t dt H1 nt e1 ht => ?_
    have hF1 := hF.mono e1
    have hht : h ≠ t := Ne.symm (hF.ne nt).1
    have hh1 := e1 _ _ hh
    have hp1 := hF1.hp
    walk_at "rd"
    rw [hn]
    refine ⟨h, t, p, s1, q, dt, (n : Nat), kp, ks, kq, .int 0, rfl, hF1, hht, .inl ⟨se, mk, ct, ht, fun r H' g => ?_⟩⟩
    refine k t dt r H' (made_of nt (fun b o _ hbo => e1 _ _ hbo) (fun z => Evl.fresh_back e1 z) g) ⟨dh, g.but _ _ ?_ (e1 _ _ hh)⟩
    have h1 := hF.hp
    have h2 := hF.hs
    have h3 := hF.hq
    simp only [List.mem_cons, List.not_mem_nil, or_false, not_or]
    exact ⟨hht, ne_of hh h1 (by intro z; cases z), ne_of hh h2 (by intro z; cases z), ne_of hh h3 (by intro z; cases z)⟩
def sp_PlainHeap_make_service (cH ad_C : Addr) (K : PySem.W.Frag) : Sp := fun vs H Q _ => ∃ (h p s q : Addr) (n : Nat) (kp ks kq : List (Key × V)) (se : Int) (mk bo : V), vs = [.ref h, .int se, mk, bo] ∧ Ahead K H h p s q n n kp ks kq ∧ St_PlainHeap cH H h p s q n ∧
  ∀ t dt r H', Made H H' h t p s q r (n : Nat) (.ins ad_C dt (fs_Service (.int se) mk bo (.int (n : Nat)) .non (.int 0))) (putK kp (.inl (n : Nat)) (.ref t)) (putK ks (.inl se) (.int (n : Nat))) kq → St_PlainHeap cH H' h p s q (n + 1) → Q (.ref r) H'
theorem ok_PlainHeap_make_service {ad : Ad} (T : Txt K mg ad) : FnOk P w K mg base CX0 3 ad.a_PlainHeap_make_service ad.d_PlainHeap_make_service ["self", "serial", "maker", "body"] (sp_PlainHeap_make_service ad.c_PlainHeap ad.c_Service K) := by
  refine T.F_PlainHeap_make_service.ok sc_PlainHeap_make_service (fun vs H Q E h => ?_) (fun cdv A outer s H vs Q E hr h => ?_)
  · obtain ⟨h, p, s1, q, n, kp, ks, kq, se, mk, bo, rfl, ⟨hF, hn, hv⟩, ⟨dh, hh⟩, k⟩ := h
    rfl
  · obtain ⟨h, p, s1, q, n, kp, ks, kq, se, mk, bo, rfl, ⟨hF, hn, hv⟩, ⟨dh, hh⟩, k⟩ := h
    refine ⟨_, (pss_one (ps_ret (pe_call (ok_put_in T) (hr.mono (by decide)) rfl T.m_put_in T.F_put_in.kp T.b_put_in .nil pass0 (pa_cons (pv 0) (pa_cons (pe_make T.mk_Service (ok_Service_init_ T) (hr.mono (by decide)) rfl T.mg_Service T.b_Service_init_ .nil pass0 (pa_cons (pv 1) (pa_cons (pv 2) (pa_cons (pv 3) pa_nil)))) (pa_cons (pe_callB (id := "len") Rd.c_lenD (by rfl) T.z_len (by decide +kernel) (pa_cons (pe_fld (pv 0) rfl) pa_nil)) pa_nil)))))), ?_⟩
    try dsimp only [L2.cxOf, L2.Cx.nox, L2.Cx.wish]
    change (_ : TS) _ ([some (.ref h), some (.int se), some (mk), some (bo)] : St) _
    have cl_Cell := T.cl_Cell
    have n_Cell_content := T.n_Cell_content
    have n_Cell_link := T.n_Cell_link
    have n_Cell_maker := T.n_Cell_maker
    have n_Cell_place := T.n_Cell_place
    have n_Cell_references := T.n_Cell_references
    have n_Cell_serial := T.n_Cell_serial
    have cl_CountedHeap := T.cl_CountedHeap
    have n_CountedHeap_places := T.n_CountedHeap_places
    have n_CountedHeap_proxies := T.n_CountedHeap_proxies
    have n_CountedHeap_serials := T.n_CountedHeap_serials
    have n_CountedHeap_vacant := T.n_CountedHeap_vacant
    have cl_PlainHeap := T.cl_PlainHeap
    have n_PlainHeap_places := T.n_PlainHeap_places
    have n_PlainHeap_proxies := T.n_PlainHeap_proxies
    have n_PlainHeap_serials := T.n_PlainHeap_serials
    have cl_Proxy := T.cl_Proxy
    have n_Proxy_entry := T.n_Proxy_entry
    have n_Proxy_link := T.n_Proxy_link
    have n_Proxy_maker := T.n_Proxy_maker
    have n_Proxy_place := T.n_Proxy_place
    have n_Proxy_references := T.n_Proxy_references
    have n_Proxy_serial := T.n_Proxy_serial
    have cl_Service := T.cl_Service
    have n_Service_body := T.n_Service_body
    have n_Service_link := T.n_Service_link
    have n_Service_maker := T.n_Service_maker
    have n_Service_place := T.n_Service_place
    have n_Service_references := T.n_Service_references
    have n_Service_serial := T.n_Service_serial
    have cl_TracedHeap := T.cl_TracedHeap
    have n_TracedHeap_next_index := T.n_TracedHeap_next_index
    have n_TracedHeap_places := T.n_TracedHeap_places
    have n_TracedHeap_proxies := T.n_TracedHeap_proxies
    have n_TracedHeap_serials := T.n_TracedHeap_serials
    have n_TracedHeap_space := T.n_TracedHeap_space
    walk_at "rd"
    refine x_Service fun t dt H1 nt e1 ht => ?_
    have hF1 := hF.mono e1
    have hht : h ≠ t := Ne.symm (hF.ne nt).1
    have hh1 := e1 _ _ hh
    have hp1 := hF1.hp
    walk_at "rd"
    rw [hn]
    refine ⟨h, t, p, s1, q, dt, (n : Nat), kp, ks, kq, .int 0, rfl, hF1, hht, .inr (.inl ⟨se, mk, bo, ht, fun r H' g => ?_⟩)⟩
    refine k t dt r H' (made_of nt (fun b o _ hbo => e1 _ _ hbo) (fun z => Evl.fresh_back e1 z) g) ⟨dh, g.but _ _ ?_ (e1 _ _ hh)⟩
    have h1 := hF.hp
    have h2 := hF.hs
    have h3 := hF.hq
    simp only [List.mem_cons, List.not_mem_nil, or_false, not_or]
    exact ⟨hht, ne_of hh h1 (by intro z; cases z), ne_of hh h2 (by intro z; cases z), ne_of hh h3 (by intro z; cases z)⟩
def sp_PlainHeap_make_proxy (cH ad_C : Addr) (K : PySem.W.Frag) : Sp := fun vs H Q _ => ∃ (h p s q : Addr) (n : Nat) (kp ks kq : List (Key × V)) (en : Int), vs = [.ref h, .int en] ∧ Ahead K H h p s q n n kp ks kq ∧ St_PlainHeap cH H h p s q n ∧
  ∀ t dt r H', Made H H' h t p s q r (n : Nat) (.ins ad_C dt (fs_Proxy .non .non (.int en) (.int (n : Nat)) .non (.int 0))) (putK kp (.inl (n : Nat)) (.ref t)) ks (putK kq (.inl en) (.int (n : Nat))) → St_PlainHeap cH H' h p s q (n + 1) → Q (.ref r) H'
theorem ok_PlainHeap_make_proxy {ad : Ad} (T : Txt K mg ad) : FnOk P w K mg base CX0 3 ad.a_PlainHeap_make_proxy ad.d_PlainHeap_make_proxy ["self", "entry"] (sp_PlainHeap_make_proxy ad.c_PlainHeap ad.c_Proxy K) := by
  refine T.F_PlainHeap_make_proxy.ok sc_PlainHeap_make_proxy (fun vs H Q E h => ?_) (fun cdv A outer s H vs Q E hr h => ?_)
  · obtain ⟨h, p, s1, q, n, kp, ks, kq, en, rfl, ⟨hF, hn, hv⟩, ⟨dh, hh⟩, k⟩ := h
    rfl
  · obtain ⟨h, p, s1, q, n, kp, ks, kq, en, rfl, ⟨hF, hn, hv⟩, ⟨dh, hh⟩, k⟩ := h
    refine ⟨_, (pss_one (ps_ret (pe_call (ok_put_in T) (hr.mono (by decide)) rfl T.m_put_in T.F_put_in.kp T.b_put_in .nil pass0 (pa_cons (pv 0) (pa_cons (pe_make T.mk_Proxy (ok_Proxy_init_ T) (hr.mono (by decide)) rfl T.mg_Proxy T.b_Proxy_init_ .nil pass0 (pa_cons (pv 1) pa_nil)) (pa_cons (pe_callB (id := "len") Rd.c_lenD (by rfl) T.z_len (by decide +kernel) (pa_cons (pe_fld (pv 0) rfl) pa_nil)) pa_nil)))))), ?_⟩
    try dsimp only [L2.cxOf, L2.Cx.nox, L2.Cx.wish]
    change (_ : TS) _ ([some (.ref h), some (.int en)] : St) _
    have cl_Cell := T.cl_Cell
    have n_Cell_content := T.n_Cell_content
    have n_Cell_link := T.n_Cell_link
    have n_Cell_maker := T.n_Cell_maker
    have n_Cell_place := T.n_Cell_place
    have n_Cell_references := T.n_Cell_references
    have n_Cell_serial := T.n_Cell_serial
    have cl_CountedHeap := T.cl_CountedHeap
    have n_CountedHeap_places := T.n_CountedHeap_places
    have n_CountedHeap_proxies := T.n_CountedHeap_proxies
    have n_CountedHeap_serials := T.n_CountedHeap_serials
    have n_CountedHeap_vacant := T.n_CountedHeap_vacant
    have cl_PlainHeap := T.cl_PlainHeap
    have n_PlainHeap_places := T.n_PlainHeap_places
    have n_PlainHeap_proxies := T.n_PlainHeap_proxies
    have n_PlainHeap_serials := T.n_PlainHeap_serials
    have cl_Proxy := T.cl_Proxy
    have n_Proxy_entry := T.n_Proxy_entry
    have n_Proxy_link := T.n_Proxy_link
    have n_Proxy_maker := T.n_Proxy_maker
    have n_Proxy_place := T.n_Proxy_place
    have n_Proxy_references := T.n_Proxy_references
    have n_Proxy_serial := T.n_Proxy_serial
    have cl_Service := T.cl_Service
    have n_Service_body := T.n_Service_body
    have n_Service_link := T.n_Service_link
    have n_Service_maker := T.n_Service_maker
    have n_Service_place := T.n_Service_place
    have n_Service_references := T.n_Service_references
    have n_Service_serial := T.n_Service_serial
    have cl_TracedHeap := T.cl_TracedHeap
    have n_TracedHeap_next_index := T.n_TracedHeap_next_index
    have n_TracedHeap_places := T.n_TracedHeap_places
    have n_TracedHeap_proxies := T.n_TracedHeap_proxies
    have n_TracedHeap_serials := T.n_TracedHeap_serials
    have n_TracedHeap_space := T.n_TracedHeap_space
    walk_at "rd"
    refine x_Proxy fun t dt H1 nt e1 ht => ?_
    have hF1 := hF.mono e1
    have hht : h ≠ t := Ne.symm (hF.ne nt).1
    have hh1 := e1 _ _ hh
    have hp1 := hF1.hp
    walk_at "rd"
    rw [hn]
    refine ⟨h, t, p, s1, q, dt, (n : Nat), kp, ks, kq, .int 0, rfl, hF1, hht, .inr (.inr ⟨en, ht, fun r H' g => ?_⟩)⟩
    refine k t dt r H' (made_of nt (fun b o _ hbo => e1 _ _ hbo) (fun z => Evl.fresh_back e1 z) g) ⟨dh, g.but _ _ ?_ (e1 _ _ hh)⟩
    have h1 := hF.hp
    have h2 := hF.hs
    have h3 := hF.hq
    simp only [List.mem_cons, List.not_mem_nil, or_false, not_or]
    exact ⟨hht, ne_of hh h1 (by intro z; cases z), ne_of hh h2 (by intro z; cases z), ne_of hh h3 (by intro z; cases z)⟩

/-! split -/
/-! ### the law's own checks -/
theorem at_ok : PyData.strOk "at" = true := by decide +kernel
def atD (n : Int) : PyData := .tuple [.str "at", .int n]
theorem shp_at (n : Int) : SeqAt.shaped (atD n) = true := by
  simp [SeqAt.shaped, atD, PyData.canLay0, PyData.canLayAll0, PyData.depth, PyData.depthAll, at_ok]
theorem dp_at {K : PySem.W.Frag} {H : Hp} {r : Addr} {n : Int} (h : H r = some (.tup [.str "at", .int n])) : Dp K H (.ref r) (atD n) := Dt.ofT h (.cons (.str _) (.cons (.int _) .nil))
/-- a content: nothing, or a pair -/
def CtAt (H : Hp) (ct : V) : Prop := ct = .non ∨ ∃ (c : Addr) (k : Str) (v : V), ct = .ref c ∧ PyData.strOk k = true ∧ H c = some (.tup [.str k, v]) ∧ ((∃ i, v = .int i) ∨ ∃ z, v = .str z ∧ PyData.strOk z = true)
theorem CtAt.keep {H H' : Hp} {ct : V} (h : CtAt H ct) (k : ∀ b xs, H b = some (.tup xs) → H' b = some (.tup xs)) : CtAt H' ct := by
  rcases h with h | ⟨c, z, v, e, o, h1, h2⟩
  · exact .inl h
  · exact .inr ⟨c, z, v, e, o, k _ _ h1, h2⟩
theorem CtAt.dp {K : PySem.W.Frag} {H : Hp} {ct : V} (h : CtAt H ct) : ∃ d, Dp K H ct d ∧ SeqAt.shaped d = true := by
  rcases h with rfl | ⟨c, z, v, rfl, o, h1, ⟨i, rfl⟩ | ⟨y, rfl, o2⟩⟩
  · exact ⟨.none, .non, by decide⟩
  · exact ⟨.tuple [.str z, .int i], Dt.ofT h1 (.cons (.str _) (.cons (.int _) .nil)), by simp [SeqAt.shaped, PyData.canLay0, PyData.canLayAll0, PyData.depth, PyData.depthAll, o]⟩
  · exact ⟨.tuple [.str z, .str y], Dt.ofT h1 (.cons (.str _) (.cons (.str _) .nil)), by simp [SeqAt.shaped, PyData.canLay0, PyData.canLayAll0, PyData.depth, PyData.depthAll, o, o2]⟩
theorem abba {i : Int} (h0 : 0 ≤ i) (h1 : i < 5) : PyData.strOk (Txt.slice "abba" none (some i)) = true := by
  obtain rfl | rfl | rfl | rfl | rfl : i = 0 ∨ i = 1 ∨ i = 2 ∨ i = 3 ∨ i = 4 := by omega
  all_goals decide +kernel
def spContent : Sp := fun vs H Q _ => ∃ dk : Addr, vs = [.ref dk] ∧ H dk = some (Dk.DkO dk) ∧ ∀ ct H', Evl.Ex H H' → CtAt H' ct → Q ct H'
theorem ok_law_content {ad : Ad} (T : Txt K mg ad) : FnOk P w K mg base CX0 2 ad.a_law_content ad.d_law_content ["deck"] (spContent) := by
  refine T.F_law_content.ok sc_law_content (fun vs H Q E h => ?_) (fun cdv A outer s H vs Q E hr h => ?_)
  · obtain ⟨dk, rfl, hD, k⟩ := h
    rfl
  · obtain ⟨dk, rfl, hD, k⟩ := h
    refine ⟨_, (pss_cons (ps_set (i := 1) sc_law_content.nd rfl (Or.inl rfl) (pe_call (ok_law_take T) (hr.mono (by decide)) rfl T.m_law_take T.F_law_take.kp T.b_law_take .nil pass0 (pa_cons (pv 0) (pa_cons pe_int pa_nil))))
      (pss_cons (ps_set (i := 2) sc_law_content.nd rfl (Or.inl rfl) (pe_call (ok_law_take T) (hr.mono (by decide)) rfl T.m_law_take T.F_law_take.kp T.b_law_take .nil pass0 (pa_cons (pv 0) (pa_cons pe_int pa_nil))))
      (pss_cons (ps_if (pt_cmpR op_eq (pv 1) pe_int (nomark _)) (pss_one (ps_ret pe_non)) pss_nil)
      (pss_cons (ps_if (pt_cmpR op_eq (pv 1) pe_int (nomark _)) (pss_one (ps_ret (pe_tup (pa_cons pe_str (pa_cons (pe_op op_sub (pv 2) pe_int) pa_nil))))) pss_nil)
      (pss_cons (ps_if (pt_cmpR op_eq (pv 1) pe_int (nomark _)) (pss_one (ps_ret (pe_tup (pa_cons pe_str (pa_cons (pe_slice C8.sl_txt pe_str po_none (po_some (pe_op op_mod (pe_callTy (T := "int") Rd.c_int (by rfl) T.z_int (by decide +kernel) (pa_cons (pv 2) pa_nil)) pe_int))) pa_nil))))) pss_nil)
      (pss_one (ps_ret (pe_tup (pa_cons pe_str (pa_cons (pe_op op_mod (pe_callTy (T := "int") Rd.c_int (by rfl) T.z_int (by decide +kernel) (pa_cons (pv 2) pa_nil)) pe_int) pa_nil)))))))))), ?_⟩
    try dsimp only [L2.cxOf, L2.Cx.nox, L2.Cx.wish]
    change (_ : TS) _ ([some (.ref dk), none, none] : St) _
    walk_at "rd"
    intro kd kd0 kd1
    walk_at "rd"
    intro n n0 n1
    walk_at "rd"
    refine Rd.ifd (fun c0 => ?_) (fun c0 => ?_)
    · walk_at "rd"
      exact k _ _ (Evl.Ex.refl _) (.inl rfl)
    · walk_at "rd"
      refine Rd.ifd (fun c1 => ?_) (fun c1 => ?_)
      · walk_at "rd"
        refine Rd.xtup rfl fun c H1 n1 e1 hc => ?_
        exact k _ _ e1 (.inr ⟨c, _, _, rfl, by decide +kernel, hc, .inl ⟨_, rfl⟩⟩)
      · walk_at "rd"
        refine Rd.ifd (fun c2 => ?_) (fun c2 => ?_)
        · walk_at "rd"
          refine Rd.slX (by decide +kernel) ?_
          walk_at "rd"
          refine Rd.xtup rfl fun c H1 n1 e1 hc => ?_
          exact k _ _ e1 (.inr ⟨c, _, _, rfl, by decide +kernel, hc, .inr ⟨_, rfl, abba (Int.emod_nonneg _ (by decide)) (Int.emod_lt_of_pos _ (by decide))⟩⟩)
        · walk_at "rd"
          refine Rd.xtup rfl fun c H1 n1 e1 hc => ?_
          exact k _ _ e1 (.inr ⟨c, _, _, rfl, by decide +kernel, hc, .inl ⟨_, rfl⟩⟩)
/-- a thing of any kind, by the fields that all have -/
def ThAt (cC cS cP : Addr) (H : Hp) (t : Addr) (n rf : Int) : Prop := ∃ dt,
  (∃ a b c, H t = some (.ins cC dt (fs_Cell a b c (.int n) .non (.int rf)))) ∨ (∃ a b c, H t = some (.ins cS dt (fs_Service a b c (.int n) .non (.int rf)))) ∨ (∃ c, H t = some (.ins cP dt (fs_Proxy .non .non c (.int n) .non (.int rf))))
def spNew (cC cS cP : Addr) : Sp := fun vs H Q _ => ∃ (t : Addr) (n rf : Int), vs = [.ref t, .int n, .int rf] ∧ ThAt cC cS cP H t n rf ∧ Q (.bl true) H
theorem ok_law_new {ad : Ad} (T : Txt K mg ad) : FnOk P w K mg base CX0 2 ad.a_law_new ad.d_law_new ["thing", "place", "references"] (spNew ad.c_Cell ad.c_Service ad.c_Proxy) := by
  refine T.F_law_new.ok sc_law_new (fun vs H Q E h => ?_) (fun cdv A outer s H vs Q E hr h => ?_)
  · obtain ⟨t, n, rf, rfl, ⟨dt, hk⟩, k⟩ := h
    rfl
  · obtain ⟨t, n, rf, rfl, ⟨dt, hk⟩, k⟩ := h
    refine ⟨_, (pss_cons (ps_if (PW.pt (pw_or (pt_not (pt_val (pe_call (ok_law_whole T) (hr.mono (by decide)) rfl T.m_law_whole T.F_law_whole.kp T.b_law_whole .nil pass0 (pa_cons (pe_fld (pv 0) rfl) pa_nil)))) (pw_or (pt_cmpR op_ne (pe_fld (pv 0) rfl) (pv 1) (nomark _)) (pw_or1 (pt_cmpR op_notN1 (pe_fld (pv 0) rfl) pe_non (nomark _)))))) (pss_one (ps_ret pe_bl)) pss_nil)
      (pss_one (ps_ret (pe_and (pe_call (ok_law_whole T) (hr.mono (by decide)) rfl T.m_law_whole T.F_law_whole.kp T.b_law_whole .nil pass0 (pa_cons (pe_fld (pv 0) rfl) pa_nil)) (pe_one (pe_cmpR op_eq (pe_fld (pv 0) rfl) (pv 2) (nomark _))))))), ?_⟩
    try dsimp only [L2.cxOf, L2.Cx.nox, L2.Cx.wish]
    change (_ : TS) _ ([some (.ref t), some (.int n), some (.int rf)] : St) _
    have cl_Cell := T.cl_Cell
    have n_Cell_content := T.n_Cell_content
    have n_Cell_link := T.n_Cell_link
    have n_Cell_maker := T.n_Cell_maker
    have n_Cell_place := T.n_Cell_place
    have n_Cell_references := T.n_Cell_references
    have n_Cell_serial := T.n_Cell_serial
    have cl_CountedHeap := T.cl_CountedHeap
    have n_CountedHeap_places := T.n_CountedHeap_places
    have n_CountedHeap_proxies := T.n_CountedHeap_proxies
    have n_CountedHeap_serials := T.n_CountedHeap_serials
    have n_CountedHeap_vacant := T.n_CountedHeap_vacant
    have cl_PlainHeap := T.cl_PlainHeap
    have n_PlainHeap_places := T.n_PlainHeap_places
    have n_PlainHeap_proxies := T.n_PlainHeap_proxies
    have n_PlainHeap_serials := T.n_PlainHeap_serials
    have cl_Proxy := T.cl_Proxy
    have n_Proxy_entry := T.n_Proxy_entry
    have n_Proxy_link := T.n_Proxy_link
    have n_Proxy_maker := T.n_Proxy_maker
    have n_Proxy_place := T.n_Proxy_place
    have n_Proxy_references := T.n_Proxy_references
    have n_Proxy_serial := T.n_Proxy_serial
    have cl_Service := T.cl_Service
    have n_Service_body := T.n_Service_body
    have n_Service_link := T.n_Service_link
    have n_Service_maker := T.n_Service_maker
    have n_Service_place := T.n_Service_place
    have n_Service_references := T.n_Service_references
    have n_Service_serial := T.n_Service_serial
    have cl_TracedHeap := T.cl_TracedHeap
    have n_TracedHeap_next_index := T.n_TracedHeap_next_index
    have n_TracedHeap_places := T.n_TracedHeap_places
    have n_TracedHeap_proxies := T.n_TracedHeap_proxies
    have n_TracedHeap_serials := T.n_TracedHeap_serials
    have n_TracedHeap_space := T.n_TracedHeap_space
    have hdec : ∀ i : Int, decide (i = i) = true := fun i => decide_eq_true rfl
    rcases hk with ⟨a, b, c, ht⟩ | ⟨a, b, c, ht⟩ | ⟨c, ht⟩
    all_goals
      walk_at "rd"
      refine ⟨_, rfl, ?_⟩
      walk_at "rd"
      refine ⟨_, rfl, ?_⟩
      walk_at "rd"
      rw [hdec rf]
      exact k
def MkV (mk : V) : Prop := mk = .non ∨ ∃ i, mk = .int i
theorem mk_scal {mk : V} (h : MkV mk) : scal mk mk = true := by
  rcases h with rfl | ⟨i, rfl⟩ <;> rfl
def spCell (cC : Addr) (K : PySem.W.Frag) : Sp := fun vs H Q _ => ∃ (t dt : Addr) (se : Int) (mk ct pl lk rf : V), vs = [.ref t, .int se, mk, ct] ∧ H t = some (.ins cC dt (fs_Cell (.int se) mk ct pl lk rf)) ∧ MkV mk ∧ CtAt H ct ∧ Q (.bl true) H
theorem ok_law_cell {ad : Ad} (T : Txt K mg ad) : FnOk P w K mg base CX0 1 ad.a_law_cell ad.d_law_cell ["thing", "serial", "maker", "content"] (spCell ad.c_Cell K) := by
  refine T.F_law_cell.ok sc_law_cell (fun vs H Q E h => ?_) (fun cdv A outer s H vs Q E hr h => ?_)
  · obtain ⟨t, dt, se, mk, ct, pl, lk, rf, rfl, ht, hmk, hct, k⟩ := h
    rfl
  · obtain ⟨t, dt, se, mk, ct, pl, lk, rf, rfl, ht, hmk, hct, k⟩ := h
    refine ⟨_, (pss_cons (ps_if (PW.pt (pw_or (pt_not (pt_val (pe_callB (id := "isinstance") call_isi (by rfl) T.z_isinstance (by decide +kernel) (pa_cons (pv 0) (pa_cons (pe_glob (v := .ref ad.c_Cell) rfl T.mg_Cell rfl) pa_nil))))) (pw_or (pt_val (pe_callB (id := "isinstance") call_isi (by rfl) T.z_isinstance (by decide +kernel) (pa_cons (pv 0) (pa_cons (pe_glob (v := .ref ad.c_Service) rfl T.mg_Service rfl) pa_nil)))) (pw_or1 (pt_val (pe_callB (id := "isinstance") call_isi (by rfl) T.z_isinstance (by decide +kernel) (pa_cons (pv 0) (pa_cons (pe_glob (v := .ref ad.c_Proxy) rfl T.mg_Proxy rfl) pa_nil)))))))) (pss_one (ps_ret pe_bl)) pss_nil)
      (pss_one (ps_ret (pe_and (pe_cmpR op_eq (pe_fld (pv 0) rfl) (pv 1) (nomark _)) (pe_and (pe_cmpR op_eq (pe_fld (pv 0) rfl) (pv 2) (nomark _)) (pe_one (pe_cmpR (op_eqD hr.units) (pe_fld (pv 0) rfl) (pv 3) (nomark _)))))))), ?_⟩
    try dsimp only [L2.cxOf, L2.Cx.nox, L2.Cx.wish]
    change (_ : TS) _ ([some (.ref t), some (.int se), some (mk), some (ct)] : St) _
    have cl_Cell := T.cl_Cell
    have n_Cell_content := T.n_Cell_content
    have n_Cell_link := T.n_Cell_link
    have n_Cell_maker := T.n_Cell_maker
    have n_Cell_place := T.n_Cell_place
    have n_Cell_references := T.n_Cell_references
    have n_Cell_serial := T.n_Cell_serial
    have cl_CountedHeap := T.cl_CountedHeap
    have n_CountedHeap_places := T.n_CountedHeap_places
    have n_CountedHeap_proxies := T.n_CountedHeap_proxies
    have n_CountedHeap_serials := T.n_CountedHeap_serials
    have n_CountedHeap_vacant := T.n_CountedHeap_vacant
    have cl_PlainHeap := T.cl_PlainHeap
    have n_PlainHeap_places := T.n_PlainHeap_places
    have n_PlainHeap_proxies := T.n_PlainHeap_proxies
    have n_PlainHeap_serials := T.n_PlainHeap_serials
    have cl_Proxy := T.cl_Proxy
    have n_Proxy_entry := T.n_Proxy_entry
    have n_Proxy_link := T.n_Proxy_link
    have n_Proxy_maker := T.n_Proxy_maker
    have n_Proxy_place := T.n_Proxy_place
    have n_Proxy_references := T.n_Proxy_references
    have n_Proxy_serial := T.n_Proxy_serial
    have cl_Service := T.cl_Service
    have n_Service_body := T.n_Service_body
    have n_Service_link := T.n_Service_link
    have n_Service_maker := T.n_Service_maker
    have n_Service_place := T.n_Service_place
    have n_Service_references := T.n_Service_references
    have n_Service_serial := T.n_Service_serial
    have cl_TracedHeap := T.cl_TracedHeap
    have n_TracedHeap_next_index := T.n_TracedHeap_next_index
    have n_TracedHeap_places := T.n_TracedHeap_places
    have n_TracedHeap_proxies := T.n_TracedHeap_proxies
    have n_TracedHeap_serials := T.n_TracedHeap_serials
    have n_TracedHeap_space := T.n_TracedHeap_space
    obtain ⟨d, hd, hsd⟩ := hct.dp (K := K)
    walk_at "rd"
    refine Rd.isiOwn ht T.cl_Cell T.is_Cell T.is_get T.is_tk T.io_Cell T.kt_Cell_Cell ?_
    walk_at "rd"
    refine Rd.isiOwn ht T.cl_Cell T.is_Cell T.is_get T.is_tk T.io_Cell T.kt_Cell_Service ?_
    walk_at "rd"
    refine Rd.isiOwn ht T.cl_Cell T.is_Cell T.is_get T.is_tk T.io_Cell T.kt_Cell_Proxy ?_
    walk_at "rd"
    refine Rd.eqX (mk_scal hmk) ?_
    rw [decide_eq_true (rfl : mk = mk)]
    walk_at "rd"
    exact Rd.eqDr hd hd hsd k
def spService (cS : Addr) : Sp := fun vs H Q _ => ∃ (t dt : Addr) (se bo : Int) (mk pl lk rf : V), vs = [.ref t, .int se, mk, .int bo] ∧ H t = some (.ins cS dt (fs_Service (.int se) mk (.int bo) pl lk rf)) ∧ MkV mk ∧ Q (.bl true) H
theorem ok_law_service {ad : Ad} (T : Txt K mg ad) : FnOk P w K mg base CX0 1 ad.a_law_service ad.d_law_service ["thing", "serial", "maker", "body"] (spService ad.c_Service) := by
  refine T.F_law_service.ok sc_law_service (fun vs H Q E h => ?_) (fun cdv A outer s H vs Q E hr h => ?_)
  · obtain ⟨t, dt, se, bo, mk, pl, lk, rf, rfl, ht, hmk, k⟩ := h
    rfl
  · obtain ⟨t, dt, se, bo, mk, pl, lk, rf, rfl, ht, hmk, k⟩ := h
    refine ⟨_, (pss_cons (ps_if (PW.pt (pw_or (pt_not (pt_val (pe_callB (id := "isinstance") call_isi (by rfl) T.z_isinstance (by decide +kernel) (pa_cons (pv 0) (pa_cons (pe_glob (v := .ref ad.c_Service) rfl T.mg_Service rfl) pa_nil))))) (pw_or (pt_val (pe_callB (id := "isinstance") call_isi (by rfl) T.z_isinstance (by decide +kernel) (pa_cons (pv 0) (pa_cons (pe_glob (v := .ref ad.c_Cell) rfl T.mg_Cell rfl) pa_nil)))) (pw_or1 (pt_val (pe_callB (id := "isinstance") call_isi (by rfl) T.z_isinstance (by decide +kernel) (pa_cons (pv 0) (pa_cons (pe_glob (v := .ref ad.c_Proxy) rfl T.mg_Proxy rfl) pa_nil)))))))) (pss_one (ps_ret pe_bl)) pss_nil)
      (pss_one (ps_ret (pe_and (pe_cmpR op_eq (pe_fld (pv 0) rfl) (pv 1) (nomark _)) (pe_and (pe_cmpR op_eq (pe_fld (pv 0) rfl) (pv 2) (nomark _)) (pe_one (pe_cmpR op_eq (pe_fld (pv 0) rfl) (pv 3) (nomark _)))))))), ?_⟩
    try dsimp only [L2.cxOf, L2.Cx.nox, L2.Cx.wish]
    change (_ : TS) _ ([some (.ref t), some (.int se), some (mk), some (.int bo)] : St) _
    have cl_Cell := T.cl_Cell
    have n_Cell_content := T.n_Cell_content
    have n_Cell_link := T.n_Cell_link
    have n_Cell_maker := T.n_Cell_maker
    have n_Cell_place := T.n_Cell_place
    have n_Cell_references := T.n_Cell_references
    have n_Cell_serial := T.n_Cell_serial
    have cl_CountedHeap := T.cl_CountedHeap
    have n_CountedHeap_places := T.n_CountedHeap_places
    have n_CountedHeap_proxies := T.n_CountedHeap_proxies
    have n_CountedHeap_serials := T.n_CountedHeap_serials
    have n_CountedHeap_vacant := T.n_CountedHeap_vacant
    have cl_PlainHeap := T.cl_PlainHeap
    have n_PlainHeap_places := T.n_PlainHeap_places
    have n_PlainHeap_proxies := T.n_PlainHeap_proxies
    have n_PlainHeap_serials := T.n_PlainHeap_serials
    have cl_Proxy := T.cl_Proxy
    have n_Proxy_entry := T.n_Proxy_entry
    have n_Proxy_link := T.n_Proxy_link
    have n_Proxy_maker := T.n_Proxy_maker
    have n_Proxy_place := T.n_Proxy_place
    have n_Proxy_references := T.n_Proxy_references
    have n_Proxy_serial := T.n_Proxy_serial
    have cl_Service := T.cl_Service
    have n_Service_body := T.n_Service_body
    have n_Service_link := T.n_Service_link
    have n_Service_maker := T.n_Service_maker
    have n_Service_place := T.n_Service_place
    have n_Service_references := T.n_Service_references
    have n_Service_serial := T.n_Service_serial
    have cl_TracedHeap := T.cl_TracedHeap
    have n_TracedHeap_next_index := T.n_TracedHeap_next_index
    have n_TracedHeap_places := T.n_TracedHeap_places
    have n_TracedHeap_proxies := T.n_TracedHeap_proxies
    have n_TracedHeap_serials := T.n_TracedHeap_serials
    have n_TracedHeap_space := T.n_TracedHeap_space
    walk_at "rd"
    refine Rd.isiOwn ht T.cl_Service T.is_Service T.is_get T.is_tk T.io_Service T.kt_Service_Service ?_
    walk_at "rd"
    refine Rd.isiOwn ht T.cl_Service T.is_Service T.is_get T.is_tk T.io_Service T.kt_Service_Cell ?_
    walk_at "rd"
    refine Rd.isiOwn ht T.cl_Service T.is_Service T.is_get T.is_tk T.io_Service T.kt_Service_Proxy ?_
    walk_at "rd"
    refine Rd.eqX (mk_scal hmk) ?_
    rw [decide_eq_true (rfl : mk = mk)]
    walk_at "rd"
    rw [decide_eq_true (rfl : bo = bo)]
    exact k
def spProxy (cP : Addr) : Sp := fun vs H Q _ => ∃ (t dt : Addr) (en : Int) (pl lk rf : V), vs = [.ref t, .int en] ∧ H t = some (.ins cP dt (fs_Proxy .non .non (.int en) pl lk rf)) ∧ Q (.bl true) H
theorem ok_law_proxy {ad : Ad} (T : Txt K mg ad) : FnOk P w K mg base CX0 1 ad.a_law_proxy ad.d_law_proxy ["thing", "entry"] (spProxy ad.c_Proxy) := by
  refine T.F_law_proxy.ok sc_law_proxy (fun vs H Q E h => ?_) (fun cdv A outer s H vs Q E hr h => ?_)
  · obtain ⟨t, dt, en, pl, lk, rf, rfl, ht, k⟩ := h
    rfl
  · obtain ⟨t, dt, en, pl, lk, rf, rfl, ht, k⟩ := h
    refine ⟨_, (pss_cons (ps_if (PW.pt (pw_or (pt_not (pt_val (pe_callB (id := "isinstance") call_isi (by rfl) T.z_isinstance (by decide +kernel) (pa_cons (pv 0) (pa_cons (pe_glob (v := .ref ad.c_Proxy) rfl T.mg_Proxy rfl) pa_nil))))) (pw_or (pt_val (pe_callB (id := "isinstance") call_isi (by rfl) T.z_isinstance (by decide +kernel) (pa_cons (pv 0) (pa_cons (pe_glob (v := .ref ad.c_Cell) rfl T.mg_Cell rfl) pa_nil)))) (pw_or1 (pt_val (pe_callB (id := "isinstance") call_isi (by rfl) T.z_isinstance (by decide +kernel) (pa_cons (pv 0) (pa_cons (pe_glob (v := .ref ad.c_Service) rfl T.mg_Service rfl) pa_nil)))))))) (pss_one (ps_ret pe_bl)) pss_nil)
      (pss_one (ps_ret (pe_and (pe_cmpR op_isN1 (pe_fld (pv 0) rfl) pe_non (nomark _)) (pe_and (pe_cmpR op_isN1 (pe_fld (pv 0) rfl) pe_non (nomark _)) (pe_one (pe_cmpR op_eq (pe_fld (pv 0) rfl) (pv 1) (nomark _)))))))), ?_⟩
    try dsimp only [L2.cxOf, L2.Cx.nox, L2.Cx.wish]
    change (_ : TS) _ ([some (.ref t), some (.int en)] : St) _
    have cl_Cell := T.cl_Cell
    have n_Cell_content := T.n_Cell_content
    have n_Cell_link := T.n_Cell_link
    have n_Cell_maker := T.n_Cell_maker
    have n_Cell_place := T.n_Cell_place
    have n_Cell_references := T.n_Cell_references
    have n_Cell_serial := T.n_Cell_serial
    have cl_CountedHeap := T.cl_CountedHeap
    have n_CountedHeap_places := T.n_CountedHeap_places
    have n_CountedHeap_proxies := T.n_CountedHeap_proxies
    have n_CountedHeap_serials := T.n_CountedHeap_serials
    have n_CountedHeap_vacant := T.n_CountedHeap_vacant
    have cl_PlainHeap := T.cl_PlainHeap
    have n_PlainHeap_places := T.n_PlainHeap_places
    have n_PlainHeap_proxies := T.n_PlainHeap_proxies
    have n_PlainHeap_serials := T.n_PlainHeap_serials
    have cl_Proxy := T.cl_Proxy
    have n_Proxy_entry := T.n_Proxy_entry
    have n_Proxy_link := T.n_Proxy_link
    have n_Proxy_maker := T.n_Proxy_maker
    have n_Proxy_place := T.n_Proxy_place
    have n_Proxy_references := T.n_Proxy_references
    have n_Proxy_serial := T.n_Proxy_serial
    have cl_Service := T.cl_Service
    have n_Service_body := T.n_Service_body
    have n_Service_link := T.n_Service_link
    have n_Service_maker := T.n_Service_maker
    have n_Service_place := T.n_Service_place
    have n_Service_references := T.n_Service_references
    have n_Service_serial := T.n_Service_serial
    have cl_TracedHeap := T.cl_TracedHeap
    have n_TracedHeap_next_index := T.n_TracedHeap_next_index
    have n_TracedHeap_places := T.n_TracedHeap_places
    have n_TracedHeap_proxies := T.n_TracedHeap_proxies
    have n_TracedHeap_serials := T.n_TracedHeap_serials
    have n_TracedHeap_space := T.n_TracedHeap_space
    walk_at "rd"
    refine Rd.isiOwn ht T.cl_Proxy T.is_Proxy T.is_get T.is_tk T.io_Proxy T.kt_Proxy_Proxy ?_
    walk_at "rd"
    refine Rd.isiOwn ht T.cl_Proxy T.is_Proxy T.is_get T.is_tk T.io_Proxy T.kt_Proxy_Cell ?_
    walk_at "rd"
    refine Rd.isiOwn ht T.cl_Proxy T.is_Proxy T.is_get T.is_tk T.io_Proxy T.kt_Proxy_Service ?_
    walk_at "rd"
    rw [decide_eq_true (rfl : en = en)]
    exact k
def spIsRef (K : PySem.W.Frag) : Sp := fun vs H Q _ => ∃ v0, vs = [v0] ∧ ((v0 = .non ∧ Q (.bl false) H) ∨ ∃ (p : Addr) (k : Str) (v : V), v0 = .ref p ∧ SqT K H p [.str k, v] ∧ Q (.bl (decide (k = "at"))) H)
theorem ok_is_reference {ad : Ad} (T : Txt K mg ad) : FnOk P w K mg base CX0 1 ad.a_is_reference ad.d_is_reference ["value"] (spIsRef K) := by
  refine T.F_is_reference.ok sc_is_reference (fun vs H Q E h => ?_) (fun cdv A outer s H vs Q E hr h => ?_)
  · obtain ⟨v0, rfl, hk⟩ := h
    rfl
  · obtain ⟨v0, rfl, hk⟩ := h
    refine ⟨_, (pss_one (ps_ret (pe_and (pe_cmpR op_notN1 (pv 0) pe_non (nomark _)) (pe_one (pe_cmpR op_eq (pe_ix ix_tup (pv 0) pe_int (fun _ _ => rfl)) pe_str (nomark _)))))), ?_⟩
    try dsimp only [L2.cxOf, L2.Cx.nox, L2.Cx.wish]
    change (_ : TS) _ ([some (v0)] : St) _
    rcases hk with ⟨rfl, k⟩ | ⟨p, kk, v, rfl, hp, k⟩
    · walk_at "rd"
      exact k
    · walk_at "rd"
      exact k
theorem nm4 {x h p s q : Addr} (a : x ≠ h) (b : x ≠ p) (c : x ≠ s) (d : x ≠ q) : x ∉ [h, p, s, q] := by
  simp only [List.mem_cons, List.not_mem_nil, or_false, not_or]
  exact ⟨a, b, c, d⟩
/-- what stays when a thing is made: what is no dict and not the heap -/
theorem Made.keep {H H' : Hp} {h t p s q r x : Addr} {n : Int} {u o : HO} {kp' ks' kq' kp ks kq : List (Key × V)} {K : PySem.W.Frag} (g : Made H H' h t p s q r n u kp' ks' kq') (f : HeapF K H h p s q kp ks kq) (hx : H x = some o) (nd : ∀ kv, o ≠ .dK kv) (nh : x ≠ h) : H' x = some o :=
  g.but _ _ (nm4 nh (ne_of hx f.hp (nd _)) (ne_of hx f.hs (nd _)) (ne_of hx f.hq (nd _))) hx
theorem Made.tup {H H' : Hp} {h t p s q r x : Addr} {n : Int} {u : HO} {xs : List V} {kp' ks' kq' kp ks kq : List (Key × V)} {K : PySem.W.Frag} (g : Made H H' h t p s q r n u kp' ks' kq') (f : HeapF K H h p s q kp ks kq) (hx : H x = some (.tup xs)) : H' x = some (.tup xs) := by
  obtain ⟨C, dx, fs, hh, _⟩ := f.at_
  exact g.keep f hx (fun kv z => by cases z) (ne_of hx hh (by intro z; cases z))
theorem Made.dk {H H' : Hp} {h t p s q r x : Addr} {n : Int} {u : HO} {kp' ks' kq' kp ks kq : List (Key × V)} {K : PySem.W.Frag} (g : Made H H' h t p s q r n u kp' ks' kq') (f : HeapF K H h p s q kp ks kq) (hx : H x = some (Dk.DkO x)) : H' x = some (Dk.DkO x) := by
  obtain ⟨C, dx, fs, hh, _⟩ := f.at_
  exact g.keep f hx (fun kv z => by have z' : HO.ext _ = HO.dK kv := z; cases z') (ne_of hx hh (by intro z; have z' : HO.ext _ = HO.ins C dx fs := z; cases z'))
theorem But.trans {xs : List Addr} {H1 H2 H3 : Hp} (a : But xs H1 H2) (b : But xs H2 H3) : But xs H1 H3 := fun c o hc h => b c o hc (a c o hc h)
theorem But.ex {xs : List Addr} {H1 H2 : Hp} (a : Evl.Ex H1 H2) : But xs H1 H2 := fun c o _ h => a c o h
theorem one_mk {k : Int} (h0 : 0 ≤ k) (h1 : k < 3) : ∃ mk, MkV mk ∧ atI [V.non, .int 0, .int 1] k = some mk := by
  obtain rfl | rfl | rfl : k = 0 ∨ k = 1 ∨ k = 2 := by omega
  · exact ⟨.non, .inl rfl, rfl⟩
  · exact ⟨.int 0, .inr ⟨0, rfl⟩, rfl⟩
  · exact ⟨.int 1, .inr ⟨1, rfl⟩, rfl⟩
theorem inl_ne {a b : Int} (h : a ≠ b) : ¬ (Sum.inl a : Key) = .inl b := fun z => h (Sum.inl.inj z)
def k1 (n : Int) (v : V) : List (Key × V) := putK [] (.inl n) v
theorem k1_len (n : Int) (v : V) : (k1 n v).length = 1 := rfl
theorem k1_same (n : Int) (v : V) : valV (k1 n v) (.inl n) = some v := by unfold k1; rw [valV_put, if_pos rfl]
theorem k1_ne {n m : Int} (v : V) (h : m ≠ n) : valV (k1 n v) (.inl m) = none := by unfold k1; rw [valV_put, if_neg (inl_ne h)]; rfl
theorem put_same (kv : List (Key × V)) (n : Int) (v : V) : valV (putK kv (.inl n) v) (.inl n) = some v := by rw [valV_put, if_pos rfl]
theorem put_ne (kv : List (Key × V)) {n m : Int} (v : V) (h : m ≠ n) : valV (putK kv (.inl n) v) (.inl m) = valV kv (.inl m) := by rw [valV_put, if_neg (inl_ne h)]
theorem put_len {kv : List (Key × V)} {n : Int} (v : V) (h : valV kv (.inl n) = none) : (putK kv (.inl n) v).length = kv.length + 1 := by rw [putK_new v h, List.length_append]; rfl
theorem hf_CountedHeap {ad : Ad} (T : Txt K mg ad) {H : Hp} {h p s q : Addr} {n : Nat} {kp ks kq : List (Key × V)} (st : St_CountedHeap ad.c_CountedHeap H h p s q n) (hp : H p = some (.dK kp)) (hs : H s = some (.dK ks)) (hq : H q = some (.dK kq)) (ps : p ≠ s) (pq : p ≠ q) (sq : s ≠ q) (lp : kp.length ≤ 1000) (ls : ks.length ≤ 1000) (lq : kq.length ≤ 1000) : HeapF K H h p s q kp ks kq := by
  obtain ⟨dx, v, hh, hv⟩ := st
  exact ⟨⟨_, _, _, hh, T.cl_CountedHeap, T.n_CountedHeap_places, T.n_CountedHeap_serials, T.n_CountedHeap_proxies, by walk_at "lk", by walk_at "lk", by walk_at "lk"⟩, hp, hs, hq, ps, pq, sq, lp, ls, lq⟩
theorem st_mono_CountedHeap {C : Addr} {H H' : Hp} {h p s q : Addr} {n : Nat} (st : St_CountedHeap C H h p s q n) (e : Evl.Ex H H') : St_CountedHeap C H' h p s q n := by
  obtain ⟨dx, v, hh, hv⟩ := st
  exact ⟨dx, v, e _ _ hh, e _ _ hv⟩
theorem hf_TracedHeap {ad : Ad} (T : Txt K mg ad) {H : Hp} {h p s q : Addr} {n : Nat} {kp ks kq : List (Key × V)} (st : St_TracedHeap ad.c_TracedHeap H h p s q n) (hp : H p = some (.dK kp)) (hs : H s = some (.dK ks)) (hq : H q = some (.dK kq)) (ps : p ≠ s) (pq : p ≠ q) (sq : s ≠ q) (lp : kp.length ≤ 1000) (ls : ks.length ≤ 1000) (lq : kq.length ≤ 1000) : HeapF K H h p s q kp ks kq := by
  obtain ⟨dx, hh⟩ := st
  exact ⟨⟨_, _, _, hh, T.cl_TracedHeap, T.n_TracedHeap_places, T.n_TracedHeap_serials, T.n_TracedHeap_proxies, by walk_at "lk", by walk_at "lk", by walk_at "lk"⟩, hp, hs, hq, ps, pq, sq, lp, ls, lq⟩
theorem st_mono_TracedHeap {C : Addr} {H H' : Hp} {h p s q : Addr} {n : Nat} (st : St_TracedHeap C H h p s q n) (e : Evl.Ex H H') : St_TracedHeap C H' h p s q n := by
  obtain ⟨dx, hh⟩ := st
  exact ⟨dx, e _ _ hh⟩
theorem hf_PlainHeap {ad : Ad} (T : Txt K mg ad) {H : Hp} {h p s q : Addr} {n : Nat} {kp ks kq : List (Key × V)} (st : St_PlainHeap ad.c_PlainHeap H h p s q n) (hp : H p = some (.dK kp)) (hs : H s = some (.dK ks)) (hq : H q = some (.dK kq)) (ps : p ≠ s) (pq : p ≠ q) (sq : s ≠ q) (lp : kp.length ≤ 1000) (ls : ks.length ≤ 1000) (lq : kq.length ≤ 1000) : HeapF K H h p s q kp ks kq := by
  obtain ⟨dx, hh⟩ := st
  exact ⟨⟨_, _, _, hh, T.cl_PlainHeap, T.n_PlainHeap_places, T.n_PlainHeap_serials, T.n_PlainHeap_proxies, by walk_at "lk", by walk_at "lk", by walk_at "lk"⟩, hp, hs, hq, ps, pq, sq, lp, ls, lq⟩
theorem st_mono_PlainHeap {C : Addr} {H H' : Hp} {h p s q : Addr} {n : Nat} (st : St_PlainHeap C H h p s q n) (e : Evl.Ex H H') : St_PlainHeap C H' h p s q n := by
  obtain ⟨dx, hh⟩ := st
  exact ⟨dx, e _ _ hh⟩
/-! split -/
def spLHeap_CountedHeap (cH : Addr) (K : PySem.W.Frag) : Sp := fun vs H Q _ => ∃ (dk h p s q : Addr), vs = [.ref dk, .ref h, .int 1, .int 1] ∧ H dk = some (Dk.DkO dk) ∧ HeapF K H h p s q [] [] [] ∧ St_CountedHeap cH H h p s q 0 ∧ ∀ H', But [h, p, s, q] H H' → Q (.bl true) H'
theorem ok_law_heap_CountedHeap {ad : Ad} (T : Txt K mg ad) : FnOk P w K mg base CX0 4 ad.a_law_heap ad.d_law_heap ["deck", "heap", "step", "references"] (spLHeap_CountedHeap ad.c_CountedHeap K) := by
  refine T.F_law_heap.ok sc_law_heap (fun vs H Q E h => ?_) (fun cdv A outer s H vs Q E hr h => ?_)
  · obtain ⟨dk, h, p, s1, q, rfl, hD, hF, hSt, k⟩ := h
    rfl
  · obtain ⟨dk, h, p, s1, q, rfl, hD, hF, hSt, k⟩ := h
    refine ⟨_, (pss_cons (ps_set (i := 4) sc_law_heap.nd rfl (Or.inl rfl) (pe_call (ok_law_take T) (hr.mono (by decide)) rfl T.m_law_take T.F_law_take.kp T.b_law_take .nil pass0 (pa_cons (pv 0) (pa_cons pe_int pa_nil))))
      (pss_cons (ps_set (i := 5) sc_law_heap.nd rfl (Or.inl rfl) (pe_ix ix_list (pe_lst (pa_cons pe_non (pa_cons pe_int (pa_cons pe_int pa_nil)))) (pe_call (ok_law_take T) (hr.mono (by decide)) rfl T.m_law_take T.F_law_take.kp T.b_law_take .nil pass0 (pa_cons (pv 0) (pa_cons pe_int pa_nil))) (fun _ _ => rfl)))
      (pss_cons (ps_set (i := 6) sc_law_heap.nd rfl (Or.inl rfl) (pe_call (ok_law_content T) (hr.mono (by decide)) rfl T.m_law_content T.F_law_content.kp T.b_law_content .nil pass0 (pa_cons (pv 0) pa_nil)))
      (pss_cons (ps_set (i := 7) sc_law_heap.nd rfl (Or.inl rfl) (pe_call (ok_law_take T) (hr.mono (by decide)) rfl T.m_law_take T.F_law_take.kp T.b_law_take .nil pass0 (pa_cons (pv 0) (pa_cons pe_int pa_nil))))
      (pss_cons (ps_set (i := 8) sc_law_heap.nd rfl (Or.inl rfl) (pe_call (ok_law_take T) (hr.mono (by decide)) rfl T.m_law_take T.F_law_take.kp T.b_law_take .nil pass0 (pa_cons (pv 0) (pa_cons pe_int pa_nil))))
      (pss_cons (ps_set (i := 9) sc_law_heap.nd rfl (Or.inl rfl) (pe_meth (pv 1) T.cl_CountedHeap T.me_CountedHeap_make_cell (ok_CountedHeap_make_cell T) (hr.mono (by decide)) T.b_CountedHeap_make_cell .nil pass0 (pa_cons (pv 4) (pa_cons (pv 5) (pa_cons (pv 6) pa_nil)))))
      (pss_cons (ps_set (i := 10) sc_law_heap.nd rfl (Or.inl rfl) (pe_meth (pv 1) T.cl_CountedHeap T.me_CountedHeap_make_service (ok_CountedHeap_make_service T) (hr.mono (by decide)) T.b_CountedHeap_make_service .nil pass0 (pa_cons (pe_op op_add (pv 4) pe_int) (pa_cons (pv 5) (pa_cons (pv 7) pa_nil)))))
      (pss_cons (ps_set (i := 11) sc_law_heap.nd rfl (Or.inl rfl) (pe_meth (pv 1) T.cl_CountedHeap T.me_CountedHeap_make_proxy (ok_CountedHeap_make_proxy T) (hr.mono (by decide)) T.b_CountedHeap_make_proxy .nil pass0 (pa_cons (pv 8) pa_nil)))
      (pss_cons (ps_if (PW.pt (pw_or (pt_cmpR (op_neD hr.units) (pv 9) (pe_tup (pa_cons pe_str (pa_cons pe_int pa_nil))) (nomark _)) (pw_or (pt_cmpR (op_neD hr.units) (pv 10) (pe_tup (pa_cons pe_str (pa_cons (pv 2) pa_nil))) (nomark _)) (pw_or1 (pt_cmpR (op_neD hr.units) (pv 11) (pe_tup (pa_cons pe_str (pa_cons (pe_op op_mul pe_int (pv 2)) pa_nil))) (nomark _)))))) (pss_one (ps_ret pe_bl)) pss_nil)
      (pss_cons (ps_if (PW.pt (pw_or (pt_not (pt_val (pe_call (ok_law_new T) (hr.mono (by decide)) rfl T.m_law_new T.F_law_new.kp T.b_law_new .nil pass0 (pa_cons (pe_meth (pv 1) T.cl_CountedHeap T.me_CountedHeap_thing (ok_CountedHeap_thing T) (hr.mono (by decide)) T.b_CountedHeap_thing .nil pass0 (pa_cons (pv 9) pa_nil)) (pa_cons pe_int (pa_cons (pv 3) pa_nil)))))) (pw_or1 (pt_not (pt_val (pe_call (ok_law_new T) (hr.mono (by decide)) rfl T.m_law_new T.F_law_new.kp T.b_law_new .nil pass0 (pa_cons (pe_meth (pv 1) T.cl_CountedHeap T.me_CountedHeap_thing (ok_CountedHeap_thing T) (hr.mono (by decide)) T.b_CountedHeap_thing .nil pass0 (pa_cons (pv 10) pa_nil)) (pa_cons (pv 2) (pa_cons (pv 3) pa_nil))))))))) (pss_one (ps_ret pe_bl)) pss_nil)
      (pss_cons (ps_if (pt_not (pt_val (pe_call (ok_law_new T) (hr.mono (by decide)) rfl T.m_law_new T.F_law_new.kp T.b_law_new .nil pass0 (pa_cons (pe_meth (pv 1) T.cl_CountedHeap T.me_CountedHeap_thing (ok_CountedHeap_thing T) (hr.mono (by decide)) T.b_CountedHeap_thing .nil pass0 (pa_cons (pv 11) pa_nil)) (pa_cons (pe_op op_mul pe_int (pv 2)) (pa_cons (pv 3) pa_nil)))))) (pss_one (ps_ret pe_bl)) pss_nil)
      (pss_cons (ps_if (PW.pt (pw_or (pt_cmpR op_ne (pe_meth (pv 1) T.cl_CountedHeap T.me_CountedHeap_where (ok_CountedHeap_where T) (hr.mono (by decide)) T.b_CountedHeap_where .nil pass0 (pa_cons (pv 4) pa_nil)) pe_int (nomark _)) (pw_or (pt_cmpR op_ne (pe_meth (pv 1) T.cl_CountedHeap T.me_CountedHeap_where (ok_CountedHeap_where T) (hr.mono (by decide)) T.b_CountedHeap_where .nil pass0 (pa_cons (pe_op op_add (pv 4) pe_int) pa_nil)) (pv 2) (nomark _)) (pw_or1 (pt_cmpR op_ne (pe_meth (pv 1) T.cl_CountedHeap T.me_CountedHeap_where_proxy (ok_CountedHeap_where_proxy T) (hr.mono (by decide)) T.b_CountedHeap_where_proxy .nil pass0 (pa_cons (pv 8) pa_nil)) (pe_op op_mul pe_int (pv 2)) (nomark _)))))) (pss_one (ps_ret pe_bl)) pss_nil)
      (pss_cons (ps_if (PW.pt (pw_or (pt_cmpR op_notN1 (pe_meth (pv 1) T.cl_CountedHeap T.me_CountedHeap_where (ok_CountedHeap_where T) (hr.mono (by decide)) T.b_CountedHeap_where .nil pass0 (pa_cons (pe_op op_add (pv 4) pe_int) pa_nil)) pe_non (nomark _)) (pw_or1 (pt_cmpR op_notN1 (pe_meth (pv 1) T.cl_CountedHeap T.me_CountedHeap_where_proxy (ok_CountedHeap_where_proxy T) (hr.mono (by decide)) T.b_CountedHeap_where_proxy .nil pass0 (pa_cons (pe_op op_add (pv 8) pe_int) pa_nil)) pe_non (nomark _))))) (pss_one (ps_ret pe_bl)) pss_nil)
      (pss_cons (ps_if (pt_not (pt_val (pe_call (ok_law_cell T) (hr.mono (by decide)) rfl T.m_law_cell T.F_law_cell.kp T.b_law_cell .nil pass0 (pa_cons (pe_meth (pv 1) T.cl_CountedHeap T.me_CountedHeap_thing (ok_CountedHeap_thing T) (hr.mono (by decide)) T.b_CountedHeap_thing .nil pass0 (pa_cons (pv 9) pa_nil)) (pa_cons (pv 4) (pa_cons (pv 5) (pa_cons (pv 6) pa_nil))))))) (pss_one (ps_ret pe_bl)) pss_nil)
      (pss_one (ps_ret (pe_and (pe_call (ok_law_service T) (hr.mono (by decide)) rfl T.m_law_service T.F_law_service.kp T.b_law_service .nil pass0 (pa_cons (pe_meth (pv 1) T.cl_CountedHeap T.me_CountedHeap_thing (ok_CountedHeap_thing T) (hr.mono (by decide)) T.b_CountedHeap_thing .nil pass0 (pa_cons (pv 10) pa_nil)) (pa_cons (pe_op op_add (pv 4) pe_int) (pa_cons (pv 5) (pa_cons (pv 7) pa_nil))))) (pe_one (pe_call (ok_law_proxy T) (hr.mono (by decide)) rfl T.m_law_proxy T.F_law_proxy.kp T.b_law_proxy .nil pass0 (pa_cons (pe_meth (pv 1) T.cl_CountedHeap T.me_CountedHeap_thing (ok_CountedHeap_thing T) (hr.mono (by decide)) T.b_CountedHeap_thing .nil pass0 (pa_cons (pv 11) pa_nil)) (pa_cons (pv 8) pa_nil))))))))))))))))))))), ?_⟩
    try dsimp only [L2.cxOf, L2.Cx.nox, L2.Cx.wish]
    change (_ : TS) _ ([some (.ref dk), some (.ref h), some (.int 1), some (.int 1), none, none, none, none, none, none, none, none] : St) _
    have cl_Cell := T.cl_Cell
    have n_Cell_content := T.n_Cell_content
    have n_Cell_link := T.n_Cell_link
    have n_Cell_maker := T.n_Cell_maker
    have n_Cell_place := T.n_Cell_place
    have n_Cell_references := T.n_Cell_references
    have n_Cell_serial := T.n_Cell_serial
    have cl_CountedHeap := T.cl_CountedHeap
    have n_CountedHeap_places := T.n_CountedHeap_places
    have n_CountedHeap_proxies := T.n_CountedHeap_proxies
    have n_CountedHeap_serials := T.n_CountedHeap_serials
    have n_CountedHeap_vacant := T.n_CountedHeap_vacant
    have cl_PlainHeap := T.cl_PlainHeap
    have n_PlainHeap_places := T.n_PlainHeap_places
    have n_PlainHeap_proxies := T.n_PlainHeap_proxies
    have n_PlainHeap_serials := T.n_PlainHeap_serials
    have cl_Proxy := T.cl_Proxy
    have n_Proxy_entry := T.n_Proxy_entry
    have n_Proxy_link := T.n_Proxy_link
    have n_Proxy_maker := T.n_Proxy_maker
    have n_Proxy_place := T.n_Proxy_place
    have n_Proxy_references := T.n_Proxy_references
    have n_Proxy_serial := T.n_Proxy_serial
    have cl_Service := T.cl_Service
    have n_Service_body := T.n_Service_body
    have n_Service_link := T.n_Service_link
    have n_Service_maker := T.n_Service_maker
    have n_Service_place := T.n_Service_place
    have n_Service_references := T.n_Service_references
    have n_Service_serial := T.n_Service_serial
    have cl_TracedHeap := T.cl_TracedHeap
    have n_TracedHeap_next_index := T.n_TracedHeap_next_index
    have n_TracedHeap_places := T.n_TracedHeap_places
    have n_TracedHeap_proxies := T.n_TracedHeap_proxies
    have n_TracedHeap_serials := T.n_TracedHeap_serials
    have n_TracedHeap_space := T.n_TracedHeap_space
    obtain ⟨_, _, _, _, ps, pq, sq, _, _, _⟩ := id hF
    walk_at "rd"
    intro se se0 se1
    walk_at "rd"
    refine Rd.xlst rfl fun la H1 n1 e1 hla => ?_
    have hD1 := e1 _ _ hD
    walk_at "rd"
    intro mi mi0 mi1
    obtain ⟨mk, hmk, hat⟩ := one_mk mi0 mi1
    refine Rd.ixL (SqL.of hla) hat ?_
    walk_at "rd"
    refine ⟨dk, rfl, hD1, fun ct H2 e2 hct => ?_⟩
    have hD2 := e2 _ _ hD1
    walk_at "rd"
    intro bo bo0 bo1
    walk_at "rd"
    intro en en0 en1
    have e02 := e1.trans e2
    have hF2 := hF.mono e02
    have hSt2 := st_mono_CountedHeap hSt e02
    walk_at "rd"
    have hx2 := id hSt2
    obtain ⟨dx, v, hh, hv⟩ := hx2
    walk_at "rd"
    refine ⟨h, p, s1, q, 0, [], [], [], se, mk, ct, rfl, ⟨hF2, rfl, rfl⟩, hSt2, fun t1 d1 r1 H3 g1 st1 => ?_⟩
    have hF3 : HeapF K H3 h p s1 q (k1 0 (.ref t1)) (k1 se (.int 0)) [] := hf_CountedHeap T st1 g1.at_p g1.at_s g1.at_q ps pq sq (by rw [k1_len]; decide) (by rw [k1_len]; decide) (by decide)
    have hr13 : H3 r1 = some (.tup [.str "at", .int 0]) := g1.at_r
    have ht13 := g1.at_t
    have nt1 := hF2.ne g1.nt
    have hct3 := hct.keep fun b xs z => g1.tup hF2 z
    have hx3 := id st1
    clear hh
    obtain ⟨dx, v, hh, hv⟩ := hx3
    walk_at "rd"
    refine ⟨h, p, s1, q, 1, k1 0 (.ref t1), k1 se (.int 0), [], se + 1, mk, .int bo, rfl, ⟨hF3, rfl, k1_ne _ (by decide)⟩, st1, fun t2 d2 r2 H4 g2 st2 => ?_⟩
    have hF4 : HeapF K H4 h p s1 q (putK (k1 0 (.ref t1)) (.inl 1) (.ref t2)) (putK (k1 se (.int 0)) (.inl (se + 1)) (.int 1)) [] := hf_CountedHeap T st2 g2.at_p g2.at_s g2.at_q ps pq sq (by rw [put_len _ (k1_ne _ (by decide)), k1_len]; decide) (by rw [put_len _ (k1_ne _ (by omega)), k1_len]; decide) (by decide)
    have hr14 := g2.tup hF3 hr13
    have hr24 : H4 r2 = some (.tup [.str "at", .int 1]) := g2.at_r
    have ht14 := g2.keep hF3 ht13 (fun kv z => by cases z) nt1.1
    have ht24 := g2.at_t
    have nt2 := hF3.ne g2.nt
    have hct4 := hct3.keep fun b xs z => g2.tup hF3 z
    have hx4 := id st2
    clear hh
    obtain ⟨dx, v, hh, hv⟩ := hx4
    walk_at "rd"
    refine ⟨h, p, s1, q, 2, _, _, [], en, rfl, ⟨hF4, by rw [put_len _ (k1_ne _ (by decide)), k1_len], by rw [put_ne _ _ (by decide), k1_ne _ (by decide)]⟩, st2, fun t3 d3 r3 H5 g3 st3 => ?_⟩
    have hF5 : HeapF K H5 h p s1 q (putK (putK (k1 0 (.ref t1)) (.inl 1) (.ref t2)) (.inl 2) (.ref t3)) (putK (k1 se (.int 0)) (.inl (se + 1)) (.int 1)) (k1 en (.int 2)) := hf_CountedHeap T st3 g3.at_p g3.at_s g3.at_q ps pq sq (by rw [put_len _ (by rw [put_ne _ _ (by decide), k1_ne _ (by decide)]), put_len _ (k1_ne _ (by decide)), k1_len]; decide) (by rw [put_len _ (k1_ne _ (by omega)), k1_len]; decide) (by rw [k1_len]; decide)
    have hr15 := g3.tup hF4 hr14
    have hr25 := g3.tup hF4 hr24
    have hr35 : H5 r3 = some (.tup [.str "at", .int 2]) := g3.at_r
    have ht15 := g3.keep hF4 ht14 (fun kv z => by cases z) nt1.1
    have ht25 := g3.keep hF4 ht24 (fun kv z => by cases z) nt2.1
    have ht35 := g3.at_t
    have hct5 := hct4.keep fun b xs z => g3.tup hF4 z
    have b05 : But [h, p, s1, q] H H5 := (((But.ex e02).trans g1.but).trans g2.but).trans g3.but
    have p1 : valV (putK (putK (k1 0 (.ref t1)) (.inl 1) (.ref t2)) (.inl 2) (.ref t3)) (.inl 0) = some (.ref t1) := by rw [put_ne _ _ (by decide), put_ne _ _ (by decide), k1_same]
    have p2 : valV (putK (putK (k1 0 (.ref t1)) (.inl 1) (.ref t2)) (.inl 2) (.ref t3)) (.inl 1) = some (.ref t2) := by rw [put_ne _ _ (by decide), put_same]
    have p3 : valV (putK (putK (k1 0 (.ref t1)) (.inl 1) (.ref t2)) (.inl 2) (.ref t3)) (.inl 2) = some (.ref t3) := put_same _ _ _
    have s1a : valV (putK (k1 se (.int 0)) (.inl (se + 1)) (.int 1)) (.inl se) = some (.int 0) := by rw [put_ne _ _ (by omega), k1_same]
    have s2a : valV (putK (k1 se (.int 0)) (.inl (se + 1)) (.int 1)) (.inl (se + 1)) = some (.int 1) := put_same _ _ _
    have s3a : valV (putK (k1 se (.int 0)) (.inl (se + 1)) (.int 1)) (.inl (se + 2)) = none := by rw [put_ne _ _ (by omega), k1_ne _ (by omega)]
    have q1a : valV (k1 en (.int 2)) (.inl en) = some (.int 2) := k1_same _ _
    have q2a : valV (k1 en (.int 2)) (.inl (en + 1)) = none := k1_ne _ (by omega)
    clear hh
    have hx5 := id st3
    obtain ⟨dx, v, hh, hv⟩ := hx5
    generalize putK (putK (k1 0 (.ref t1)) (.inl 1) (.ref t2)) (.inl 2) (.ref t3) = KP at hF5 p1 p2 p3
    generalize putK (k1 se (.int 0)) (.inl (se + 1)) (.int 1) = KS at hF5 s1a s2a s3a
    generalize k1 en (.int 2) = KQ at hF5 q1a q2a
    clear hF hF2 hF3 hF4 g1 g2 g3 st1 st2 st3 hSt hSt2 hct hct3 hct4 hr13 hr14 hr24 ht13 ht14 ht24 nt1 nt2 hD hD1 hD2 hla hat e1 e2 n1 mi0 mi1 bo0 bo1 en0 en1 se0 se1
    walk_at "rd"
    refine Rd.xtup rfl fun w1 J1 m1 f1 u1 => ?_
    refine Rd.neDr (dp_at (f1 _ _ hr15)) (dp_at u1) (shp_at _) ?_
    walk_at "rd"
    refine Rd.xtup rfl fun w2 J2 m2 f2 u2 => ?_
    refine Rd.neDr (dp_at (f2 _ _ (f1 _ _ hr25))) (dp_at u2) (shp_at _) ?_
    walk_at "rd"
    refine Rd.xtup rfl fun w3 J3 m3 f3 u3 => ?_
    have f13 := (f1.trans f2).trans f3
    refine Rd.neDr (dp_at (f13 _ _ hr35)) (dp_at (n := 2) u3) (shp_at _) ?_
    have hF6 := hF5.mono f13
    have hh6 := f13 _ _ hh
    have R1 := f13 _ _ hr15
    have R2 := f13 _ _ hr25
    have R3 := f13 _ _ hr35
    have T1 := f13 _ _ ht15
    have T2 := f13 _ _ ht25
    have T3 := f13 _ _ ht35
    have hct6 := hct5.keep fun b xs z => f13 _ _ z
    walk_at "rd"
    refine ⟨h, p, s1, q, r1, _, _, _, _, .ref t1, rfl, hF6, R1, p1, ?_⟩
    walk_at "rd"
    refine ⟨t1, _, _, rfl, ⟨_, .inl ⟨_, _, _, T1⟩⟩, ?_⟩
    walk_at "rd"
    refine ⟨h, p, s1, q, r2, _, _, _, _, .ref t2, rfl, hF6, R2, p2, ?_⟩
    walk_at "rd"
    refine ⟨t2, _, _, rfl, ⟨_, .inr (.inl ⟨_, _, _, T2⟩)⟩, ?_⟩
    walk_at "rd"
    refine ⟨h, p, s1, q, r3, _, _, _, _, .ref t3, rfl, hF6, R3, p3, ?_⟩
    walk_at "rd"
    refine ⟨t3, 2, _, rfl, ⟨_, .inr (.inr ⟨_, T3⟩)⟩, ?_⟩
    walk_at "rd"
    refine ⟨h, p, s1, q, se, _, _, _, rfl, hF6, ?_⟩
    rw [s1a, Option.getD_some]
    walk_at "rd"
    refine ⟨h, p, s1, q, se + 1, _, _, _, rfl, hF6, ?_⟩
    rw [s2a, Option.getD_some]
    walk_at "rd"
    refine ⟨h, p, s1, q, en, _, _, _, rfl, hF6, ?_⟩
    rw [q1a, Option.getD_some]
    walk_at "rd"
    refine ⟨h, p, s1, q, se + 2, _, _, _, rfl, hF6, ?_⟩
    rw [s3a, Option.getD_none]
    walk_at "rd"
    refine ⟨h, p, s1, q, en + 1, _, _, _, rfl, hF6, ?_⟩
    rw [q2a, Option.getD_none]
    walk_at "rd"
    refine ⟨h, p, s1, q, r1, _, _, _, _, .ref t1, rfl, hF6, R1, p1, ?_⟩
    walk_at "rd"
    refine ⟨t1, _, se, mk, ct, _, _, _, rfl, T1, hmk, hct6, ?_⟩
    walk_at "rd"
    refine ⟨h, p, s1, q, r2, _, _, _, _, .ref t2, rfl, hF6, R2, p2, ?_⟩
    walk_at "rd"
    refine ⟨t2, _, se + 1, bo, mk, _, _, _, rfl, T2, hmk, ?_⟩
    walk_at "rd"
    refine ⟨h, p, s1, q, r3, _, _, _, _, .ref t3, rfl, hF6, R3, p3, ?_⟩
    walk_at "rd"
    refine ⟨t3, _, en, _, _, _, rfl, T3, ?_⟩
    exact k _ (b05.trans (But.ex f13))
def spLHeap_TracedHeap (cH : Addr) (K : PySem.W.Frag) : Sp := fun vs H Q _ => ∃ (dk h p s q : Addr), vs = [.ref dk, .ref h, .int 2, .int 0] ∧ H dk = some (Dk.DkO dk) ∧ HeapF K H h p s q [] [] [] ∧ St_TracedHeap cH H h p s q 0 ∧ ∀ H', But [h, p, s, q] H H' → Q (.bl true) H'
theorem ok_law_heap_TracedHeap {ad : Ad} (T : Txt K mg ad) : FnOk P w K mg base CX0 4 ad.a_law_heap ad.d_law_heap ["deck", "heap", "step", "references"] (spLHeap_TracedHeap ad.c_TracedHeap K) := by
  refine T.F_law_heap.ok sc_law_heap (fun vs H Q E h => ?_) (fun cdv A outer s H vs Q E hr h => ?_)
  · obtain ⟨dk, h, p, s1, q, rfl, hD, hF, hSt, k⟩ := h
    rfl
  · obtain ⟨dk, h, p, s1, q, rfl, hD, hF, hSt, k⟩ := h
    refine ⟨_, (pss_cons (ps_set (i := 4) sc_law_heap.nd rfl (Or.inl rfl) (pe_call (ok_law_take T) (hr.mono (by decide)) rfl T.m_law_take T.F_law_take.kp T.b_law_take .nil pass0 (pa_cons (pv 0) (pa_cons pe_int pa_nil))))
      (pss_cons (ps_set (i := 5) sc_law_heap.nd rfl (Or.inl rfl) (pe_ix ix_list (pe_lst (pa_cons pe_non (pa_cons pe_int (pa_cons pe_int pa_nil)))) (pe_call (ok_law_take T) (hr.mono (by decide)) rfl T.m_law_take T.F_law_take.kp T.b_law_take .nil pass0 (pa_cons (pv 0) (pa_cons pe_int pa_nil))) (fun _ _ => rfl)))
      (pss_cons (ps_set (i := 6) sc_law_heap.nd rfl (Or.inl rfl) (pe_call (ok_law_content T) (hr.mono (by decide)) rfl T.m_law_content T.F_law_content.kp T.b_law_content .nil pass0 (pa_cons (pv 0) pa_nil)))
      (pss_cons (ps_set (i := 7) sc_law_heap.nd rfl (Or.inl rfl) (pe_call (ok_law_take T) (hr.mono (by decide)) rfl T.m_law_take T.F_law_take.kp T.b_law_take .nil pass0 (pa_cons (pv 0) (pa_cons pe_int pa_nil))))
      (pss_cons (ps_set (i := 8) sc_law_heap.nd rfl (Or.inl rfl) (pe_call (ok_law_take T) (hr.mono (by decide)) rfl T.m_law_take T.F_law_take.kp T.b_law_take .nil pass0 (pa_cons (pv 0) (pa_cons pe_int pa_nil))))
      (pss_cons (ps_set (i := 9) sc_law_heap.nd rfl (Or.inl rfl) (pe_meth (pv 1) T.cl_TracedHeap T.me_TracedHeap_make_cell (ok_TracedHeap_make_cell T) (hr.mono (by decide)) T.b_TracedHeap_make_cell .nil pass0 (pa_cons (pv 4) (pa_cons (pv 5) (pa_cons (pv 6) pa_nil)))))
      (pss_cons (ps_set (i := 10) sc_law_heap.nd rfl (Or.inl rfl) (pe_meth (pv 1) T.cl_TracedHeap T.me_TracedHeap_make_service (ok_TracedHeap_make_service T) (hr.mono (by decide)) T.b_TracedHeap_make_service .nil pass0 (pa_cons (pe_op op_add (pv 4) pe_int) (pa_cons (pv 5) (pa_cons (pv 7) pa_nil)))))
      (pss_cons (ps_set (i := 11) sc_law_heap.nd rfl (Or.inl rfl) (pe_meth (pv 1) T.cl_TracedHeap T.me_TracedHeap_make_proxy (ok_TracedHeap_make_proxy T) (hr.mono (by decide)) T.b_TracedHeap_make_proxy .nil pass0 (pa_cons (pv 8) pa_nil)))
      (pss_cons (ps_if (PW.pt (pw_or (pt_cmpR (op_neD hr.units) (pv 9) (pe_tup (pa_cons pe_str (pa_cons pe_int pa_nil))) (nomark _)) (pw_or (pt_cmpR (op_neD hr.units) (pv 10) (pe_tup (pa_cons pe_str (pa_cons (pv 2) pa_nil))) (nomark _)) (pw_or1 (pt_cmpR (op_neD hr.units) (pv 11) (pe_tup (pa_cons pe_str (pa_cons (pe_op op_mul pe_int (pv 2)) pa_nil))) (nomark _)))))) (pss_one (ps_ret pe_bl)) pss_nil)
      (pss_cons (ps_if (PW.pt (pw_or (pt_not (pt_val (pe_call (ok_law_new T) (hr.mono (by decide)) rfl T.m_law_new T.F_law_new.kp T.b_law_new .nil pass0 (pa_cons (pe_meth (pv 1) T.cl_TracedHeap T.me_TracedHeap_thing (ok_TracedHeap_thing T) (hr.mono (by decide)) T.b_TracedHeap_thing .nil pass0 (pa_cons (pv 9) pa_nil)) (pa_cons pe_int (pa_cons (pv 3) pa_nil)))))) (pw_or1 (pt_not (pt_val (pe_call (ok_law_new T) (hr.mono (by decide)) rfl T.m_law_new T.F_law_new.kp T.b_law_new .nil pass0 (pa_cons (pe_meth (pv 1) T.cl_TracedHeap T.me_TracedHeap_thing (ok_TracedHeap_thing T) (hr.mono (by decide)) T.b_TracedHeap_thing .nil pass0 (pa_cons (pv 10) pa_nil)) (pa_cons (pv 2) (pa_cons (pv 3) pa_nil))))))))) (pss_one (ps_ret pe_bl)) pss_nil)
      (pss_cons (ps_if (pt_not (pt_val (pe_call (ok_law_new T) (hr.mono (by decide)) rfl T.m_law_new T.F_law_new.kp T.b_law_new .nil pass0 (pa_cons (pe_meth (pv 1) T.cl_TracedHeap T.me_TracedHeap_thing (ok_TracedHeap_thing T) (hr.mono (by decide)) T.b_TracedHeap_thing .nil pass0 (pa_cons (pv 11) pa_nil)) (pa_cons (pe_op op_mul pe_int (pv 2)) (pa_cons (pv 3) pa_nil)))))) (pss_one (ps_ret pe_bl)) pss_nil)
      (pss_cons (ps_if (PW.pt (pw_or (pt_cmpR op_ne (pe_meth (pv 1) T.cl_TracedHeap T.me_TracedHeap_where (ok_TracedHeap_where T) (hr.mono (by decide)) T.b_TracedHeap_where .nil pass0 (pa_cons (pv 4) pa_nil)) pe_int (nomark _)) (pw_or (pt_cmpR op_ne (pe_meth (pv 1) T.cl_TracedHeap T.me_TracedHeap_where (ok_TracedHeap_where T) (hr.mono (by decide)) T.b_TracedHeap_where .nil pass0 (pa_cons (pe_op op_add (pv 4) pe_int) pa_nil)) (pv 2) (nomark _)) (pw_or1 (pt_cmpR op_ne (pe_meth (pv 1) T.cl_TracedHeap T.me_TracedHeap_where_proxy (ok_TracedHeap_where_proxy T) (hr.mono (by decide)) T.b_TracedHeap_where_proxy .nil pass0 (pa_cons (pv 8) pa_nil)) (pe_op op_mul pe_int (pv 2)) (nomark _)))))) (pss_one (ps_ret pe_bl)) pss_nil)
      (pss_cons (ps_if (PW.pt (pw_or (pt_cmpR op_notN1 (pe_meth (pv 1) T.cl_TracedHeap T.me_TracedHeap_where (ok_TracedHeap_where T) (hr.mono (by decide)) T.b_TracedHeap_where .nil pass0 (pa_cons (pe_op op_add (pv 4) pe_int) pa_nil)) pe_non (nomark _)) (pw_or1 (pt_cmpR op_notN1 (pe_meth (pv 1) T.cl_TracedHeap T.me_TracedHeap_where_proxy (ok_TracedHeap_where_proxy T) (hr.mono (by decide)) T.b_TracedHeap_where_proxy .nil pass0 (pa_cons (pe_op op_add (pv 8) pe_int) pa_nil)) pe_non (nomark _))))) (pss_one (ps_ret pe_bl)) pss_nil)
      (pss_cons (ps_if (pt_not (pt_val (pe_call (ok_law_cell T) (hr.mono (by decide)) rfl T.m_law_cell T.F_law_cell.kp T.b_law_cell .nil pass0 (pa_cons (pe_meth (pv 1) T.cl_TracedHeap T.me_TracedHeap_thing (ok_TracedHeap_thing T) (hr.mono (by decide)) T.b_TracedHeap_thing .nil pass0 (pa_cons (pv 9) pa_nil)) (pa_cons (pv 4) (pa_cons (pv 5) (pa_cons (pv 6) pa_nil))))))) (pss_one (ps_ret pe_bl)) pss_nil)
      (pss_one (ps_ret (pe_and (pe_call (ok_law_service T) (hr.mono (by decide)) rfl T.m_law_service T.F_law_service.kp T.b_law_service .nil pass0 (pa_cons (pe_meth (pv 1) T.cl_TracedHeap T.me_TracedHeap_thing (ok_TracedHeap_thing T) (hr.mono (by decide)) T.b_TracedHeap_thing .nil pass0 (pa_cons (pv 10) pa_nil)) (pa_cons (pe_op op_add (pv 4) pe_int) (pa_cons (pv 5) (pa_cons (pv 7) pa_nil))))) (pe_one (pe_call (ok_law_proxy T) (hr.mono (by decide)) rfl T.m_law_proxy T.F_law_proxy.kp T.b_law_proxy .nil pass0 (pa_cons (pe_meth (pv 1) T.cl_TracedHeap T.me_TracedHeap_thing (ok_TracedHeap_thing T) (hr.mono (by decide)) T.b_TracedHeap_thing .nil pass0 (pa_cons (pv 11) pa_nil)) (pa_cons (pv 8) pa_nil))))))))))))))))))))), ?_⟩
    try dsimp only [L2.cxOf, L2.Cx.nox, L2.Cx.wish]
    change (_ : TS) _ ([some (.ref dk), some (.ref h), some (.int 2), some (.int 0), none, none, none, none, none, none, none, none] : St) _
    have cl_Cell := T.cl_Cell
    have n_Cell_content := T.n_Cell_content
    have n_Cell_link := T.n_Cell_link
    have n_Cell_maker := T.n_Cell_maker
    have n_Cell_place := T.n_Cell_place
    have n_Cell_references := T.n_Cell_references
    have n_Cell_serial := T.n_Cell_serial
    have cl_CountedHeap := T.cl_CountedHeap
    have n_CountedHeap_places := T.n_CountedHeap_places
    have n_CountedHeap_proxies := T.n_CountedHeap_proxies
    have n_CountedHeap_serials := T.n_CountedHeap_serials
    have n_CountedHeap_vacant := T.n_CountedHeap_vacant
    have cl_PlainHeap := T.cl_PlainHeap
    have n_PlainHeap_places := T.n_PlainHeap_places
    have n_PlainHeap_proxies := T.n_PlainHeap_proxies
    have n_PlainHeap_serials := T.n_PlainHeap_serials
    have cl_Proxy := T.cl_Proxy
    have n_Proxy_entry := T.n_Proxy_entry
    have n_Proxy_link := T.n_Proxy_link
    have n_Proxy_maker := T.n_Proxy_maker
    have n_Proxy_place := T.n_Proxy_place
    have n_Proxy_references := T.n_Proxy_references
    have n_Proxy_serial := T.n_Proxy_serial
    have cl_Service := T.cl_Service
    have n_Service_body := T.n_Service_body
    have n_Service_link := T.n_Service_link
    have n_Service_maker := T.n_Service_maker
    have n_Service_place := T.n_Service_place
    have n_Service_references := T.n_Service_references
    have n_Service_serial := T.n_Service_serial
    have cl_TracedHeap := T.cl_TracedHeap
    have n_TracedHeap_next_index := T.n_TracedHeap_next_index
    have n_TracedHeap_places := T.n_TracedHeap_places
    have n_TracedHeap_proxies := T.n_TracedHeap_proxies
    have n_TracedHeap_serials := T.n_TracedHeap_serials
    have n_TracedHeap_space := T.n_TracedHeap_space
    obtain ⟨_, _, _, _, ps, pq, sq, _, _, _⟩ := id hF
    walk_at "rd"
    intro se se0 se1
    walk_at "rd"
    refine Rd.xlst rfl fun la H1 n1 e1 hla => ?_
    have hD1 := e1 _ _ hD
    walk_at "rd"
    intro mi mi0 mi1
    obtain ⟨mk, hmk, hat⟩ := one_mk mi0 mi1
    refine Rd.ixL (SqL.of hla) hat ?_
    walk_at "rd"
    refine ⟨dk, rfl, hD1, fun ct H2 e2 hct => ?_⟩
    have hD2 := e2 _ _ hD1
    walk_at "rd"
    intro bo bo0 bo1
    walk_at "rd"
    intro en en0 en1
    have e02 := e1.trans e2
    have hF2 := hF.mono e02
    have hSt2 := st_mono_TracedHeap hSt e02
    walk_at "rd"
    have hx2 := id hSt2
    obtain ⟨dx, hh⟩ := hx2
    walk_at "rd"
    refine ⟨h, p, s1, q, 0, [], [], [], se, mk, ct, rfl, ⟨hF2, rfl, rfl⟩, hSt2, fun t1 d1 r1 H3 g1 st1 => ?_⟩
    have hF3 : HeapF K H3 h p s1 q (k1 0 (.ref t1)) (k1 se (.int 0)) [] := hf_TracedHeap T st1 g1.at_p g1.at_s g1.at_q ps pq sq (by rw [k1_len]; decide) (by rw [k1_len]; decide) (by decide)
    have hr13 : H3 r1 = some (.tup [.str "at", .int 0]) := g1.at_r
    have ht13 := g1.at_t
    have nt1 := hF2.ne g1.nt
    have hct3 := hct.keep fun b xs z => g1.tup hF2 z
    have hx3 := id st1
    clear hh
    obtain ⟨dx, hh⟩ := hx3
    walk_at "rd"
    refine ⟨h, p, s1, q, 1, k1 0 (.ref t1), k1 se (.int 0), [], se + 1, mk, .int bo, rfl, ⟨hF3, rfl, k1_ne _ (by decide)⟩, st1, fun t2 d2 r2 H4 g2 st2 => ?_⟩
    have hF4 : HeapF K H4 h p s1 q (putK (k1 0 (.ref t1)) (.inl 2) (.ref t2)) (putK (k1 se (.int 0)) (.inl (se + 1)) (.int 2)) [] := hf_TracedHeap T st2 g2.at_p g2.at_s g2.at_q ps pq sq (by rw [put_len _ (k1_ne _ (by decide)), k1_len]; decide) (by rw [put_len _ (k1_ne _ (by omega)), k1_len]; decide) (by decide)
    have hr14 := g2.tup hF3 hr13
    have hr24 : H4 r2 = some (.tup [.str "at", .int 2]) := g2.at_r
    have ht14 := g2.keep hF3 ht13 (fun kv z => by cases z) nt1.1
    have ht24 := g2.at_t
    have nt2 := hF3.ne g2.nt
    have hct4 := hct3.keep fun b xs z => g2.tup hF3 z
    have hx4 := id st2
    clear hh
    obtain ⟨dx, hh⟩ := hx4
    walk_at "rd"
    refine ⟨h, p, s1, q, 2, _, _, [], en, rfl, ⟨hF4, by rw [put_len _ (k1_ne _ (by decide)), k1_len], by rw [put_ne _ _ (by decide), k1_ne _ (by decide)]⟩, st2, fun t3 d3 r3 H5 g3 st3 => ?_⟩
    have hF5 : HeapF K H5 h p s1 q (putK (putK (k1 0 (.ref t1)) (.inl 2) (.ref t2)) (.inl 4) (.ref t3)) (putK (k1 se (.int 0)) (.inl (se + 1)) (.int 2)) (k1 en (.int 4)) := hf_TracedHeap T st3 g3.at_p g3.at_s g3.at_q ps pq sq (by rw [put_len _ (by rw [put_ne _ _ (by decide), k1_ne _ (by decide)]), put_len _ (k1_ne _ (by decide)), k1_len]; decide) (by rw [put_len _ (k1_ne _ (by omega)), k1_len]; decide) (by rw [k1_len]; decide)
    have hr15 := g3.tup hF4 hr14
    have hr25 := g3.tup hF4 hr24
    have hr35 : H5 r3 = some (.tup [.str "at", .int 4]) := g3.at_r
    have ht15 := g3.keep hF4 ht14 (fun kv z => by cases z) nt1.1
    have ht25 := g3.keep hF4 ht24 (fun kv z => by cases z) nt2.1
    have ht35 := g3.at_t
    have hct5 := hct4.keep fun b xs z => g3.tup hF4 z
    have b05 : But [h, p, s1, q] H H5 := (((But.ex e02).trans g1.but).trans g2.but).trans g3.but
    have p1 : valV (putK (putK (k1 0 (.ref t1)) (.inl 2) (.ref t2)) (.inl 4) (.ref t3)) (.inl 0) = some (.ref t1) := by rw [put_ne _ _ (by decide), put_ne _ _ (by decide), k1_same]
    have p2 : valV (putK (putK (k1 0 (.ref t1)) (.inl 2) (.ref t2)) (.inl 4) (.ref t3)) (.inl 2) = some (.ref t2) := by rw [put_ne _ _ (by decide), put_same]
    have p3 : valV (putK (putK (k1 0 (.ref t1)) (.inl 2) (.ref t2)) (.inl 4) (.ref t3)) (.inl 4) = some (.ref t3) := put_same _ _ _
    have s1a : valV (putK (k1 se (.int 0)) (.inl (se + 1)) (.int 2)) (.inl se) = some (.int 0) := by rw [put_ne _ _ (by omega), k1_same]
    have s2a : valV (putK (k1 se (.int 0)) (.inl (se + 1)) (.int 2)) (.inl (se + 1)) = some (.int 2) := put_same _ _ _
    have s3a : valV (putK (k1 se (.int 0)) (.inl (se + 1)) (.int 2)) (.inl (se + 2)) = none := by rw [put_ne _ _ (by omega), k1_ne _ (by omega)]
    have q1a : valV (k1 en (.int 4)) (.inl en) = some (.int 4) := k1_same _ _
    have q2a : valV (k1 en (.int 4)) (.inl (en + 1)) = none := k1_ne _ (by omega)
    clear hh
    have hx5 := id st3
    obtain ⟨dx, hh⟩ := hx5
    generalize putK (putK (k1 0 (.ref t1)) (.inl 2) (.ref t2)) (.inl 4) (.ref t3) = KP at hF5 p1 p2 p3
    generalize putK (k1 se (.int 0)) (.inl (se + 1)) (.int 2) = KS at hF5 s1a s2a s3a
    generalize k1 en (.int 4) = KQ at hF5 q1a q2a
    clear hF hF2 hF3 hF4 g1 g2 g3 st1 st2 st3 hSt hSt2 hct hct3 hct4 hr13 hr14 hr24 ht13 ht14 ht24 nt1 nt2 hD hD1 hD2 hla hat e1 e2 n1 mi0 mi1 bo0 bo1 en0 en1 se0 se1
    walk_at "rd"
    refine Rd.xtup rfl fun w1 J1 m1 f1 u1 => ?_
    refine Rd.neDr (dp_at (f1 _ _ hr15)) (dp_at u1) (shp_at _) ?_
    walk_at "rd"
    refine Rd.xtup rfl fun w2 J2 m2 f2 u2 => ?_
    refine Rd.neDr (dp_at (f2 _ _ (f1 _ _ hr25))) (dp_at u2) (shp_at _) ?_
    walk_at "rd"
    refine Rd.xtup rfl fun w3 J3 m3 f3 u3 => ?_
    have f13 := (f1.trans f2).trans f3
    refine Rd.neDr (dp_at (f13 _ _ hr35)) (dp_at (n := 4) u3) (shp_at _) ?_
    have hF6 := hF5.mono f13
    have hh6 := f13 _ _ hh
    have R1 := f13 _ _ hr15
    have R2 := f13 _ _ hr25
    have R3 := f13 _ _ hr35
    have T1 := f13 _ _ ht15
    have T2 := f13 _ _ ht25
    have T3 := f13 _ _ ht35
    have hct6 := hct5.keep fun b xs z => f13 _ _ z
    walk_at "rd"
    refine ⟨h, p, s1, q, r1, _, _, _, _, .ref t1, rfl, hF6, R1, p1, ?_⟩
    walk_at "rd"
    refine ⟨t1, _, _, rfl, ⟨_, .inl ⟨_, _, _, T1⟩⟩, ?_⟩
    walk_at "rd"
    refine ⟨h, p, s1, q, r2, _, _, _, _, .ref t2, rfl, hF6, R2, p2, ?_⟩
    walk_at "rd"
    refine ⟨t2, _, _, rfl, ⟨_, .inr (.inl ⟨_, _, _, T2⟩)⟩, ?_⟩
    walk_at "rd"
    refine ⟨h, p, s1, q, r3, _, _, _, _, .ref t3, rfl, hF6, R3, p3, ?_⟩
    walk_at "rd"
    refine ⟨t3, 4, _, rfl, ⟨_, .inr (.inr ⟨_, T3⟩)⟩, ?_⟩
    walk_at "rd"
    refine ⟨h, p, s1, q, se, _, _, _, rfl, hF6, ?_⟩
    rw [s1a, Option.getD_some]
    walk_at "rd"
    refine ⟨h, p, s1, q, se + 1, _, _, _, rfl, hF6, ?_⟩
    rw [s2a, Option.getD_some]
    walk_at "rd"
    refine ⟨h, p, s1, q, en, _, _, _, rfl, hF6, ?_⟩
    rw [q1a, Option.getD_some]
    walk_at "rd"
    refine ⟨h, p, s1, q, se + 2, _, _, _, rfl, hF6, ?_⟩
    rw [s3a, Option.getD_none]
    walk_at "rd"
    refine ⟨h, p, s1, q, en + 1, _, _, _, rfl, hF6, ?_⟩
    rw [q2a, Option.getD_none]
    walk_at "rd"
    refine ⟨h, p, s1, q, r1, _, _, _, _, .ref t1, rfl, hF6, R1, p1, ?_⟩
    walk_at "rd"
    refine ⟨t1, _, se, mk, ct, _, _, _, rfl, T1, hmk, hct6, ?_⟩
    walk_at "rd"
    refine ⟨h, p, s1, q, r2, _, _, _, _, .ref t2, rfl, hF6, R2, p2, ?_⟩
    walk_at "rd"
    refine ⟨t2, _, se + 1, bo, mk, _, _, _, rfl, T2, hmk, ?_⟩
    walk_at "rd"
    refine ⟨h, p, s1, q, r3, _, _, _, _, .ref t3, rfl, hF6, R3, p3, ?_⟩
    walk_at "rd"
    refine ⟨t3, _, en, _, _, _, rfl, T3, ?_⟩
    exact k _ (b05.trans (But.ex f13))
def spLHeap_PlainHeap (cH : Addr) (K : PySem.W.Frag) : Sp := fun vs H Q _ => ∃ (dk h p s q : Addr), vs = [.ref dk, .ref h, .int 1, .int 0] ∧ H dk = some (Dk.DkO dk) ∧ HeapF K H h p s q [] [] [] ∧ St_PlainHeap cH H h p s q 0 ∧ ∀ H', But [h, p, s, q] H H' → Q (.bl true) H'
theorem ok_law_heap_PlainHeap {ad : Ad} (T : Txt K mg ad) : FnOk P w K mg base CX0 4 ad.a_law_heap ad.d_law_heap ["deck", "heap", "step", "references"] (spLHeap_PlainHeap ad.c_PlainHeap K) := by
  refine T.F_law_heap.ok sc_law_heap (fun vs H Q E h => ?_) (fun cdv A outer s H vs Q E hr h => ?_)
  · obtain ⟨dk, h, p, s1, q, rfl, hD, hF, hSt, k⟩ := h
    rfl
  · obtain ⟨dk, h, p, s1, q, rfl, hD, hF, hSt, k⟩ := h
    refine ⟨_, (pss_cons (ps_set (i := 4) sc_law_heap.nd rfl (Or.inl rfl) (pe_call (ok_law_take T) (hr.mono (by decide)) rfl T.m_law_take T.F_law_take.kp T.b_law_take .nil pass0 (pa_cons (pv 0) (pa_cons pe_int pa_nil))))
      (pss_cons (ps_set (i := 5) sc_law_heap.nd rfl (Or.inl rfl) (pe_ix ix_list (pe_lst (pa_cons pe_non (pa_cons pe_int (pa_cons pe_int pa_nil)))) (pe_call (ok_law_take T) (hr.mono (by decide)) rfl T.m_law_take T.F_law_take.kp T.b_law_take .nil pass0 (pa_cons (pv 0) (pa_cons pe_int pa_nil))) (fun _ _ => rfl)))
      (pss_cons (ps_set (i := 6) sc_law_heap.nd rfl (Or.inl rfl) (pe_call (ok_law_content T) (hr.mono (by decide)) rfl T.m_law_content T.F_law_content.kp T.b_law_content .nil pass0 (pa_cons (pv 0) pa_nil)))
      (pss_cons (ps_set (i := 7) sc_law_heap.nd rfl (Or.inl rfl) (pe_call (ok_law_take T) (hr.mono (by decide)) rfl T.m_law_take T.F_law_take.kp T.b_law_take .nil pass0 (pa_cons (pv 0) (pa_cons pe_int pa_nil))))
      (pss_cons (ps_set (i := 8) sc_law_heap.nd rfl (Or.inl rfl) (pe_call (ok_law_take T) (hr.mono (by decide)) rfl T.m_law_take T.F_law_take.kp T.b_law_take .nil pass0 (pa_cons (pv 0) (pa_cons pe_int pa_nil))))
      (pss_cons (ps_set (i := 9) sc_law_heap.nd rfl (Or.inl rfl) (pe_meth (pv 1) T.cl_PlainHeap T.me_PlainHeap_make_cell (ok_PlainHeap_make_cell T) (hr.mono (by decide)) T.b_PlainHeap_make_cell .nil pass0 (pa_cons (pv 4) (pa_cons (pv 5) (pa_cons (pv 6) pa_nil)))))
      (pss_cons (ps_set (i := 10) sc_law_heap.nd rfl (Or.inl rfl) (pe_meth (pv 1) T.cl_PlainHeap T.me_PlainHeap_make_service (ok_PlainHeap_make_service T) (hr.mono (by decide)) T.b_PlainHeap_make_service .nil pass0 (pa_cons (pe_op op_add (pv 4) pe_int) (pa_cons (pv 5) (pa_cons (pv 7) pa_nil)))))
      (pss_cons (ps_set (i := 11) sc_law_heap.nd rfl (Or.inl rfl) (pe_meth (pv 1) T.cl_PlainHeap T.me_PlainHeap_make_proxy (ok_PlainHeap_make_proxy T) (hr.mono (by decide)) T.b_PlainHeap_make_proxy .nil pass0 (pa_cons (pv 8) pa_nil)))
      (pss_cons (ps_if (PW.pt (pw_or (pt_cmpR (op_neD hr.units) (pv 9) (pe_tup (pa_cons pe_str (pa_cons pe_int pa_nil))) (nomark _)) (pw_or (pt_cmpR (op_neD hr.units) (pv 10) (pe_tup (pa_cons pe_str (pa_cons (pv 2) pa_nil))) (nomark _)) (pw_or1 (pt_cmpR (op_neD hr.units) (pv 11) (pe_tup (pa_cons pe_str (pa_cons (pe_op op_mul pe_int (pv 2)) pa_nil))) (nomark _)))))) (pss_one (ps_ret pe_bl)) pss_nil)
      (pss_cons (ps_if (PW.pt (pw_or (pt_not (pt_val (pe_call (ok_law_new T) (hr.mono (by decide)) rfl T.m_law_new T.F_law_new.kp T.b_law_new .nil pass0 (pa_cons (pe_meth (pv 1) T.cl_PlainHeap T.me_PlainHeap_thing (ok_PlainHeap_thing T) (hr.mono (by decide)) T.b_PlainHeap_thing .nil pass0 (pa_cons (pv 9) pa_nil)) (pa_cons pe_int (pa_cons (pv 3) pa_nil)))))) (pw_or1 (pt_not (pt_val (pe_call (ok_law_new T) (hr.mono (by decide)) rfl T.m_law_new T.F_law_new.kp T.b_law_new .nil pass0 (pa_cons (pe_meth (pv 1) T.cl_PlainHeap T.me_PlainHeap_thing (ok_PlainHeap_thing T) (hr.mono (by decide)) T.b_PlainHeap_thing .nil pass0 (pa_cons (pv 10) pa_nil)) (pa_cons (pv 2) (pa_cons (pv 3) pa_nil))))))))) (pss_one (ps_ret pe_bl)) pss_nil)
      (pss_cons (ps_if (pt_not (pt_val (pe_call (ok_law_new T) (hr.mono (by decide)) rfl T.m_law_new T.F_law_new.kp T.b_law_new .nil pass0 (pa_cons (pe_meth (pv 1) T.cl_PlainHeap T.me_PlainHeap_thing (ok_PlainHeap_thing T) (hr.mono (by decide)) T.b_PlainHeap_thing .nil pass0 (pa_cons (pv 11) pa_nil)) (pa_cons (pe_op op_mul pe_int (pv 2)) (pa_cons (pv 3) pa_nil)))))) (pss_one (ps_ret pe_bl)) pss_nil)
      (pss_cons (ps_if (PW.pt (pw_or (pt_cmpR op_ne (pe_meth (pv 1) T.cl_PlainHeap T.me_PlainHeap_where (ok_PlainHeap_where T) (hr.mono (by decide)) T.b_PlainHeap_where .nil pass0 (pa_cons (pv 4) pa_nil)) pe_int (nomark _)) (pw_or (pt_cmpR op_ne (pe_meth (pv 1) T.cl_PlainHeap T.me_PlainHeap_where (ok_PlainHeap_where T) (hr.mono (by decide)) T.b_PlainHeap_where .nil pass0 (pa_cons (pe_op op_add (pv 4) pe_int) pa_nil)) (pv 2) (nomark _)) (pw_or1 (pt_cmpR op_ne (pe_meth (pv 1) T.cl_PlainHeap T.me_PlainHeap_where_proxy (ok_PlainHeap_where_proxy T) (hr.mono (by decide)) T.b_PlainHeap_where_proxy .nil pass0 (pa_cons (pv 8) pa_nil)) (pe_op op_mul pe_int (pv 2)) (nomark _)))))) (pss_one (ps_ret pe_bl)) pss_nil)
      (pss_cons (ps_if (PW.pt (pw_or (pt_cmpR op_notN1 (pe_meth (pv 1) T.cl_PlainHeap T.me_PlainHeap_where (ok_PlainHeap_where T) (hr.mono (by decide)) T.b_PlainHeap_where .nil pass0 (pa_cons (pe_op op_add (pv 4) pe_int) pa_nil)) pe_non (nomark _)) (pw_or1 (pt_cmpR op_notN1 (pe_meth (pv 1) T.cl_PlainHeap T.me_PlainHeap_where_proxy (ok_PlainHeap_where_proxy T) (hr.mono (by decide)) T.b_PlainHeap_where_proxy .nil pass0 (pa_cons (pe_op op_add (pv 8) pe_int) pa_nil)) pe_non (nomark _))))) (pss_one (ps_ret pe_bl)) pss_nil)
      (pss_cons (ps_if (pt_not (pt_val (pe_call (ok_law_cell T) (hr.mono (by decide)) rfl T.m_law_cell T.F_law_cell.kp T.b_law_cell .nil pass0 (pa_cons (pe_meth (pv 1) T.cl_PlainHeap T.me_PlainHeap_thing (ok_PlainHeap_thing T) (hr.mono (by decide)) T.b_PlainHeap_thing .nil pass0 (pa_cons (pv 9) pa_nil)) (pa_cons (pv 4) (pa_cons (pv 5) (pa_cons (pv 6) pa_nil))))))) (pss_one (ps_ret pe_bl)) pss_nil)
      (pss_one (ps_ret (pe_and (pe_call (ok_law_service T) (hr.mono (by decide)) rfl T.m_law_service T.F_law_service.kp T.b_law_service .nil pass0 (pa_cons (pe_meth (pv 1) T.cl_PlainHeap T.me_PlainHeap_thing (ok_PlainHeap_thing T) (hr.mono (by decide)) T.b_PlainHeap_thing .nil pass0 (pa_cons (pv 10) pa_nil)) (pa_cons (pe_op op_add (pv 4) pe_int) (pa_cons (pv 5) (pa_cons (pv 7) pa_nil))))) (pe_one (pe_call (ok_law_proxy T) (hr.mono (by decide)) rfl T.m_law_proxy T.F_law_proxy.kp T.b_law_proxy .nil pass0 (pa_cons (pe_meth (pv 1) T.cl_PlainHeap T.me_PlainHeap_thing (ok_PlainHeap_thing T) (hr.mono (by decide)) T.b_PlainHeap_thing .nil pass0 (pa_cons (pv 11) pa_nil)) (pa_cons (pv 8) pa_nil))))))))))))))))))))), ?_⟩
    try dsimp only [L2.cxOf, L2.Cx.nox, L2.Cx.wish]
    change (_ : TS) _ ([some (.ref dk), some (.ref h), some (.int 1), some (.int 0), none, none, none, none, none, none, none, none] : St) _
    have cl_Cell := T.cl_Cell
    have n_Cell_content := T.n_Cell_content
    have n_Cell_link := T.n_Cell_link
    have n_Cell_maker := T.n_Cell_maker
    have n_Cell_place := T.n_Cell_place
    have n_Cell_references := T.n_Cell_references
    have n_Cell_serial := T.n_Cell_serial
    have cl_CountedHeap := T.cl_CountedHeap
    have n_CountedHeap_places := T.n_CountedHeap_places
    have n_CountedHeap_proxies := T.n_CountedHeap_proxies
    have n_CountedHeap_serials := T.n_CountedHeap_serials
    have n_CountedHeap_vacant := T.n_CountedHeap_vacant
    have cl_PlainHeap := T.cl_PlainHeap
    have n_PlainHeap_places := T.n_PlainHeap_places
    have n_PlainHeap_proxies := T.n_PlainHeap_proxies
    have n_PlainHeap_serials := T.n_PlainHeap_serials
    have cl_Proxy := T.cl_Proxy
    have n_Proxy_entry := T.n_Proxy_entry
    have n_Proxy_link := T.n_Proxy_link
    have n_Proxy_maker := T.n_Proxy_maker
    have n_Proxy_place := T.n_Proxy_place
    have n_Proxy_references := T.n_Proxy_references
    have n_Proxy_serial := T.n_Proxy_serial
    have cl_Service := T.cl_Service
    have n_Service_body := T.n_Service_body
    have n_Service_link := T.n_Service_link
    have n_Service_maker := T.n_Service_maker
    have n_Service_place := T.n_Service_place
    have n_Service_references := T.n_Service_references
    have n_Service_serial := T.n_Service_serial
    have cl_TracedHeap := T.cl_TracedHeap
    have n_TracedHeap_next_index := T.n_TracedHeap_next_index
    have n_TracedHeap_places := T.n_TracedHeap_places
    have n_TracedHeap_proxies := T.n_TracedHeap_proxies
    have n_TracedHeap_serials := T.n_TracedHeap_serials
    have n_TracedHeap_space := T.n_TracedHeap_space
    obtain ⟨_, _, _, _, ps, pq, sq, _, _, _⟩ := id hF
    walk_at "rd"
    intro se se0 se1
    walk_at "rd"
    refine Rd.xlst rfl fun la H1 n1 e1 hla => ?_
    have hD1 := e1 _ _ hD
    walk_at "rd"
    intro mi mi0 mi1
    obtain ⟨mk, hmk, hat⟩ := one_mk mi0 mi1
    refine Rd.ixL (SqL.of hla) hat ?_
    walk_at "rd"
    refine ⟨dk, rfl, hD1, fun ct H2 e2 hct => ?_⟩
    have hD2 := e2 _ _ hD1
    walk_at "rd"
    intro bo bo0 bo1
    walk_at "rd"
    intro en en0 en1
    have e02 := e1.trans e2
    have hF2 := hF.mono e02
    have hSt2 := st_mono_PlainHeap hSt e02
    walk_at "rd"
    have hx2 := id hSt2
    obtain ⟨dx, hh⟩ := hx2
    walk_at "rd"
    refine ⟨h, p, s1, q, 0, [], [], [], se, mk, ct, rfl, ⟨hF2, rfl, rfl⟩, hSt2, fun t1 d1 r1 H3 g1 st1 => ?_⟩
    have hF3 : HeapF K H3 h p s1 q (k1 0 (.ref t1)) (k1 se (.int 0)) [] := hf_PlainHeap T st1 g1.at_p g1.at_s g1.at_q ps pq sq (by rw [k1_len]; decide) (by rw [k1_len]; decide) (by decide)
    have hr13 : H3 r1 = some (.tup [.str "at", .int 0]) := g1.at_r
    have ht13 := g1.at_t
    have nt1 := hF2.ne g1.nt
    have hct3 := hct.keep fun b xs z => g1.tup hF2 z
    have hx3 := id st1
    clear hh
    obtain ⟨dx, hh⟩ := hx3
    walk_at "rd"
    refine ⟨h, p, s1, q, 1, k1 0 (.ref t1), k1 se (.int 0), [], se + 1, mk, .int bo, rfl, ⟨hF3, rfl, k1_ne _ (by decide)⟩, st1, fun t2 d2 r2 H4 g2 st2 => ?_⟩
    have hF4 : HeapF K H4 h p s1 q (putK (k1 0 (.ref t1)) (.inl 1) (.ref t2)) (putK (k1 se (.int 0)) (.inl (se + 1)) (.int 1)) [] := hf_PlainHeap T st2 g2.at_p g2.at_s g2.at_q ps pq sq (by rw [put_len _ (k1_ne _ (by decide)), k1_len]; decide) (by rw [put_len _ (k1_ne _ (by omega)), k1_len]; decide) (by decide)
    have hr14 := g2.tup hF3 hr13
    have hr24 : H4 r2 = some (.tup [.str "at", .int 1]) := g2.at_r
    have ht14 := g2.keep hF3 ht13 (fun kv z => by cases z) nt1.1
    have ht24 := g2.at_t
    have nt2 := hF3.ne g2.nt
    have hct4 := hct3.keep fun b xs z => g2.tup hF3 z
    have hx4 := id st2
    clear hh
    obtain ⟨dx, hh⟩ := hx4
    walk_at "rd"
    refine ⟨h, p, s1, q, 2, _, _, [], en, rfl, ⟨hF4, by rw [put_len _ (k1_ne _ (by decide)), k1_len], by rw [put_ne _ _ (by decide), k1_ne _ (by decide)]⟩, st2, fun t3 d3 r3 H5 g3 st3 => ?_⟩
    have hF5 : HeapF K H5 h p s1 q (putK (putK (k1 0 (.ref t1)) (.inl 1) (.ref t2)) (.inl 2) (.ref t3)) (putK (k1 se (.int 0)) (.inl (se + 1)) (.int 1)) (k1 en (.int 2)) := hf_PlainHeap T st3 g3.at_p g3.at_s g3.at_q ps pq sq (by rw [put_len _ (by rw [put_ne _ _ (by decide), k1_ne _ (by decide)]), put_len _ (k1_ne _ (by decide)), k1_len]; decide) (by rw [put_len _ (k1_ne _ (by omega)), k1_len]; decide) (by rw [k1_len]; decide)
    have hr15 := g3.tup hF4 hr14
    have hr25 := g3.tup hF4 hr24
    have hr35 : H5 r3 = some (.tup [.str "at", .int 2]) := g3.at_r
    have ht15 := g3.keep hF4 ht14 (fun kv z => by cases z) nt1.1
    have ht25 := g3.keep hF4 ht24 (fun kv z => by cases z) nt2.1
    have ht35 := g3.at_t
    have hct5 := hct4.keep fun b xs z => g3.tup hF4 z
    have b05 : But [h, p, s1, q] H H5 := (((But.ex e02).trans g1.but).trans g2.but).trans g3.but
    have p1 : valV (putK (putK (k1 0 (.ref t1)) (.inl 1) (.ref t2)) (.inl 2) (.ref t3)) (.inl 0) = some (.ref t1) := by rw [put_ne _ _ (by decide), put_ne _ _ (by decide), k1_same]
    have p2 : valV (putK (putK (k1 0 (.ref t1)) (.inl 1) (.ref t2)) (.inl 2) (.ref t3)) (.inl 1) = some (.ref t2) := by rw [put_ne _ _ (by decide), put_same]
    have p3 : valV (putK (putK (k1 0 (.ref t1)) (.inl 1) (.ref t2)) (.inl 2) (.ref t3)) (.inl 2) = some (.ref t3) := put_same _ _ _
    have s1a : valV (putK (k1 se (.int 0)) (.inl (se + 1)) (.int 1)) (.inl se) = some (.int 0) := by rw [put_ne _ _ (by omega), k1_same]
    have s2a : valV (putK (k1 se (.int 0)) (.inl (se + 1)) (.int 1)) (.inl (se + 1)) = some (.int 1) := put_same _ _ _
    have s3a : valV (putK (k1 se (.int 0)) (.inl (se + 1)) (.int 1)) (.inl (se + 2)) = none := by rw [put_ne _ _ (by omega), k1_ne _ (by omega)]
    have q1a : valV (k1 en (.int 2)) (.inl en) = some (.int 2) := k1_same _ _
    have q2a : valV (k1 en (.int 2)) (.inl (en + 1)) = none := k1_ne _ (by omega)
    clear hh
    have hx5 := id st3
    obtain ⟨dx, hh⟩ := hx5
    generalize putK (putK (k1 0 (.ref t1)) (.inl 1) (.ref t2)) (.inl 2) (.ref t3) = KP at hF5 p1 p2 p3
    generalize putK (k1 se (.int 0)) (.inl (se + 1)) (.int 1) = KS at hF5 s1a s2a s3a
    generalize k1 en (.int 2) = KQ at hF5 q1a q2a
    clear hF hF2 hF3 hF4 g1 g2 g3 st1 st2 st3 hSt hSt2 hct hct3 hct4 hr13 hr14 hr24 ht13 ht14 ht24 nt1 nt2 hD hD1 hD2 hla hat e1 e2 n1 mi0 mi1 bo0 bo1 en0 en1 se0 se1
    walk_at "rd"
    refine Rd.xtup rfl fun w1 J1 m1 f1 u1 => ?_
    refine Rd.neDr (dp_at (f1 _ _ hr15)) (dp_at u1) (shp_at _) ?_
    walk_at "rd"
    refine Rd.xtup rfl fun w2 J2 m2 f2 u2 => ?_
    refine Rd.neDr (dp_at (f2 _ _ (f1 _ _ hr25))) (dp_at u2) (shp_at _) ?_
    walk_at "rd"
    refine Rd.xtup rfl fun w3 J3 m3 f3 u3 => ?_
    have f13 := (f1.trans f2).trans f3
    refine Rd.neDr (dp_at (f13 _ _ hr35)) (dp_at (n := 2) u3) (shp_at _) ?_
    have hF6 := hF5.mono f13
    have hh6 := f13 _ _ hh
    have R1 := f13 _ _ hr15
    have R2 := f13 _ _ hr25
    have R3 := f13 _ _ hr35
    have T1 := f13 _ _ ht15
    have T2 := f13 _ _ ht25
    have T3 := f13 _ _ ht35
    have hct6 := hct5.keep fun b xs z => f13 _ _ z
    walk_at "rd"
    refine ⟨h, p, s1, q, r1, _, _, _, _, .ref t1, rfl, hF6, R1, p1, ?_⟩
    walk_at "rd"
    refine ⟨t1, _, _, rfl, ⟨_, .inl ⟨_, _, _, T1⟩⟩, ?_⟩
    walk_at "rd"
    refine ⟨h, p, s1, q, r2, _, _, _, _, .ref t2, rfl, hF6, R2, p2, ?_⟩
    walk_at "rd"
    refine ⟨t2, _, _, rfl, ⟨_, .inr (.inl ⟨_, _, _, T2⟩)⟩, ?_⟩
    walk_at "rd"
    refine ⟨h, p, s1, q, r3, _, _, _, _, .ref t3, rfl, hF6, R3, p3, ?_⟩
    walk_at "rd"
    refine ⟨t3, 2, _, rfl, ⟨_, .inr (.inr ⟨_, T3⟩)⟩, ?_⟩
    walk_at "rd"
    refine ⟨h, p, s1, q, se, _, _, _, rfl, hF6, ?_⟩
    rw [s1a, Option.getD_some]
    walk_at "rd"
    refine ⟨h, p, s1, q, se + 1, _, _, _, rfl, hF6, ?_⟩
    rw [s2a, Option.getD_some]
    walk_at "rd"
    refine ⟨h, p, s1, q, en, _, _, _, rfl, hF6, ?_⟩
    rw [q1a, Option.getD_some]
    walk_at "rd"
    refine ⟨h, p, s1, q, se + 2, _, _, _, rfl, hF6, ?_⟩
    rw [s3a, Option.getD_none]
    walk_at "rd"
    refine ⟨h, p, s1, q, en + 1, _, _, _, rfl, hF6, ?_⟩
    rw [q2a, Option.getD_none]
    walk_at "rd"
    refine ⟨h, p, s1, q, r1, _, _, _, _, .ref t1, rfl, hF6, R1, p1, ?_⟩
    walk_at "rd"
    refine ⟨t1, _, se, mk, ct, _, _, _, rfl, T1, hmk, hct6, ?_⟩
    walk_at "rd"
    refine ⟨h, p, s1, q, r2, _, _, _, _, .ref t2, rfl, hF6, R2, p2, ?_⟩
    walk_at "rd"
    refine ⟨t2, _, se + 1, bo, mk, _, _, _, rfl, T2, hmk, ?_⟩
    walk_at "rd"
    refine ⟨h, p, s1, q, r3, _, _, _, _, .ref t3, rfl, hF6, R3, p3, ?_⟩
    walk_at "rd"
    refine ⟨t3, _, en, _, _, _, rfl, T3, ?_⟩
    exact k _ (b05.trans (But.ex f13))
/-! split -/
theorem val_at {i : Nat} {y : V} {a b c d e : Addr} (h : [V.ref a, .ref b, .ref c, .ref d, .ref e][i]? = some y) {H : Hp} (ha : ∃ k v, H a = some (.tup [.str k, v]) ∧ ¬ k = "at") (hb : ∃ k v, H b = some (.tup [.str k, v]) ∧ ¬ k = "at") (hc : ∃ k v, H c = some (.tup [.str k, v]) ∧ ¬ k = "at") (hd : ∃ k v, H d = some (.tup [.str k, v]) ∧ ¬ k = "at") (he : ∃ k v, H e = some (.tup [.str k, v]) ∧ ¬ k = "at") :
    ∃ p k v, y = .ref p ∧ H p = some (.tup [.str k, v]) ∧ ¬ k = "at" := by
  match i, h with
  | 0, h => obtain ⟨k, v, h1, h2⟩ := ha; exact ⟨a, k, v, (Option.some.inj h).symm, h1, h2⟩
  | 1, h => obtain ⟨k, v, h1, h2⟩ := hb; exact ⟨b, k, v, (Option.some.inj h).symm, h1, h2⟩
  | 2, h => obtain ⟨k, v, h1, h2⟩ := hc; exact ⟨c, k, v, (Option.some.inj h).symm, h1, h2⟩
  | 3, h => obtain ⟨k, v, h1, h2⟩ := hd; exact ⟨d, k, v, (Option.some.inj h).symm, h1, h2⟩
  | 4, h => obtain ⟨k, v, h1, h2⟩ := he; exact ⟨e, k, v, (Option.some.inj h).symm, h1, h2⟩
  | i + 5, h => cases h
def spLaw (K : PySem.W.Frag) : Sp := fun vs H Q _ => ∃ (a : Addr) (ns : List Int), vs = [.ref a] ∧ SqL K H a (ns.map V.int) ∧ ns.length ≤ 63 ∧ ∀ H', Q (.bl true) H'
theorem ok_law {ad : Ad} (T : Txt K mg ad) : FnOk P w K mg base CX0 5 ad.a_law ad.d_law ["script"] (spLaw K) := by
  refine T.F_law.ok sc_law (fun vs H Q E h => ?_) (fun cdv A outer s H vs Q E hr h => ?_)
  · obtain ⟨a, ns, rfl, hS, hn, k⟩ := h
    rfl
  · obtain ⟨a, ns, rfl, hS, hn, k⟩ := h
    refine ⟨_, (pss_cons (ps_set (i := 1) sc_law.nd rfl (Or.inl rfl) (pe_call (ok_law_deck T) (hr.mono (by decide)) rfl T.m_law_deck T.F_law_deck.kp T.b_law_deck .nil pass0 (pa_cons (pv 0) (pa_cons pe_int (pa_cons pe_int pa_nil)))))
      (pss_cons (ps_set (i := 2) sc_law.nd rfl (Or.inl rfl) (pe_call (ok_law_content T) (hr.mono (by decide)) rfl T.m_law_content T.F_law_content.kp T.b_law_content .nil pass0 (pa_cons (pv 1) pa_nil)))
      (pss_cons (ps_set (i := 3) sc_law.nd rfl (Or.inl rfl) (pe_make T.mk_Cell (ok_Cell_init_ T) (hr.mono (by decide)) rfl T.mg_Cell T.b_Cell_init_ .nil pass0 (pa_cons pe_int (pa_cons pe_int (pa_cons (pv 2) pa_nil)))))
      (pss_cons (ps_set (i := 4) sc_law.nd rfl (Or.inl rfl) (pe_make T.mk_Service (ok_Service_init_ T) (hr.mono (by decide)) rfl T.mg_Service T.b_Service_init_ .nil pass0 (pa_cons (pe_call (ok_law_take T) (hr.mono (by decide)) rfl T.m_law_take T.F_law_take.kp T.b_law_take .nil pass0 (pa_cons (pv 1) (pa_cons pe_int pa_nil))) (pa_cons pe_non (pa_cons pe_int pa_nil)))))
      (pss_cons (ps_set (i := 5) sc_law.nd rfl (Or.inl rfl) (pe_make T.mk_Proxy (ok_Proxy_init_ T) (hr.mono (by decide)) rfl T.mg_Proxy T.b_Proxy_init_ .nil pass0 (pa_cons (pe_call (ok_law_take T) (hr.mono (by decide)) rfl T.m_law_take T.F_law_take.kp T.b_law_take .nil pass0 (pa_cons (pv 1) (pa_cons pe_int pa_nil))) pa_nil)))
      (pss_cons (ps_if (PW.pt (pw_or (pt_not (pt_val (pe_call (ok_law_new T) (hr.mono (by decide)) rfl T.m_law_new T.F_law_new.kp T.b_law_new .nil pass0 (pa_cons (pv 3) (pa_cons pe_int (pa_cons pe_int pa_nil)))))) (pw_or (pt_not (pt_val (pe_call (ok_law_new T) (hr.mono (by decide)) rfl T.m_law_new T.F_law_new.kp T.b_law_new .nil pass0 (pa_cons (pv 4) (pa_cons pe_int (pa_cons pe_int pa_nil)))))) (pw_or1 (pt_not (pt_val (pe_call (ok_law_new T) (hr.mono (by decide)) rfl T.m_law_new T.F_law_new.kp T.b_law_new .nil pass0 (pa_cons (pv 5) (pa_cons pe_int (pa_cons pe_int pa_nil)))))))))) (pss_one (ps_ret pe_bl)) pss_nil)
      (pss_cons (ps_if (PW.pt (pw_or (pt_not (pt_val (pe_call (ok_law_cell T) (hr.mono (by decide)) rfl T.m_law_cell T.F_law_cell.kp T.b_law_cell .nil pass0 (pa_cons (pv 3) (pa_cons pe_int (pa_cons pe_int (pa_cons (pv 2) pa_nil))))))) (pw_or1 (pt_not (pt_val (pe_call (ok_law_service T) (hr.mono (by decide)) rfl T.m_law_service T.F_law_service.kp T.b_law_service .nil pass0 (pa_cons (pv 4) (pa_cons (pe_fld (pv 4) rfl) (pa_cons pe_non (pa_cons pe_int pa_nil)))))))))) (pss_one (ps_ret pe_bl)) pss_nil)
      (pss_cons (ps_if (pt_not (pt_val (pe_call (ok_law_proxy T) (hr.mono (by decide)) rfl T.m_law_proxy T.F_law_proxy.kp T.b_law_proxy .nil pass0 (pa_cons (pv 5) (pa_cons (pe_fld (pv 5) rfl) pa_nil))))) (pss_one (ps_ret pe_bl)) pss_nil)
      (pss_cons (ps_if (PW.pt (pw_or (pt_cmpR op_notBl (pe_call (ok_is_reference T) (hr.mono (by decide)) rfl T.m_is_reference T.F_is_reference.kp T.b_is_reference .nil pass0 (pa_cons pe_non pa_nil)) pe_bl (nomark _)) (pw_or1 (pt_cmpR op_notBl (pe_call (ok_is_reference T) (hr.mono (by decide)) rfl T.m_is_reference T.F_is_reference.kp T.b_is_reference .nil pass0 (pa_cons (pe_tup (pa_cons pe_str (pa_cons (pe_call (ok_law_take T) (hr.mono (by decide)) rfl T.m_law_take T.F_law_take.kp T.b_law_take .nil pass0 (pa_cons (pv 1) (pa_cons pe_int pa_nil))) pa_nil))) pa_nil)) pe_bl (nomark _))))) (pss_one (ps_ret pe_bl)) pss_nil)
      (pss_cons (ps_for PassesOwn.never rfl (pi_tup (pe_tup (pa_cons (pe_tup (pa_cons pe_str (pa_cons (pe_un un_neg pe_int) pa_nil))) (pa_cons (pe_tup (pa_cons pe_str (pa_cons pe_int pa_nil))) (pa_cons (pe_tup (pa_cons pe_str (pa_cons pe_str pa_nil))) (pa_cons (pe_tup (pa_cons pe_str (pa_cons pe_str pa_nil))) (pa_cons (pe_tup (pa_cons pe_str (pa_cons pe_int pa_nil))) pa_nil))))))) (pg_name (i := 6) sc_law.nd rfl (Or.inl rfl)) (pss_one (ps_if (pt_cmpR op_notBl (pe_call (ok_is_reference T) (hr.mono (by decide)) rfl T.m_is_reference T.F_is_reference.kp T.b_is_reference .nil pass0 (pa_cons (pv 6) pa_nil)) pe_bl (nomark _)) (pss_one (ps_ret pe_bl)) pss_nil)))
      (pss_cons (ps_if (PW.pt (pw_or (pt_not (pt_val (pe_call (ok_law_heap_CountedHeap T) (hr.mono (by decide)) rfl T.m_law_heap T.F_law_heap.kp T.b_law_heap .nil pass0 (pa_cons (pv 1) (pa_cons (pe_make0 T.mk_CountedHeap (ok_CountedHeap_init_ T) (hr.mono (by decide)) rfl T.mg_CountedHeap T.b_CountedHeap_init_ .nil pass0) (pa_cons pe_int (pa_cons pe_int pa_nil))))))) (pw_or1 (pt_not (pt_val (pe_call (ok_law_heap_TracedHeap T) (hr.mono (by decide)) rfl T.m_law_heap T.F_law_heap.kp T.b_law_heap .nil pass0 (pa_cons (pv 1) (pa_cons (pe_make0 T.mk_TracedHeap (ok_TracedHeap_init_ T) (hr.mono (by decide)) rfl T.mg_TracedHeap T.b_TracedHeap_init_ .nil pass0) (pa_cons pe_int (pa_cons pe_int pa_nil)))))))))) (pss_one (ps_ret pe_bl)) pss_nil)
      (pss_one (ps_ret (pe_call (ok_law_heap_PlainHeap T) (hr.mono (by decide)) rfl T.m_law_heap T.F_law_heap.kp T.b_law_heap .nil pass0 (pa_cons (pv 1) (pa_cons (pe_make0 T.mk_PlainHeap (ok_PlainHeap_init_ T) (hr.mono (by decide)) rfl T.mg_PlainHeap T.b_PlainHeap_init_ .nil pass0) (pa_cons pe_int (pa_cons pe_int pa_nil)))))))))))))))))), ?_⟩
    try dsimp only [L2.cxOf, L2.Cx.nox, L2.Cx.wish]
    change (_ : TS) _ ([some (.ref a), none, none, none, none, none, none] : St) _
    have cl_Cell := T.cl_Cell
    have n_Cell_content := T.n_Cell_content
    have n_Cell_link := T.n_Cell_link
    have n_Cell_maker := T.n_Cell_maker
    have n_Cell_place := T.n_Cell_place
    have n_Cell_references := T.n_Cell_references
    have n_Cell_serial := T.n_Cell_serial
    have cl_CountedHeap := T.cl_CountedHeap
    have n_CountedHeap_places := T.n_CountedHeap_places
    have n_CountedHeap_proxies := T.n_CountedHeap_proxies
    have n_CountedHeap_serials := T.n_CountedHeap_serials
    have n_CountedHeap_vacant := T.n_CountedHeap_vacant
    have cl_PlainHeap := T.cl_PlainHeap
    have n_PlainHeap_places := T.n_PlainHeap_places
    have n_PlainHeap_proxies := T.n_PlainHeap_proxies
    have n_PlainHeap_serials := T.n_PlainHeap_serials
    have cl_Proxy := T.cl_Proxy
    have n_Proxy_entry := T.n_Proxy_entry
    have n_Proxy_link := T.n_Proxy_link
    have n_Proxy_maker := T.n_Proxy_maker
    have n_Proxy_place := T.n_Proxy_place
    have n_Proxy_references := T.n_Proxy_references
    have n_Proxy_serial := T.n_Proxy_serial
    have cl_Service := T.cl_Service
    have n_Service_body := T.n_Service_body
    have n_Service_link := T.n_Service_link
    have n_Service_maker := T.n_Service_maker
    have n_Service_place := T.n_Service_place
    have n_Service_references := T.n_Service_references
    have n_Service_serial := T.n_Service_serial
    have cl_TracedHeap := T.cl_TracedHeap
    have n_TracedHeap_next_index := T.n_TracedHeap_next_index
    have n_TracedHeap_places := T.n_TracedHeap_places
    have n_TracedHeap_proxies := T.n_TracedHeap_proxies
    have n_TracedHeap_serials := T.n_TracedHeap_serials
    have n_TracedHeap_space := T.n_TracedHeap_space
    walk_at "rd"
    refine ⟨a, ns, 6, 12, rfl, hS, hn, by decide, by decide, by decide, by decide, fun l hl => ?_⟩
    have hD : (upd H l (Dk.DkO l)) l = some (Dk.DkO l) := upd_same
    generalize upd H l (Dk.DkO l) = H0 at *
    walk_at "rd"
    refine ⟨l, rfl, hD, fun ct H1 e1 hct => ?_⟩
    have hD1 := e1 _ _ hD
    walk_at "rd"
    refine x_Cell fun tc dc H2 nc e2 hc => ?_
    have hD2 := e2 _ _ hD1
    walk_at "rd"
    intro se se0 se1
    walk_at "rd"
    refine x_Service fun ts ds H3 ns3 e3 hs => ?_
    have hD3 := e3 _ _ hD2
    walk_at "rd"
    intro en en0 en1
    walk_at "rd"
    refine x_Proxy fun tp dp H4 np e4 hp => ?_
    have hD4 := e4 _ _ hD3
    have hc4 := e4 _ _ (e3 _ _ hc)
    have hs4 := e4 _ _ hs
    have hct4 := hct.keep fun b xs z => e4 _ _ (e3 _ _ (e2 _ _ z))
    walk_at "rd"
    refine ⟨tc, 0, 0, rfl, ⟨dc, .inl ⟨_, _, _, hc4⟩⟩, ?_⟩
    walk_at "rd"
    refine ⟨ts, 0, 0, rfl, ⟨ds, .inr (.inl ⟨_, _, _, hs4⟩)⟩, ?_⟩
    walk_at "rd"
    refine ⟨tp, 0, 0, rfl, ⟨dp, .inr (.inr ⟨_, hp⟩)⟩, ?_⟩
    walk_at "rd"
    refine ⟨tc, dc, 5, .int 1, ct, _, _, _, rfl, hc4, .inr ⟨1, rfl⟩, hct4, ?_⟩
    walk_at "rd"
    refine ⟨ts, ds, se, 3, .non, _, _, _, rfl, hs4, .inl rfl, ?_⟩
    walk_at "rd"
    refine ⟨tp, dp, en, _, _, _, rfl, hp, ?_⟩
    walk_at "rd"
    refine ⟨.non, rfl, .inl ⟨rfl, ?_⟩⟩
    walk_at "rd"
    intro u u0 u1
    walk_at "rd"
    refine Rd.xtup rfl fun w1 H5 n5 e5 h5 => ?_
    walk_at "rd"
    refine ⟨.ref w1, rfl, .inr ⟨w1, "at", _, rfl, SqT.of h5, ?_⟩⟩
    walk_at "rd"
    refine Rd.xtup rfl fun y1 J1 m1 f1 g1 => ?_
    walk_at "rd"
    refine Rd.xtup rfl fun y2 J2 m2 f2 g2 => ?_
    walk_at "rd"
    refine Rd.xtup rfl fun y3 J3 m3 f3 g3 => ?_
    walk_at "rd"
    refine Rd.xtup rfl fun y4 J4 m4 f4 g4 => ?_
    walk_at "rd"
    refine Rd.xtup rfl fun y5 J5 m5 f5 g5 => ?_
    walk_at "rd"
    refine Rd.xtup rfl fun ys J6 m6 f6 g6 => ?_
    have a1 := f6 _ _ (f5 _ _ (f4 _ _ (f3 _ _ (f2 _ _ g1))))
    have a2 := f6 _ _ (f5 _ _ (f4 _ _ (f3 _ _ g2)))
    have a3 := f6 _ _ (f5 _ _ (f4 _ _ g3))
    have a4 := f6 _ _ (f5 _ _ g4)
    have a5 := f6 _ _ g5
    have hD6 := f6 _ _ (f5 _ _ (f4 _ _ (f3 _ _ (f2 _ _ (f1 _ _ (e5 _ _ hD4))))))
    walk_at "rd"
    refine Rd.xft (K := K) (SqT.of g6) (fun j σ H' => ∃ v6, σ = [some (.ref a), some (.ref l), some ct, some (.ref tc), some (.ref ts), some (.ref tp), v6] ∧ H' = J6) ⟨_, rfl, rfl⟩ (fun j σ H' _ ⟨_, _, e⟩ => by rw [e]; exact SqT.of g6) ?_ ?_
    · rintro j y σ H' hj ⟨v6, rfl, rfl⟩
      obtain ⟨p, k1, v1, rfl, h1, h2⟩ := val_at hj ⟨_, _, a1, by decide +kernel⟩ ⟨_, _, a2, by decide +kernel⟩ ⟨_, _, a3, by decide +kernel⟩ ⟨_, _, a4, by decide +kernel⟩ ⟨_, _, a5, by decide +kernel⟩
      walk_at "rd"
      refine ⟨.ref p, rfl, .inr ⟨p, k1, v1, rfl, SqT.of h1, ?_⟩⟩
      rw [decide_eq_false h2]
      walk_at "rd"
      exact ⟨_, rfl, rfl⟩
    · rintro σ H' ⟨v6, rfl, rfl⟩
      walk_at "rd"
      refine Rd.xmk fun h1 dx1 K1 ee1 nh1 hh1 => ?_
      refine ⟨h1, dx1, rfl, hh1, fun p s1 q v K2 np ns nq ps pq sq hx2 hp2 hs2 hq2 hv2 but => ⟨rfl, ?_⟩⟩
      have st : St_CountedHeap ad.c_CountedHeap K2 h1 p s1 q 0 := ⟨dx1, v, hx2, hv2⟩
      have hF := hf_CountedHeap T st hp2 hs2 hq2 ps pq sq (by decide) (by decide) (by decide)
      have hD7 : K2 l = some (Dk.DkO l) := but _ _ (by simp only [List.mem_cons, List.not_mem_nil, or_false]; exact fun z => by rw [z, nh1] at hD6; cases hD6) (ee1 _ _ hD6)
      have nl1 : l ∉ [h1, p, s1, q] := by
        have hD61 := ee1 _ _ hD6
        exact nm4 (fun z => by rw [z, nh1] at hD6; cases hD6) (fun z => by rw [z, np] at hD61; cases hD61) (fun z => by rw [z, ns] at hD61; cases hD61) (fun z => by rw [z, nq] at hD61; cases hD61)
      walk_at "rd"
      refine ⟨l, h1, p, s1, q, rfl, hD7, hF, st, fun K3 b3 => ?_⟩
      have hD8 := b3 _ _ nl1 hD7
      clear ee1 nh1 hh1 np ns nq ps pq sq hx2 hp2 hs2 hq2 hv2 but st hF nl1
      walk_at "rd"
      refine Rd.xmk fun h2 dx2 K4 ee2 nh2 hh2 => ?_
      refine ⟨h2, dx2, rfl, hh2, fun p s1 q K5 np ns nq ps pq sq hx2 hp2 hs2 hq2 but => ⟨rfl, ?_⟩⟩
      have st : St_TracedHeap ad.c_TracedHeap K5 h2 p s1 q 0 := ⟨dx2, hx2⟩
      have hF := hf_TracedHeap T st hp2 hs2 hq2 ps pq sq (by decide) (by decide) (by decide)
      have hD81 := ee2 _ _ hD8
      have hD9 : K5 l = some (Dk.DkO l) := but _ _ (by simp only [List.mem_cons, List.not_mem_nil, or_false]; exact fun z => by rw [z, nh2] at hD8; cases hD8) hD81
      have nl2 : l ∉ [h2, p, s1, q] := nm4 (fun z => by rw [z, nh2] at hD8; cases hD8) (fun z => by rw [z, np] at hD81; cases hD81) (fun z => by rw [z, ns] at hD81; cases hD81) (fun z => by rw [z, nq] at hD81; cases hD81)
      walk_at "rd"
      refine ⟨l, h2, p, s1, q, rfl, hD9, hF, st, fun K6 b6 => ?_⟩
      have hD10 := b6 _ _ nl2 hD9
      clear ee2 nh2 hh2 np ns nq ps pq sq hx2 hp2 hs2 hq2 but st hF nl2
      walk_at "rd"
      refine Rd.xmk fun h3 dx3 K7 ee3 nh3 hh3 => ?_
      refine ⟨h3, dx3, rfl, hh3, fun p s1 q K8 np ns nq ps pq sq hx2 hp2 hs2 hq2 but => ⟨rfl, ?_⟩⟩
      have st : St_PlainHeap ad.c_PlainHeap K8 h3 p s1 q 0 := ⟨dx3, hx2⟩
      have hF := hf_PlainHeap T st hp2 hs2 hq2 ps pq sq (by decide) (by decide) (by decide)
      have hD11 : K8 l = some (Dk.DkO l) := but _ _ (by simp only [List.mem_cons, List.not_mem_nil, or_false]; exact fun z => by rw [z, nh3] at hD10; cases hD10) (ee3 _ _ hD10)
      walk_at "rd"
      refine ⟨l, h3, p, s1, q, rfl, hD11, hF, st, fun K9 b9 => ?_⟩
      exact k _

/-! split -/
end
theorem all_mk {K : PySem.W.Frag} {h : Heap} {mg : Str → Option Value} {fa : Addr} (X : K.In h) (G : h.Ns mainGlobals mg) (hfa : mg "law" = some (.ref fa))
    {c_Cell : Addr}
    {c_CountedHeap : Addr}
    {c_PlainHeap : Addr}
    {c_Proxy : Addr}
    {c_Service : Addr}
    {c_TracedHeap : Addr}
    {f_law_take : Addr} {oc_law_take kV_law_take dc_law_take pm_law_take cd_law_take ct_law_take : Value} {od_law_take an_law_take : Option Addr} {sl_law_take : Array (Option Value)}
    {f_law_deck : Addr} {oc_law_deck kV_law_deck dc_law_deck pm_law_deck cd_law_deck ct_law_deck : Value} {od_law_deck an_law_deck : Option Addr} {sl_law_deck : Array (Option Value)}
    {f_law_whole : Addr} {oc_law_whole kV_law_whole dc_law_whole pm_law_whole cd_law_whole ct_law_whole : Value} {od_law_whole an_law_whole : Option Addr} {sl_law_whole : Array (Option Value)}
    {f_Cell_init_ : Addr} {oc_Cell_init_ kV_Cell_init_ dc_Cell_init_ pm_Cell_init_ cd_Cell_init_ ct_Cell_init_ : Value} {od_Cell_init_ an_Cell_init_ : Option Addr} {sl_Cell_init_ : Array (Option Value)}
    {f_Service_init_ : Addr} {oc_Service_init_ kV_Service_init_ dc_Service_init_ pm_Service_init_ cd_Service_init_ ct_Service_init_ : Value} {od_Service_init_ an_Service_init_ : Option Addr} {sl_Service_init_ : Array (Option Value)}
    {f_Proxy_init_ : Addr} {oc_Proxy_init_ kV_Proxy_init_ dc_Proxy_init_ pm_Proxy_init_ cd_Proxy_init_ ct_Proxy_init_ : Value} {od_Proxy_init_ an_Proxy_init_ : Option Addr} {sl_Proxy_init_ : Array (Option Value)}
    {f_put_in : Addr} {oc_put_in kV_put_in dc_put_in pm_put_in cd_put_in ct_put_in : Value} {od_put_in an_put_in : Option Addr} {sl_put_in : Array (Option Value)}
    {f_CountedHeap_init_ : Addr} {oc_CountedHeap_init_ kV_CountedHeap_init_ dc_CountedHeap_init_ pm_CountedHeap_init_ cd_CountedHeap_init_ ct_CountedHeap_init_ : Value} {od_CountedHeap_init_ an_CountedHeap_init_ : Option Addr} {sl_CountedHeap_init_ : Array (Option Value)}
    {f_TracedHeap_init_ : Addr} {oc_TracedHeap_init_ kV_TracedHeap_init_ dc_TracedHeap_init_ pm_TracedHeap_init_ cd_TracedHeap_init_ ct_TracedHeap_init_ : Value} {od_TracedHeap_init_ an_TracedHeap_init_ : Option Addr} {sl_TracedHeap_init_ : Array (Option Value)}
    {f_PlainHeap_init_ : Addr} {oc_PlainHeap_init_ kV_PlainHeap_init_ dc_PlainHeap_init_ pm_PlainHeap_init_ cd_PlainHeap_init_ ct_PlainHeap_init_ : Value} {od_PlainHeap_init_ an_PlainHeap_init_ : Option Addr} {sl_PlainHeap_init_ : Array (Option Value)}
    {f_CountedHeap_thing : Addr} {oc_CountedHeap_thing kV_CountedHeap_thing dc_CountedHeap_thing pm_CountedHeap_thing cd_CountedHeap_thing ct_CountedHeap_thing : Value} {od_CountedHeap_thing an_CountedHeap_thing : Option Addr} {sl_CountedHeap_thing : Array (Option Value)}
    {f_CountedHeap_where : Addr} {oc_CountedHeap_where kV_CountedHeap_where dc_CountedHeap_where pm_CountedHeap_where cd_CountedHeap_where ct_CountedHeap_where : Value} {od_CountedHeap_where an_CountedHeap_where : Option Addr} {sl_CountedHeap_where : Array (Option Value)}
    {f_CountedHeap_where_proxy : Addr} {oc_CountedHeap_where_proxy kV_CountedHeap_where_proxy dc_CountedHeap_where_proxy pm_CountedHeap_where_proxy cd_CountedHeap_where_proxy ct_CountedHeap_where_proxy : Value} {od_CountedHeap_where_proxy an_CountedHeap_where_proxy : Option Addr} {sl_CountedHeap_where_proxy : Array (Option Value)}
    {f_TracedHeap_thing : Addr} {oc_TracedHeap_thing kV_TracedHeap_thing dc_TracedHeap_thing pm_TracedHeap_thing cd_TracedHeap_thing ct_TracedHeap_thing : Value} {od_TracedHeap_thing an_TracedHeap_thing : Option Addr} {sl_TracedHeap_thing : Array (Option Value)}
    {f_TracedHeap_where : Addr} {oc_TracedHeap_where kV_TracedHeap_where dc_TracedHeap_where pm_TracedHeap_where cd_TracedHeap_where ct_TracedHeap_where : Value} {od_TracedHeap_where an_TracedHeap_where : Option Addr} {sl_TracedHeap_where : Array (Option Value)}
    {f_TracedHeap_where_proxy : Addr} {oc_TracedHeap_where_proxy kV_TracedHeap_where_proxy dc_TracedHeap_where_proxy pm_TracedHeap_where_proxy cd_TracedHeap_where_proxy ct_TracedHeap_where_proxy : Value} {od_TracedHeap_where_proxy an_TracedHeap_where_proxy : Option Addr} {sl_TracedHeap_where_proxy : Array (Option Value)}
    {f_PlainHeap_thing : Addr} {oc_PlainHeap_thing kV_PlainHeap_thing dc_PlainHeap_thing pm_PlainHeap_thing cd_PlainHeap_thing ct_PlainHeap_thing : Value} {od_PlainHeap_thing an_PlainHeap_thing : Option Addr} {sl_PlainHeap_thing : Array (Option Value)}
    {f_PlainHeap_where : Addr} {oc_PlainHeap_where kV_PlainHeap_where dc_PlainHeap_where pm_PlainHeap_where cd_PlainHeap_where ct_PlainHeap_where : Value} {od_PlainHeap_where an_PlainHeap_where : Option Addr} {sl_PlainHeap_where : Array (Option Value)}
    {f_PlainHeap_where_proxy : Addr} {oc_PlainHeap_where_proxy kV_PlainHeap_where_proxy dc_PlainHeap_where_proxy pm_PlainHeap_where_proxy cd_PlainHeap_where_proxy ct_PlainHeap_where_proxy : Value} {od_PlainHeap_where_proxy an_PlainHeap_where_proxy : Option Addr} {sl_PlainHeap_where_proxy : Array (Option Value)}
    {f_CountedHeap_add : Addr} {oc_CountedHeap_add kV_CountedHeap_add dc_CountedHeap_add pm_CountedHeap_add cd_CountedHeap_add ct_CountedHeap_add : Value} {od_CountedHeap_add an_CountedHeap_add : Option Addr} {sl_CountedHeap_add : Array (Option Value)}
    {f_CountedHeap_make_cell : Addr} {oc_CountedHeap_make_cell kV_CountedHeap_make_cell dc_CountedHeap_make_cell pm_CountedHeap_make_cell cd_CountedHeap_make_cell ct_CountedHeap_make_cell : Value} {od_CountedHeap_make_cell an_CountedHeap_make_cell : Option Addr} {sl_CountedHeap_make_cell : Array (Option Value)}
    {f_CountedHeap_make_service : Addr} {oc_CountedHeap_make_service kV_CountedHeap_make_service dc_CountedHeap_make_service pm_CountedHeap_make_service cd_CountedHeap_make_service ct_CountedHeap_make_service : Value} {od_CountedHeap_make_service an_CountedHeap_make_service : Option Addr} {sl_CountedHeap_make_service : Array (Option Value)}
    {f_CountedHeap_make_proxy : Addr} {oc_CountedHeap_make_proxy kV_CountedHeap_make_proxy dc_CountedHeap_make_proxy pm_CountedHeap_make_proxy cd_CountedHeap_make_proxy ct_CountedHeap_make_proxy : Value} {od_CountedHeap_make_proxy an_CountedHeap_make_proxy : Option Addr} {sl_CountedHeap_make_proxy : Array (Option Value)}
    {f_TracedHeap_new_place : Addr} {oc_TracedHeap_new_place kV_TracedHeap_new_place dc_TracedHeap_new_place pm_TracedHeap_new_place cd_TracedHeap_new_place ct_TracedHeap_new_place : Value} {od_TracedHeap_new_place an_TracedHeap_new_place : Option Addr} {sl_TracedHeap_new_place : Array (Option Value)}
    {f_TracedHeap_make_cell : Addr} {oc_TracedHeap_make_cell kV_TracedHeap_make_cell dc_TracedHeap_make_cell pm_TracedHeap_make_cell cd_TracedHeap_make_cell ct_TracedHeap_make_cell : Value} {od_TracedHeap_make_cell an_TracedHeap_make_cell : Option Addr} {sl_TracedHeap_make_cell : Array (Option Value)}
    {f_TracedHeap_make_service : Addr} {oc_TracedHeap_make_service kV_TracedHeap_make_service dc_TracedHeap_make_service pm_TracedHeap_make_service cd_TracedHeap_make_service ct_TracedHeap_make_service : Value} {od_TracedHeap_make_service an_TracedHeap_make_service : Option Addr} {sl_TracedHeap_make_service : Array (Option Value)}
    {f_TracedHeap_make_proxy : Addr} {oc_TracedHeap_make_proxy kV_TracedHeap_make_proxy dc_TracedHeap_make_proxy pm_TracedHeap_make_proxy cd_TracedHeap_make_proxy ct_TracedHeap_make_proxy : Value} {od_TracedHeap_make_proxy an_TracedHeap_make_proxy : Option Addr} {sl_TracedHeap_make_proxy : Array (Option Value)}
    {f_PlainHeap_make_cell : Addr} {oc_PlainHeap_make_cell kV_PlainHeap_make_cell dc_PlainHeap_make_cell pm_PlainHeap_make_cell cd_PlainHeap_make_cell ct_PlainHeap_make_cell : Value} {od_PlainHeap_make_cell an_PlainHeap_make_cell : Option Addr} {sl_PlainHeap_make_cell : Array (Option Value)}
    {f_PlainHeap_make_service : Addr} {oc_PlainHeap_make_service kV_PlainHeap_make_service dc_PlainHeap_make_service pm_PlainHeap_make_service cd_PlainHeap_make_service ct_PlainHeap_make_service : Value} {od_PlainHeap_make_service an_PlainHeap_make_service : Option Addr} {sl_PlainHeap_make_service : Array (Option Value)}
    {f_PlainHeap_make_proxy : Addr} {oc_PlainHeap_make_proxy kV_PlainHeap_make_proxy dc_PlainHeap_make_proxy pm_PlainHeap_make_proxy cd_PlainHeap_make_proxy ct_PlainHeap_make_proxy : Value} {od_PlainHeap_make_proxy an_PlainHeap_make_proxy : Option Addr} {sl_PlainHeap_make_proxy : Array (Option Value)}
    {f_law_content : Addr} {oc_law_content kV_law_content dc_law_content pm_law_content cd_law_content ct_law_content : Value} {od_law_content an_law_content : Option Addr} {sl_law_content : Array (Option Value)}
    {f_law_new : Addr} {oc_law_new kV_law_new dc_law_new pm_law_new cd_law_new ct_law_new : Value} {od_law_new an_law_new : Option Addr} {sl_law_new : Array (Option Value)}
    {f_law_cell : Addr} {oc_law_cell kV_law_cell dc_law_cell pm_law_cell cd_law_cell ct_law_cell : Value} {od_law_cell an_law_cell : Option Addr} {sl_law_cell : Array (Option Value)}
    {f_law_service : Addr} {oc_law_service kV_law_service dc_law_service pm_law_service cd_law_service ct_law_service : Value} {od_law_service an_law_service : Option Addr} {sl_law_service : Array (Option Value)}
    {f_law_proxy : Addr} {oc_law_proxy kV_law_proxy dc_law_proxy pm_law_proxy cd_law_proxy ct_law_proxy : Value} {od_law_proxy an_law_proxy : Option Addr} {sl_law_proxy : Array (Option Value)}
    {f_is_reference : Addr} {oc_is_reference kV_is_reference dc_is_reference pm_is_reference cd_is_reference ct_is_reference : Value} {od_is_reference an_is_reference : Option Addr} {sl_is_reference : Array (Option Value)}
    {f_law_heap : Addr} {oc_law_heap kV_law_heap dc_law_heap pm_law_heap cd_law_heap ct_law_heap : Value} {od_law_heap an_law_heap : Option Addr} {sl_law_heap : Array (Option Value)}
    {f_law : Addr} {oc_law kV_law dc_law pm_law cd_law ct_law : Value} {od_law an_law : Option Addr} {sl_law : Array (Option Value)}
    (A_Cell : PySem.W.nsIn K mainGlobals "Cell" = some (some (.ref c_Cell)))
    (A_CountedHeap : PySem.W.nsIn K mainGlobals "CountedHeap" = some (some (.ref c_CountedHeap)))
    (A_PlainHeap : PySem.W.nsIn K mainGlobals "PlainHeap" = some (some (.ref c_PlainHeap)))
    (A_Proxy : PySem.W.nsIn K mainGlobals "Proxy" = some (some (.ref c_Proxy)))
    (A_Service : PySem.W.nsIn K mainGlobals "Service" = some (some (.ref c_Service)))
    (A_TracedHeap : PySem.W.nsIn K mainGlobals "TracedHeap" = some (some (.ref c_TracedHeap)))
    (a_law_take : PySem.W.nsIn K mainGlobals "_law_take" = some (some (.ref f_law_take)))
    (l_law_take : K.lookup f_law_take = some ⟨oc_law_take, od_law_take, .func (PySem.W.fnOf "_law_take" "_law_take" (defArgs s_law_take) (defBody s_law_take) (defScope s_law_take) .none kV_law_take dc_law_take pm_law_take an_law_take cd_law_take ct_law_take), sl_law_take⟩)
    (c_law_take : PySem.W.codeIn K cd_law_take "_law_take" = true)
    (k_law_take : PySem.W.keepIn K (.ref f_law_take) = true)
    (a_law_deck : PySem.W.nsIn K mainGlobals "_law_deck" = some (some (.ref f_law_deck)))
    (l_law_deck : K.lookup f_law_deck = some ⟨oc_law_deck, od_law_deck, .func (PySem.W.fnOf "_law_deck" "_law_deck" (defArgs s_law_deck) (defBody s_law_deck) (defScope s_law_deck) .none kV_law_deck dc_law_deck pm_law_deck an_law_deck cd_law_deck ct_law_deck), sl_law_deck⟩)
    (c_law_deck : PySem.W.codeIn K cd_law_deck "_law_deck" = true)
    (k_law_deck : PySem.W.keepIn K (.ref f_law_deck) = true)
    (a_law_whole : PySem.W.nsIn K mainGlobals "_law_whole" = some (some (.ref f_law_whole)))
    (l_law_whole : K.lookup f_law_whole = some ⟨oc_law_whole, od_law_whole, .func (PySem.W.fnOf "_law_whole" "_law_whole" (defArgs s_law_whole) (defBody s_law_whole) (defScope s_law_whole) .none kV_law_whole dc_law_whole pm_law_whole an_law_whole cd_law_whole ct_law_whole), sl_law_whole⟩)
    (c_law_whole : PySem.W.codeIn K cd_law_whole "_law_whole" = true)
    (k_law_whole : PySem.W.keepIn K (.ref f_law_whole) = true)
    (a_Cell_init_ : PySem.W.findIn K (.ref c_Cell) "__init__" = some (some (.ref f_Cell_init_)))
    (i_Cell_init_ : PySem.W.isFn K (.ref f_Cell_init_) = true)
    (l_Cell_init_ : K.lookup f_Cell_init_ = some ⟨oc_Cell_init_, od_Cell_init_, .func (PySem.W.fnOf "__init__" "Cell.__init__" (defArgs s_Cell_init_) (defBody s_Cell_init_) (defScope s_Cell_init_) .none kV_Cell_init_ dc_Cell_init_ pm_Cell_init_ an_Cell_init_ cd_Cell_init_ ct_Cell_init_), sl_Cell_init_⟩)
    (c_Cell_init_ : PySem.W.codeIn K cd_Cell_init_ "Cell.__init__" = true)
    (k_Cell_init_ : PySem.W.keepIn K (.ref f_Cell_init_) = true)
    (a_Service_init_ : PySem.W.findIn K (.ref c_Service) "__init__" = some (some (.ref f_Service_init_)))
    (i_Service_init_ : PySem.W.isFn K (.ref f_Service_init_) = true)
    (l_Service_init_ : K.lookup f_Service_init_ = some ⟨oc_Service_init_, od_Service_init_, .func (PySem.W.fnOf "__init__" "Service.__init__" (defArgs s_Service_init_) (defBody s_Service_init_) (defScope s_Service_init_) .none kV_Service_init_ dc_Service_init_ pm_Service_init_ an_Service_init_ cd_Service_init_ ct_Service_init_), sl_Service_init_⟩)
    (c_Service_init_ : PySem.W.codeIn K cd_Service_init_ "Service.__init__" = true)
    (k_Service_init_ : PySem.W.keepIn K (.ref f_Service_init_) = true)
    (a_Proxy_init_ : PySem.W.findIn K (.ref c_Proxy) "__init__" = some (some (.ref f_Proxy_init_)))
    (i_Proxy_init_ : PySem.W.isFn K (.ref f_Proxy_init_) = true)
    (l_Proxy_init_ : K.lookup f_Proxy_init_ = some ⟨oc_Proxy_init_, od_Proxy_init_, .func (PySem.W.fnOf "__init__" "Proxy.__init__" (defArgs s_Proxy_init_) (defBody s_Proxy_init_) (defScope s_Proxy_init_) .none kV_Proxy_init_ dc_Proxy_init_ pm_Proxy_init_ an_Proxy_init_ cd_Proxy_init_ ct_Proxy_init_), sl_Proxy_init_⟩)
    (c_Proxy_init_ : PySem.W.codeIn K cd_Proxy_init_ "Proxy.__init__" = true)
    (k_Proxy_init_ : PySem.W.keepIn K (.ref f_Proxy_init_) = true)
    (a_put_in : PySem.W.nsIn K mainGlobals "put_in" = some (some (.ref f_put_in)))
    (l_put_in : K.lookup f_put_in = some ⟨oc_put_in, od_put_in, .func (PySem.W.fnOf "put_in" "put_in" (defArgs s_put_in) (defBody s_put_in) (defScope s_put_in) .none kV_put_in dc_put_in pm_put_in an_put_in cd_put_in ct_put_in), sl_put_in⟩)
    (c_put_in : PySem.W.codeIn K cd_put_in "put_in" = true)
    (k_put_in : PySem.W.keepIn K (.ref f_put_in) = true)
    (a_CountedHeap_init_ : PySem.W.findIn K (.ref c_CountedHeap) "__init__" = some (some (.ref f_CountedHeap_init_)))
    (i_CountedHeap_init_ : PySem.W.isFn K (.ref f_CountedHeap_init_) = true)
    (l_CountedHeap_init_ : K.lookup f_CountedHeap_init_ = some ⟨oc_CountedHeap_init_, od_CountedHeap_init_, .func (PySem.W.fnOf "__init__" "CountedHeap.__init__" (defArgs s_CountedHeap_init_) (defBody s_CountedHeap_init_) (defScope s_CountedHeap_init_) .none kV_CountedHeap_init_ dc_CountedHeap_init_ pm_CountedHeap_init_ an_CountedHeap_init_ cd_CountedHeap_init_ ct_CountedHeap_init_), sl_CountedHeap_init_⟩)
    (c_CountedHeap_init_ : PySem.W.codeIn K cd_CountedHeap_init_ "CountedHeap.__init__" = true)
    (k_CountedHeap_init_ : PySem.W.keepIn K (.ref f_CountedHeap_init_) = true)
    (a_TracedHeap_init_ : PySem.W.findIn K (.ref c_TracedHeap) "__init__" = some (some (.ref f_TracedHeap_init_)))
    (i_TracedHeap_init_ : PySem.W.isFn K (.ref f_TracedHeap_init_) = true)
    (l_TracedHeap_init_ : K.lookup f_TracedHeap_init_ = some ⟨oc_TracedHeap_init_, od_TracedHeap_init_, .func (PySem.W.fnOf "__init__" "TracedHeap.__init__" (defArgs s_TracedHeap_init_) (defBody s_TracedHeap_init_) (defScope s_TracedHeap_init_) .none kV_TracedHeap_init_ dc_TracedHeap_init_ pm_TracedHeap_init_ an_TracedHeap_init_ cd_TracedHeap_init_ ct_TracedHeap_init_), sl_TracedHeap_init_⟩)
    (c_TracedHeap_init_ : PySem.W.codeIn K cd_TracedHeap_init_ "TracedHeap.__init__" = true)
    (k_TracedHeap_init_ : PySem.W.keepIn K (.ref f_TracedHeap_init_) = true)
    (a_PlainHeap_init_ : PySem.W.findIn K (.ref c_PlainHeap) "__init__" = some (some (.ref f_PlainHeap_init_)))
    (i_PlainHeap_init_ : PySem.W.isFn K (.ref f_PlainHeap_init_) = true)
    (l_PlainHeap_init_ : K.lookup f_PlainHeap_init_ = some ⟨oc_PlainHeap_init_, od_PlainHeap_init_, .func (PySem.W.fnOf "__init__" "PlainHeap.__init__" (defArgs s_PlainHeap_init_) (defBody s_PlainHeap_init_) (defScope s_PlainHeap_init_) .none kV_PlainHeap_init_ dc_PlainHeap_init_ pm_PlainHeap_init_ an_PlainHeap_init_ cd_PlainHeap_init_ ct_PlainHeap_init_), sl_PlainHeap_init_⟩)
    (c_PlainHeap_init_ : PySem.W.codeIn K cd_PlainHeap_init_ "PlainHeap.__init__" = true)
    (k_PlainHeap_init_ : PySem.W.keepIn K (.ref f_PlainHeap_init_) = true)
    (a_CountedHeap_thing : PySem.W.findIn K (.ref c_CountedHeap) "thing" = some (some (.ref f_CountedHeap_thing)))
    (i_CountedHeap_thing : PySem.W.isFn K (.ref f_CountedHeap_thing) = true)
    (l_CountedHeap_thing : K.lookup f_CountedHeap_thing = some ⟨oc_CountedHeap_thing, od_CountedHeap_thing, .func (PySem.W.fnOf "thing" "CountedHeap.thing" (defArgs s_CountedHeap_thing) (defBody s_CountedHeap_thing) (defScope s_CountedHeap_thing) .none kV_CountedHeap_thing dc_CountedHeap_thing pm_CountedHeap_thing an_CountedHeap_thing cd_CountedHeap_thing ct_CountedHeap_thing), sl_CountedHeap_thing⟩)
    (c_CountedHeap_thing : PySem.W.codeIn K cd_CountedHeap_thing "CountedHeap.thing" = true)
    (k_CountedHeap_thing : PySem.W.keepIn K (.ref f_CountedHeap_thing) = true)
    (a_CountedHeap_where : PySem.W.findIn K (.ref c_CountedHeap) "where" = some (some (.ref f_CountedHeap_where)))
    (i_CountedHeap_where : PySem.W.isFn K (.ref f_CountedHeap_where) = true)
    (l_CountedHeap_where : K.lookup f_CountedHeap_where = some ⟨oc_CountedHeap_where, od_CountedHeap_where, .func (PySem.W.fnOf "where" "CountedHeap.where" (defArgs s_CountedHeap_where) (defBody s_CountedHeap_where) (defScope s_CountedHeap_where) .none kV_CountedHeap_where dc_CountedHeap_where pm_CountedHeap_where an_CountedHeap_where cd_CountedHeap_where ct_CountedHeap_where), sl_CountedHeap_where⟩)
    (c_CountedHeap_where : PySem.W.codeIn K cd_CountedHeap_where "CountedHeap.where" = true)
    (k_CountedHeap_where : PySem.W.keepIn K (.ref f_CountedHeap_where) = true)
    (a_CountedHeap_where_proxy : PySem.W.findIn K (.ref c_CountedHeap) "where_proxy" = some (some (.ref f_CountedHeap_where_proxy)))
    (i_CountedHeap_where_proxy : PySem.W.isFn K (.ref f_CountedHeap_where_proxy) = true)
    (l_CountedHeap_where_proxy : K.lookup f_CountedHeap_where_proxy = some ⟨oc_CountedHeap_where_proxy, od_CountedHeap_where_proxy, .func (PySem.W.fnOf "where_proxy" "CountedHeap.where_proxy" (defArgs s_CountedHeap_where_proxy) (defBody s_CountedHeap_where_proxy) (defScope s_CountedHeap_where_proxy) .none kV_CountedHeap_where_proxy dc_CountedHeap_where_proxy pm_CountedHeap_where_proxy an_CountedHeap_where_proxy cd_CountedHeap_where_proxy ct_CountedHeap_where_proxy), sl_CountedHeap_where_proxy⟩)
    (c_CountedHeap_where_proxy : PySem.W.codeIn K cd_CountedHeap_where_proxy "CountedHeap.where_proxy" = true)
    (k_CountedHeap_where_proxy : PySem.W.keepIn K (.ref f_CountedHeap_where_proxy) = true)
    (a_TracedHeap_thing : PySem.W.findIn K (.ref c_TracedHeap) "thing" = some (some (.ref f_TracedHeap_thing)))
    (i_TracedHeap_thing : PySem.W.isFn K (.ref f_TracedHeap_thing) = true)
    (l_TracedHeap_thing : K.lookup f_TracedHeap_thing = some ⟨oc_TracedHeap_thing, od_TracedHeap_thing, .func (PySem.W.fnOf "thing" "TracedHeap.thing" (defArgs s_TracedHeap_thing) (defBody s_TracedHeap_thing) (defScope s_TracedHeap_thing) .none kV_TracedHeap_thing dc_TracedHeap_thing pm_TracedHeap_thing an_TracedHeap_thing cd_TracedHeap_thing ct_TracedHeap_thing), sl_TracedHeap_thing⟩)
    (c_TracedHeap_thing : PySem.W.codeIn K cd_TracedHeap_thing "TracedHeap.thing" = true)
    (k_TracedHeap_thing : PySem.W.keepIn K (.ref f_TracedHeap_thing) = true)
    (a_TracedHeap_where : PySem.W.findIn K (.ref c_TracedHeap) "where" = some (some (.ref f_TracedHeap_where)))
    (i_TracedHeap_where : PySem.W.isFn K (.ref f_TracedHeap_where) = true)
    (l_TracedHeap_where : K.lookup f_TracedHeap_where = some ⟨oc_TracedHeap_where, od_TracedHeap_where, .func (PySem.W.fnOf "where" "TracedHeap.where" (defArgs s_TracedHeap_where) (defBody s_TracedHeap_where) (defScope s_TracedHeap_where) .none kV_TracedHeap_where dc_TracedHeap_where pm_TracedHeap_where an_TracedHeap_where cd_TracedHeap_where ct_TracedHeap_where), sl_TracedHeap_where⟩)
    (c_TracedHeap_where : PySem.W.codeIn K cd_TracedHeap_where "TracedHeap.where" = true)
    (k_TracedHeap_where : PySem.W.keepIn K (.ref f_TracedHeap_where) = true)
    (a_TracedHeap_where_proxy : PySem.W.findIn K (.ref c_TracedHeap) "where_proxy" = some (some (.ref f_TracedHeap_where_proxy)))
    (i_TracedHeap_where_proxy : PySem.W.isFn K (.ref f_TracedHeap_where_proxy) = true)
    (l_TracedHeap_where_proxy : K.lookup f_TracedHeap_where_proxy = some ⟨oc_TracedHeap_where_proxy, od_TracedHeap_where_proxy, .func (PySem.W.fnOf "where_proxy" "TracedHeap.where_proxy" (defArgs s_TracedHeap_where_proxy) (defBody s_TracedHeap_where_proxy) (defScope s_TracedHeap_where_proxy) .none kV_TracedHeap_where_proxy dc_TracedHeap_where_proxy pm_TracedHeap_where_proxy an_TracedHeap_where_proxy cd_TracedHeap_where_proxy ct_TracedHeap_where_proxy), sl_TracedHeap_where_proxy⟩)
    (c_TracedHeap_where_proxy : PySem.W.codeIn K cd_TracedHeap_where_proxy "TracedHeap.where_proxy" = true)
    (k_TracedHeap_where_proxy : PySem.W.keepIn K (.ref f_TracedHeap_where_proxy) = true)
    (a_PlainHeap_thing : PySem.W.findIn K (.ref c_PlainHeap) "thing" = some (some (.ref f_PlainHeap_thing)))
    (i_PlainHeap_thing : PySem.W.isFn K (.ref f_PlainHeap_thing) = true)
    (l_PlainHeap_thing : K.lookup f_PlainHeap_thing = some ⟨oc_PlainHeap_thing, od_PlainHeap_thing, .func (PySem.W.fnOf "thing" "PlainHeap.thing" (defArgs s_PlainHeap_thing) (defBody s_PlainHeap_thing) (defScope s_PlainHeap_thing) .none kV_PlainHeap_thing dc_PlainHeap_thing pm_PlainHeap_thing an_PlainHeap_thing cd_PlainHeap_thing ct_PlainHeap_thing), sl_PlainHeap_thing⟩)
    (c_PlainHeap_thing : PySem.W.codeIn K cd_PlainHeap_thing "PlainHeap.thing" = true)
    (k_PlainHeap_thing : PySem.W.keepIn K (.ref f_PlainHeap_thing) = true)
    (a_PlainHeap_where : PySem.W.findIn K (.ref c_PlainHeap) "where" = some (some (.ref f_PlainHeap_where)))
    (i_PlainHeap_where : PySem.W.isFn K (.ref f_PlainHeap_where) = true)
    (l_PlainHeap_where : K.lookup f_PlainHeap_where = some ⟨oc_PlainHeap_where, od_PlainHeap_where, .func (PySem.W.fnOf "where" "PlainHeap.where" (defArgs s_PlainHeap_where) (defBody s_PlainHeap_where) (defScope s_PlainHeap_where) .none kV_PlainHeap_where dc_PlainHeap_where pm_PlainHeap_where an_PlainHeap_where cd_PlainHeap_where ct_PlainHeap_where), sl_PlainHeap_where⟩)
    (c_PlainHeap_where : PySem.W.codeIn K cd_PlainHeap_where "PlainHeap.where" = true)
    (k_PlainHeap_where : PySem.W.keepIn K (.ref f_PlainHeap_where) = true)
    (a_PlainHeap_where_proxy : PySem.W.findIn K (.ref c_PlainHeap) "where_proxy" = some (some (.ref f_PlainHeap_where_proxy)))
    (i_PlainHeap_where_proxy : PySem.W.isFn K (.ref f_PlainHeap_where_proxy) = true)
    (l_PlainHeap_where_proxy : K.lookup f_PlainHeap_where_proxy = some ⟨oc_PlainHeap_where_proxy, od_PlainHeap_where_proxy, .func (PySem.W.fnOf "where_proxy" "PlainHeap.where_proxy" (defArgs s_PlainHeap_where_proxy) (defBody s_PlainHeap_where_proxy) (defScope s_PlainHeap_where_proxy) .none kV_PlainHeap_where_proxy dc_PlainHeap_where_proxy pm_PlainHeap_where_proxy an_PlainHeap_where_proxy cd_PlainHeap_where_proxy ct_PlainHeap_where_proxy), sl_PlainHeap_where_proxy⟩)
    (c_PlainHeap_where_proxy : PySem.W.codeIn K cd_PlainHeap_where_proxy "PlainHeap.where_proxy" = true)
    (k_PlainHeap_where_proxy : PySem.W.keepIn K (.ref f_PlainHeap_where_proxy) = true)
    (a_CountedHeap_add : PySem.W.findIn K (.ref c_CountedHeap) "_add" = some (some (.ref f_CountedHeap_add)))
    (i_CountedHeap_add : PySem.W.isFn K (.ref f_CountedHeap_add) = true)
    (l_CountedHeap_add : K.lookup f_CountedHeap_add = some ⟨oc_CountedHeap_add, od_CountedHeap_add, .func (PySem.W.fnOf "_add" "CountedHeap._add" (defArgs s_CountedHeap_add) (defBody s_CountedHeap_add) (defScope s_CountedHeap_add) .none kV_CountedHeap_add dc_CountedHeap_add pm_CountedHeap_add an_CountedHeap_add cd_CountedHeap_add ct_CountedHeap_add), sl_CountedHeap_add⟩)
    (c_CountedHeap_add : PySem.W.codeIn K cd_CountedHeap_add "CountedHeap._add" = true)
    (k_CountedHeap_add : PySem.W.keepIn K (.ref f_CountedHeap_add) = true)
    (a_CountedHeap_make_cell : PySem.W.findIn K (.ref c_CountedHeap) "make_cell" = some (some (.ref f_CountedHeap_make_cell)))
    (i_CountedHeap_make_cell : PySem.W.isFn K (.ref f_CountedHeap_make_cell) = true)
    (l_CountedHeap_make_cell : K.lookup f_CountedHeap_make_cell = some ⟨oc_CountedHeap_make_cell, od_CountedHeap_make_cell, .func (PySem.W.fnOf "make_cell" "CountedHeap.make_cell" (defArgs s_CountedHeap_make_cell) (defBody s_CountedHeap_make_cell) (defScope s_CountedHeap_make_cell) .none kV_CountedHeap_make_cell dc_CountedHeap_make_cell pm_CountedHeap_make_cell an_CountedHeap_make_cell cd_CountedHeap_make_cell ct_CountedHeap_make_cell), sl_CountedHeap_make_cell⟩)
    (c_CountedHeap_make_cell : PySem.W.codeIn K cd_CountedHeap_make_cell "CountedHeap.make_cell" = true)
    (k_CountedHeap_make_cell : PySem.W.keepIn K (.ref f_CountedHeap_make_cell) = true)
    (a_CountedHeap_make_service : PySem.W.findIn K (.ref c_CountedHeap) "make_service" = some (some (.ref f_CountedHeap_make_service)))
    (i_CountedHeap_make_service : PySem.W.isFn K (.ref f_CountedHeap_make_service) = true)
    (l_CountedHeap_make_service : K.lookup f_CountedHeap_make_service = some ⟨oc_CountedHeap_make_service, od_CountedHeap_make_service, .func (PySem.W.fnOf "make_service" "CountedHeap.make_service" (defArgs s_CountedHeap_make_service) (defBody s_CountedHeap_make_service) (defScope s_CountedHeap_make_service) .none kV_CountedHeap_make_service dc_CountedHeap_make_service pm_CountedHeap_make_service an_CountedHeap_make_service cd_CountedHeap_make_service ct_CountedHeap_make_service), sl_CountedHeap_make_service⟩)
    (c_CountedHeap_make_service : PySem.W.codeIn K cd_CountedHeap_make_service "CountedHeap.make_service" = true)
    (k_CountedHeap_make_service : PySem.W.keepIn K (.ref f_CountedHeap_make_service) = true)
    (a_CountedHeap_make_proxy : PySem.W.findIn K (.ref c_CountedHeap) "make_proxy" = some (some (.ref f_CountedHeap_make_proxy)))
    (i_CountedHeap_make_proxy : PySem.W.isFn K (.ref f_CountedHeap_make_proxy) = true)
    (l_CountedHeap_make_proxy : K.lookup f_CountedHeap_make_proxy = some ⟨oc_CountedHeap_make_proxy, od_CountedHeap_make_proxy, .func (PySem.W.fnOf "make_proxy" "CountedHeap.make_proxy" (defArgs s_CountedHeap_make_proxy) (defBody s_CountedHeap_make_proxy) (defScope s_CountedHeap_make_proxy) .none kV_CountedHeap_make_proxy dc_CountedHeap_make_proxy pm_CountedHeap_make_proxy an_CountedHeap_make_proxy cd_CountedHeap_make_proxy ct_CountedHeap_make_proxy), sl_CountedHeap_make_proxy⟩)
    (c_CountedHeap_make_proxy : PySem.W.codeIn K cd_CountedHeap_make_proxy "CountedHeap.make_proxy" = true)
    (k_CountedHeap_make_proxy : PySem.W.keepIn K (.ref f_CountedHeap_make_proxy) = true)
    (a_TracedHeap_new_place : PySem.W.findIn K (.ref c_TracedHeap) "new_place" = some (some (.ref f_TracedHeap_new_place)))
    (i_TracedHeap_new_place : PySem.W.isFn K (.ref f_TracedHeap_new_place) = true)
    (l_TracedHeap_new_place : K.lookup f_TracedHeap_new_place = some ⟨oc_TracedHeap_new_place, od_TracedHeap_new_place, .func (PySem.W.fnOf "new_place" "TracedHeap.new_place" (defArgs s_TracedHeap_new_place) (defBody s_TracedHeap_new_place) (defScope s_TracedHeap_new_place) .none kV_TracedHeap_new_place dc_TracedHeap_new_place pm_TracedHeap_new_place an_TracedHeap_new_place cd_TracedHeap_new_place ct_TracedHeap_new_place), sl_TracedHeap_new_place⟩)
    (c_TracedHeap_new_place : PySem.W.codeIn K cd_TracedHeap_new_place "TracedHeap.new_place" = true)
    (k_TracedHeap_new_place : PySem.W.keepIn K (.ref f_TracedHeap_new_place) = true)
    (a_TracedHeap_make_cell : PySem.W.findIn K (.ref c_TracedHeap) "make_cell" = some (some (.ref f_TracedHeap_make_cell)))
    (i_TracedHeap_make_cell : PySem.W.isFn K (.ref f_TracedHeap_make_cell) = true)
    (l_TracedHeap_make_cell : K.lookup f_TracedHeap_make_cell = some ⟨oc_TracedHeap_make_cell, od_TracedHeap_make_cell, .func (PySem.W.fnOf "make_cell" "TracedHeap.make_cell" (defArgs s_TracedHeap_make_cell) (defBody s_TracedHeap_make_cell) (defScope s_TracedHeap_make_cell) .none kV_TracedHeap_make_cell dc_TracedHeap_make_cell pm_TracedHeap_make_cell an_TracedHeap_make_cell cd_TracedHeap_make_cell ct_TracedHeap_make_cell), sl_TracedHeap_make_cell⟩)
    (c_TracedHeap_make_cell : PySem.W.codeIn K cd_TracedHeap_make_cell "TracedHeap.make_cell" = true)
    (k_TracedHeap_make_cell : PySem.W.keepIn K (.ref f_TracedHeap_make_cell) = true)
    (a_TracedHeap_make_service : PySem.W.findIn K (.ref c_TracedHeap) "make_service" = some (some (.ref f_TracedHeap_make_service)))
    (i_TracedHeap_make_service : PySem.W.isFn K (.ref f_TracedHeap_make_service) = true)
    (l_TracedHeap_make_service : K.lookup f_TracedHeap_make_service = some ⟨oc_TracedHeap_make_service, od_TracedHeap_make_service, .func (PySem.W.fnOf "make_service" "TracedHeap.make_service" (defArgs s_TracedHeap_make_service) (defBody s_TracedHeap_make_service) (defScope s_TracedHeap_make_service) .none kV_TracedHeap_make_service dc_TracedHeap_make_service pm_TracedHeap_make_service an_TracedHeap_make_service cd_TracedHeap_make_service ct_TracedHeap_make_service), sl_TracedHeap_make_service⟩)
    (c_TracedHeap_make_service : PySem.W.codeIn K cd_TracedHeap_make_service "TracedHeap.make_service" = true)
    (k_TracedHeap_make_service : PySem.W.keepIn K (.ref f_TracedHeap_make_service) = true)
    (a_TracedHeap_make_proxy : PySem.W.findIn K (.ref c_TracedHeap) "make_proxy" = some (some (.ref f_TracedHeap_make_proxy)))
    (i_TracedHeap_make_proxy : PySem.W.isFn K (.ref f_TracedHeap_make_proxy) = true)
    (l_TracedHeap_make_proxy : K.lookup f_TracedHeap_make_proxy = some ⟨oc_TracedHeap_make_proxy, od_TracedHeap_make_proxy, .func (PySem.W.fnOf "make_proxy" "TracedHeap.make_proxy" (defArgs s_TracedHeap_make_proxy) (defBody s_TracedHeap_make_proxy) (defScope s_TracedHeap_make_proxy) .none kV_TracedHeap_make_proxy dc_TracedHeap_make_proxy pm_TracedHeap_make_proxy an_TracedHeap_make_proxy cd_TracedHeap_make_proxy ct_TracedHeap_make_proxy), sl_TracedHeap_make_proxy⟩)
    (c_TracedHeap_make_proxy : PySem.W.codeIn K cd_TracedHeap_make_proxy "TracedHeap.make_proxy" = true)
    (k_TracedHeap_make_proxy : PySem.W.keepIn K (.ref f_TracedHeap_make_proxy) = true)
    (a_PlainHeap_make_cell : PySem.W.findIn K (.ref c_PlainHeap) "make_cell" = some (some (.ref f_PlainHeap_make_cell)))
    (i_PlainHeap_make_cell : PySem.W.isFn K (.ref f_PlainHeap_make_cell) = true)
    (l_PlainHeap_make_cell : K.lookup f_PlainHeap_make_cell = some ⟨oc_PlainHeap_make_cell, od_PlainHeap_make_cell, .func (PySem.W.fnOf "make_cell" "PlainHeap.make_cell" (defArgs s_PlainHeap_make_cell) (defBody s_PlainHeap_make_cell) (defScope s_PlainHeap_make_cell) .none kV_PlainHeap_make_cell dc_PlainHeap_make_cell pm_PlainHeap_make_cell an_PlainHeap_make_cell cd_PlainHeap_make_cell ct_PlainHeap_make_cell), sl_PlainHeap_make_cell⟩)
    (c_PlainHeap_make_cell : PySem.W.codeIn K cd_PlainHeap_make_cell "PlainHeap.make_cell" = true)
    (k_PlainHeap_make_cell : PySem.W.keepIn K (.ref f_PlainHeap_make_cell) = true)
    (a_PlainHeap_make_service : PySem.W.findIn K (.ref c_PlainHeap) "make_service" = some (some (.ref f_PlainHeap_make_service)))
    (i_PlainHeap_make_service : PySem.W.isFn K (.ref f_PlainHeap_make_service) = true)
    (l_PlainHeap_make_service : K.lookup f_PlainHeap_make_service = some ⟨oc_PlainHeap_make_service, od_PlainHeap_make_service, .func (PySem.W.fnOf "make_service" "PlainHeap.make_service" (defArgs s_PlainHeap_make_service) (defBody s_PlainHeap_make_service) (defScope s_PlainHeap_make_service) .none kV_PlainHeap_make_service dc_PlainHeap_make_service pm_PlainHeap_make_service an_PlainHeap_make_service cd_PlainHeap_make_service ct_PlainHeap_make_service), sl_PlainHeap_make_service⟩)
    (c_PlainHeap_make_service : PySem.W.codeIn K cd_PlainHeap_make_service "PlainHeap.make_service" = true)
    (k_PlainHeap_make_service : PySem.W.keepIn K (.ref f_PlainHeap_make_service) = true)
    (a_PlainHeap_make_proxy : PySem.W.findIn K (.ref c_PlainHeap) "make_proxy" = some (some (.ref f_PlainHeap_make_proxy)))
    (i_PlainHeap_make_proxy : PySem.W.isFn K (.ref f_PlainHeap_make_proxy) = true)
    (l_PlainHeap_make_proxy : K.lookup f_PlainHeap_make_proxy = some ⟨oc_PlainHeap_make_proxy, od_PlainHeap_make_proxy, .func (PySem.W.fnOf "make_proxy" "PlainHeap.make_proxy" (defArgs s_PlainHeap_make_proxy) (defBody s_PlainHeap_make_proxy) (defScope s_PlainHeap_make_proxy) .none kV_PlainHeap_make_proxy dc_PlainHeap_make_proxy pm_PlainHeap_make_proxy an_PlainHeap_make_proxy cd_PlainHeap_make_proxy ct_PlainHeap_make_proxy), sl_PlainHeap_make_proxy⟩)
    (c_PlainHeap_make_proxy : PySem.W.codeIn K cd_PlainHeap_make_proxy "PlainHeap.make_proxy" = true)
    (k_PlainHeap_make_proxy : PySem.W.keepIn K (.ref f_PlainHeap_make_proxy) = true)
    (a_law_content : PySem.W.nsIn K mainGlobals "_law_content" = some (some (.ref f_law_content)))
    (l_law_content : K.lookup f_law_content = some ⟨oc_law_content, od_law_content, .func (PySem.W.fnOf "_law_content" "_law_content" (defArgs s_law_content) (defBody s_law_content) (defScope s_law_content) .none kV_law_content dc_law_content pm_law_content an_law_content cd_law_content ct_law_content), sl_law_content⟩)
    (c_law_content : PySem.W.codeIn K cd_law_content "_law_content" = true)
    (k_law_content : PySem.W.keepIn K (.ref f_law_content) = true)
    (a_law_new : PySem.W.nsIn K mainGlobals "_law_new" = some (some (.ref f_law_new)))
    (l_law_new : K.lookup f_law_new = some ⟨oc_law_new, od_law_new, .func (PySem.W.fnOf "_law_new" "_law_new" (defArgs s_law_new) (defBody s_law_new) (defScope s_law_new) .none kV_law_new dc_law_new pm_law_new an_law_new cd_law_new ct_law_new), sl_law_new⟩)
    (c_law_new : PySem.W.codeIn K cd_law_new "_law_new" = true)
    (k_law_new : PySem.W.keepIn K (.ref f_law_new) = true)
    (a_law_cell : PySem.W.nsIn K mainGlobals "_law_cell" = some (some (.ref f_law_cell)))
    (l_law_cell : K.lookup f_law_cell = some ⟨oc_law_cell, od_law_cell, .func (PySem.W.fnOf "_law_cell" "_law_cell" (defArgs s_law_cell) (defBody s_law_cell) (defScope s_law_cell) .none kV_law_cell dc_law_cell pm_law_cell an_law_cell cd_law_cell ct_law_cell), sl_law_cell⟩)
    (c_law_cell : PySem.W.codeIn K cd_law_cell "_law_cell" = true)
    (k_law_cell : PySem.W.keepIn K (.ref f_law_cell) = true)
    (a_law_service : PySem.W.nsIn K mainGlobals "_law_service" = some (some (.ref f_law_service)))
    (l_law_service : K.lookup f_law_service = some ⟨oc_law_service, od_law_service, .func (PySem.W.fnOf "_law_service" "_law_service" (defArgs s_law_service) (defBody s_law_service) (defScope s_law_service) .none kV_law_service dc_law_service pm_law_service an_law_service cd_law_service ct_law_service), sl_law_service⟩)
    (c_law_service : PySem.W.codeIn K cd_law_service "_law_service" = true)
    (k_law_service : PySem.W.keepIn K (.ref f_law_service) = true)
    (a_law_proxy : PySem.W.nsIn K mainGlobals "_law_proxy" = some (some (.ref f_law_proxy)))
    (l_law_proxy : K.lookup f_law_proxy = some ⟨oc_law_proxy, od_law_proxy, .func (PySem.W.fnOf "_law_proxy" "_law_proxy" (defArgs s_law_proxy) (defBody s_law_proxy) (defScope s_law_proxy) .none kV_law_proxy dc_law_proxy pm_law_proxy an_law_proxy cd_law_proxy ct_law_proxy), sl_law_proxy⟩)
    (c_law_proxy : PySem.W.codeIn K cd_law_proxy "_law_proxy" = true)
    (k_law_proxy : PySem.W.keepIn K (.ref f_law_proxy) = true)
    (a_is_reference : PySem.W.nsIn K mainGlobals "is_reference" = some (some (.ref f_is_reference)))
    (l_is_reference : K.lookup f_is_reference = some ⟨oc_is_reference, od_is_reference, .func (PySem.W.fnOf "is_reference" "is_reference" (defArgs s_is_reference) (defBody s_is_reference) (defScope s_is_reference) .none kV_is_reference dc_is_reference pm_is_reference an_is_reference cd_is_reference ct_is_reference), sl_is_reference⟩)
    (c_is_reference : PySem.W.codeIn K cd_is_reference "is_reference" = true)
    (k_is_reference : PySem.W.keepIn K (.ref f_is_reference) = true)
    (a_law_heap : PySem.W.nsIn K mainGlobals "_law_heap" = some (some (.ref f_law_heap)))
    (l_law_heap : K.lookup f_law_heap = some ⟨oc_law_heap, od_law_heap, .func (PySem.W.fnOf "_law_heap" "_law_heap" (defArgs s_law_heap) (defBody s_law_heap) (defScope s_law_heap) .none kV_law_heap dc_law_heap pm_law_heap an_law_heap cd_law_heap ct_law_heap), sl_law_heap⟩)
    (c_law_heap : PySem.W.codeIn K cd_law_heap "_law_heap" = true)
    (k_law_heap : PySem.W.keepIn K (.ref f_law_heap) = true)
    (a_law : PySem.W.nsIn K mainGlobals "law" = some (some (.ref f_law)))
    (l_law : K.lookup f_law = some ⟨oc_law, od_law, .func (PySem.W.fnOf "law" "law" (defArgs s_law) (defBody s_law) (defScope s_law) .none kV_law dc_law pm_law an_law cd_law ct_law), sl_law⟩)
    (c_law : PySem.W.codeIn K cd_law "law" = true)
    (k_law : PySem.W.keepIn K (.ref f_law) = true)
    (pg_Cell : PySem.W.plainGet K c_Cell Str.empty = true)
    (hd_Cell : PySem.W.hasDictIn K c_Cell = true)
    (po_Cell : PySem.W.plainOver K c_Cell = true)
    (sa_Cell : PySem.W.findIn K (.ref c_Cell) "__setattr__" = some (some (.builtin "object.__setattr__")))
    (mk_Cell : PySem.W.makesIn K c_Cell = true)
    (kc_Cell : PySem.W.keepIn K (.ref c_Cell) = true)
    (n_Cell_content : PySem.W.findIn K (.ref c_Cell) "content" = some none)
    (n_Cell_link : PySem.W.findIn K (.ref c_Cell) "link" = some none)
    (n_Cell_maker : PySem.W.findIn K (.ref c_Cell) "maker" = some none)
    (n_Cell_place : PySem.W.findIn K (.ref c_Cell) "place" = some none)
    (n_Cell_references : PySem.W.findIn K (.ref c_Cell) "references" = some none)
    (n_Cell_serial : PySem.W.findIn K (.ref c_Cell) "serial" = some none)
    (pg_CountedHeap : PySem.W.plainGet K c_CountedHeap Str.empty = true)
    (hd_CountedHeap : PySem.W.hasDictIn K c_CountedHeap = true)
    (po_CountedHeap : PySem.W.plainOver K c_CountedHeap = true)
    (sa_CountedHeap : PySem.W.findIn K (.ref c_CountedHeap) "__setattr__" = some (some (.builtin "object.__setattr__")))
    (mk_CountedHeap : PySem.W.makesIn K c_CountedHeap = true)
    (kc_CountedHeap : PySem.W.keepIn K (.ref c_CountedHeap) = true)
    (n_CountedHeap_places : PySem.W.findIn K (.ref c_CountedHeap) "places" = some none)
    (n_CountedHeap_proxies : PySem.W.findIn K (.ref c_CountedHeap) "proxies" = some none)
    (n_CountedHeap_serials : PySem.W.findIn K (.ref c_CountedHeap) "serials" = some none)
    (n_CountedHeap_vacant : PySem.W.findIn K (.ref c_CountedHeap) "vacant" = some none)
    (pg_PlainHeap : PySem.W.plainGet K c_PlainHeap Str.empty = true)
    (hd_PlainHeap : PySem.W.hasDictIn K c_PlainHeap = true)
    (po_PlainHeap : PySem.W.plainOver K c_PlainHeap = true)
    (sa_PlainHeap : PySem.W.findIn K (.ref c_PlainHeap) "__setattr__" = some (some (.builtin "object.__setattr__")))
    (mk_PlainHeap : PySem.W.makesIn K c_PlainHeap = true)
    (kc_PlainHeap : PySem.W.keepIn K (.ref c_PlainHeap) = true)
    (n_PlainHeap_places : PySem.W.findIn K (.ref c_PlainHeap) "places" = some none)
    (n_PlainHeap_proxies : PySem.W.findIn K (.ref c_PlainHeap) "proxies" = some none)
    (n_PlainHeap_serials : PySem.W.findIn K (.ref c_PlainHeap) "serials" = some none)
    (pg_Proxy : PySem.W.plainGet K c_Proxy Str.empty = true)
    (hd_Proxy : PySem.W.hasDictIn K c_Proxy = true)
    (po_Proxy : PySem.W.plainOver K c_Proxy = true)
    (sa_Proxy : PySem.W.findIn K (.ref c_Proxy) "__setattr__" = some (some (.builtin "object.__setattr__")))
    (mk_Proxy : PySem.W.makesIn K c_Proxy = true)
    (kc_Proxy : PySem.W.keepIn K (.ref c_Proxy) = true)
    (n_Proxy_entry : PySem.W.findIn K (.ref c_Proxy) "entry" = some none)
    (n_Proxy_link : PySem.W.findIn K (.ref c_Proxy) "link" = some none)
    (n_Proxy_maker : PySem.W.findIn K (.ref c_Proxy) "maker" = some none)
    (n_Proxy_place : PySem.W.findIn K (.ref c_Proxy) "place" = some none)
    (n_Proxy_references : PySem.W.findIn K (.ref c_Proxy) "references" = some none)
    (n_Proxy_serial : PySem.W.findIn K (.ref c_Proxy) "serial" = some none)
    (pg_Service : PySem.W.plainGet K c_Service Str.empty = true)
    (hd_Service : PySem.W.hasDictIn K c_Service = true)
    (po_Service : PySem.W.plainOver K c_Service = true)
    (sa_Service : PySem.W.findIn K (.ref c_Service) "__setattr__" = some (some (.builtin "object.__setattr__")))
    (mk_Service : PySem.W.makesIn K c_Service = true)
    (kc_Service : PySem.W.keepIn K (.ref c_Service) = true)
    (n_Service_body : PySem.W.findIn K (.ref c_Service) "body" = some none)
    (n_Service_link : PySem.W.findIn K (.ref c_Service) "link" = some none)
    (n_Service_maker : PySem.W.findIn K (.ref c_Service) "maker" = some none)
    (n_Service_place : PySem.W.findIn K (.ref c_Service) "place" = some none)
    (n_Service_references : PySem.W.findIn K (.ref c_Service) "references" = some none)
    (n_Service_serial : PySem.W.findIn K (.ref c_Service) "serial" = some none)
    (pg_TracedHeap : PySem.W.plainGet K c_TracedHeap Str.empty = true)
    (hd_TracedHeap : PySem.W.hasDictIn K c_TracedHeap = true)
    (po_TracedHeap : PySem.W.plainOver K c_TracedHeap = true)
    (sa_TracedHeap : PySem.W.findIn K (.ref c_TracedHeap) "__setattr__" = some (some (.builtin "object.__setattr__")))
    (mk_TracedHeap : PySem.W.makesIn K c_TracedHeap = true)
    (kc_TracedHeap : PySem.W.keepIn K (.ref c_TracedHeap) = true)
    (n_TracedHeap_next_index : PySem.W.findIn K (.ref c_TracedHeap) "next_index" = some none)
    (n_TracedHeap_places : PySem.W.findIn K (.ref c_TracedHeap) "places" = some none)
    (n_TracedHeap_proxies : PySem.W.findIn K (.ref c_TracedHeap) "proxies" = some none)
    (n_TracedHeap_serials : PySem.W.findIn K (.ref c_TracedHeap) "serials" = some none)
    (n_TracedHeap_space : PySem.W.findIn K (.ref c_TracedHeap) "space" = some none)
    (kt_Cell_Cell : PySem.W.kitOne K (.ref c_Cell) (.ref c_Cell) = some true)
    (kt_Cell_Service : PySem.W.kitOne K (.ref c_Cell) (.ref c_Service) = some false)
    (kt_Cell_Proxy : PySem.W.kitOne K (.ref c_Cell) (.ref c_Proxy) = some false)
    (kt_Service_Cell : PySem.W.kitOne K (.ref c_Service) (.ref c_Cell) = some false)
    (kt_Service_Service : PySem.W.kitOne K (.ref c_Service) (.ref c_Service) = some true)
    (kt_Service_Proxy : PySem.W.kitOne K (.ref c_Service) (.ref c_Proxy) = some false)
    (kt_Proxy_Cell : PySem.W.kitOne K (.ref c_Proxy) (.ref c_Cell) = some false)
    (kt_Proxy_Service : PySem.W.kitOne K (.ref c_Proxy) (.ref c_Service) = some false)
    (kt_Proxy_Proxy : PySem.W.kitOne K (.ref c_Proxy) (.ref c_Proxy) = some true)
    (is_Cell : PySem.W.findIn K (.ref c_Cell) "__class__" = some (some (.builtin "object.__class__")))
    (io_Cell : PySem.W.mroIn K c_Cell (.type "object") = some true)
    (is_Service : PySem.W.findIn K (.ref c_Service) "__class__" = some (some (.builtin "object.__class__")))
    (io_Service : PySem.W.mroIn K c_Service (.type "object") = some true)
    (is_Proxy : PySem.W.findIn K (.ref c_Proxy) "__class__" = some (some (.builtin "object.__class__")))
    (io_Proxy : PySem.W.mroIn K c_Proxy (.type "object") = some true)
    (is_get : PySem.W.specialIn K (.builtin "object.__class__") "__get__" = some (some (.builtin "getset_descriptor.__get__")))
    (is_tk : PySem.W.takesIn K (.builtin "object.__class__") = some true)
    (z_abs : PySem.W.nsIn K mainGlobals "abs" = some none)
    (z_bool : PySem.W.nsIn K mainGlobals "bool" = some none)
    (z_int : PySem.W.nsIn K mainGlobals "int" = some none)
    (z_isinstance : PySem.W.nsIn K mainGlobals "isinstance" = some none)
    (z_len : PySem.W.nsIn K mainGlobals "len" = some none)
    (z_range : PySem.W.nsIn K mainGlobals "range" = some none)
    : ∃ ad : Ad, Txt K mg ad ∧ fa = ad.a_law ∧ ∀ (s : Shared) (v : Value), BindsTo s ad.d_law ⟨[v], []⟩ [("script", v)] := by
  have e := hfa.symm.trans (PySem.W.mg_of X G a_law)
  cases e
  have F_law_take := fun_mk (st := s_law_take) l_law_take c_law_take k_law_take
  have b_law_take := F_law_take.binds (ps := ["deck", "many"]) fun _ _ _ _ _ _ us hl => match us, hl with | [_, _], _ => rfl
  have F_law_deck := fun_mk (st := s_law_deck) l_law_deck c_law_deck k_law_deck
  have b_law_deck := F_law_deck.binds (ps := ["script", "cells", "each"]) fun _ _ _ _ _ _ us hl => match us, hl with | [_, _, _], _ => rfl
  have F_law_whole := fun_mk (st := s_law_whole) l_law_whole c_law_whole k_law_whole
  have b_law_whole := F_law_whole.binds (ps := ["value"]) fun _ _ _ _ _ _ us hl => match us, hl with | [_], _ => rfl
  have F_Cell_init_ := fun_mk (st := s_Cell_init_) l_Cell_init_ c_Cell_init_ k_Cell_init_
  have b_Cell_init_ := F_Cell_init_.binds (ps := ["self", "serial", "maker", "content"]) fun _ _ _ _ _ _ us hl => match us, hl with | [_, _, _, _], _ => rfl
  have F_Service_init_ := fun_mk (st := s_Service_init_) l_Service_init_ c_Service_init_ k_Service_init_
  have b_Service_init_ := F_Service_init_.binds (ps := ["self", "serial", "maker", "body"]) fun _ _ _ _ _ _ us hl => match us, hl with | [_, _, _, _], _ => rfl
  have F_Proxy_init_ := fun_mk (st := s_Proxy_init_) l_Proxy_init_ c_Proxy_init_ k_Proxy_init_
  have b_Proxy_init_ := F_Proxy_init_.binds (ps := ["self", "entry"]) fun _ _ _ _ _ _ us hl => match us, hl with | [_, _], _ => rfl
  have F_put_in := fun_mk (st := s_put_in) l_put_in c_put_in k_put_in
  have b_put_in := F_put_in.binds (ps := ["heap", "thing", "place"]) fun _ _ _ _ _ _ us hl => match us, hl with | [_, _, _], _ => rfl
  have F_CountedHeap_init_ := fun_mk (st := s_CountedHeap_init_) l_CountedHeap_init_ c_CountedHeap_init_ k_CountedHeap_init_
  have b_CountedHeap_init_ := F_CountedHeap_init_.binds (ps := ["self"]) fun _ _ _ _ _ _ us hl => match us, hl with | [_], _ => rfl
  have F_TracedHeap_init_ := fun_mk (st := s_TracedHeap_init_) l_TracedHeap_init_ c_TracedHeap_init_ k_TracedHeap_init_
  have b_TracedHeap_init_ := F_TracedHeap_init_.binds (ps := ["self"]) fun _ _ _ _ _ _ us hl => match us, hl with | [_], _ => rfl
  have F_PlainHeap_init_ := fun_mk (st := s_PlainHeap_init_) l_PlainHeap_init_ c_PlainHeap_init_ k_PlainHeap_init_
  have b_PlainHeap_init_ := F_PlainHeap_init_.binds (ps := ["self"]) fun _ _ _ _ _ _ us hl => match us, hl with | [_], _ => rfl
  have F_CountedHeap_thing := fun_mk (st := s_CountedHeap_thing) l_CountedHeap_thing c_CountedHeap_thing k_CountedHeap_thing
  have b_CountedHeap_thing := F_CountedHeap_thing.binds (ps := ["self", "reference"]) fun _ _ _ _ _ _ us hl => match us, hl with | [_, _], _ => rfl
  have F_CountedHeap_where := fun_mk (st := s_CountedHeap_where) l_CountedHeap_where c_CountedHeap_where k_CountedHeap_where
  have b_CountedHeap_where := F_CountedHeap_where.binds (ps := ["self", "serial"]) fun _ _ _ _ _ _ us hl => match us, hl with | [_, _], _ => rfl
  have F_CountedHeap_where_proxy := fun_mk (st := s_CountedHeap_where_proxy) l_CountedHeap_where_proxy c_CountedHeap_where_proxy k_CountedHeap_where_proxy
  have b_CountedHeap_where_proxy := F_CountedHeap_where_proxy.binds (ps := ["self", "entry"]) fun _ _ _ _ _ _ us hl => match us, hl with | [_, _], _ => rfl
  have F_TracedHeap_thing := fun_mk (st := s_TracedHeap_thing) l_TracedHeap_thing c_TracedHeap_thing k_TracedHeap_thing
  have b_TracedHeap_thing := F_TracedHeap_thing.binds (ps := ["self", "reference"]) fun _ _ _ _ _ _ us hl => match us, hl with | [_, _], _ => rfl
  have F_TracedHeap_where := fun_mk (st := s_TracedHeap_where) l_TracedHeap_where c_TracedHeap_where k_TracedHeap_where
  have b_TracedHeap_where := F_TracedHeap_where.binds (ps := ["self", "serial"]) fun _ _ _ _ _ _ us hl => match us, hl with | [_, _], _ => rfl
  have F_TracedHeap_where_proxy := fun_mk (st := s_TracedHeap_where_proxy) l_TracedHeap_where_proxy c_TracedHeap_where_proxy k_TracedHeap_where_proxy
  have b_TracedHeap_where_proxy := F_TracedHeap_where_proxy.binds (ps := ["self", "entry"]) fun _ _ _ _ _ _ us hl => match us, hl with | [_, _], _ => rfl
  have F_PlainHeap_thing := fun_mk (st := s_PlainHeap_thing) l_PlainHeap_thing c_PlainHeap_thing k_PlainHeap_thing
  have b_PlainHeap_thing := F_PlainHeap_thing.binds (ps := ["self", "reference"]) fun _ _ _ _ _ _ us hl => match us, hl with | [_, _], _ => rfl
  have F_PlainHeap_where := fun_mk (st := s_PlainHeap_where) l_PlainHeap_where c_PlainHeap_where k_PlainHeap_where
  have b_PlainHeap_where := F_PlainHeap_where.binds (ps := ["self", "serial"]) fun _ _ _ _ _ _ us hl => match us, hl with | [_, _], _ => rfl
  have F_PlainHeap_where_proxy := fun_mk (st := s_PlainHeap_where_proxy) l_PlainHeap_where_proxy c_PlainHeap_where_proxy k_PlainHeap_where_proxy
  have b_PlainHeap_where_proxy := F_PlainHeap_where_proxy.binds (ps := ["self", "entry"]) fun _ _ _ _ _ _ us hl => match us, hl with | [_, _], _ => rfl
  have F_CountedHeap_add := fun_mk (st := s_CountedHeap_add) l_CountedHeap_add c_CountedHeap_add k_CountedHeap_add
  have b_CountedHeap_add := F_CountedHeap_add.binds (ps := ["self", "thing"]) fun _ _ _ _ _ _ us hl => match us, hl with | [_, _], _ => rfl
  have F_CountedHeap_make_cell := fun_mk (st := s_CountedHeap_make_cell) l_CountedHeap_make_cell c_CountedHeap_make_cell k_CountedHeap_make_cell
  have b_CountedHeap_make_cell := F_CountedHeap_make_cell.binds (ps := ["self", "serial", "maker", "content"]) fun _ _ _ _ _ _ us hl => match us, hl with | [_, _, _, _], _ => rfl
  have F_CountedHeap_make_service := fun_mk (st := s_CountedHeap_make_service) l_CountedHeap_make_service c_CountedHeap_make_service k_CountedHeap_make_service
  have b_CountedHeap_make_service := F_CountedHeap_make_service.binds (ps := ["self", "serial", "maker", "body"]) fun _ _ _ _ _ _ us hl => match us, hl with | [_, _, _, _], _ => rfl
  have F_CountedHeap_make_proxy := fun_mk (st := s_CountedHeap_make_proxy) l_CountedHeap_make_proxy c_CountedHeap_make_proxy k_CountedHeap_make_proxy
  have b_CountedHeap_make_proxy := F_CountedHeap_make_proxy.binds (ps := ["self", "entry"]) fun _ _ _ _ _ _ us hl => match us, hl with | [_, _], _ => rfl
  have F_TracedHeap_new_place := fun_mk (st := s_TracedHeap_new_place) l_TracedHeap_new_place c_TracedHeap_new_place k_TracedHeap_new_place
  have b_TracedHeap_new_place := F_TracedHeap_new_place.binds (ps := ["self"]) fun _ _ _ _ _ _ us hl => match us, hl with | [_], _ => rfl
  have F_TracedHeap_make_cell := fun_mk (st := s_TracedHeap_make_cell) l_TracedHeap_make_cell c_TracedHeap_make_cell k_TracedHeap_make_cell
  have b_TracedHeap_make_cell := F_TracedHeap_make_cell.binds (ps := ["self", "serial", "maker", "content"]) fun _ _ _ _ _ _ us hl => match us, hl with | [_, _, _, _], _ => rfl
  have F_TracedHeap_make_service := fun_mk (st := s_TracedHeap_make_service) l_TracedHeap_make_service c_TracedHeap_make_service k_TracedHeap_make_service
  have b_TracedHeap_make_service := F_TracedHeap_make_service.binds (ps := ["self", "serial", "maker", "body"]) fun _ _ _ _ _ _ us hl => match us, hl with | [_, _, _, _], _ => rfl
  have F_TracedHeap_make_proxy := fun_mk (st := s_TracedHeap_make_proxy) l_TracedHeap_make_proxy c_TracedHeap_make_proxy k_TracedHeap_make_proxy
  have b_TracedHeap_make_proxy := F_TracedHeap_make_proxy.binds (ps := ["self", "entry"]) fun _ _ _ _ _ _ us hl => match us, hl with | [_, _], _ => rfl
  have F_PlainHeap_make_cell := fun_mk (st := s_PlainHeap_make_cell) l_PlainHeap_make_cell c_PlainHeap_make_cell k_PlainHeap_make_cell
  have b_PlainHeap_make_cell := F_PlainHeap_make_cell.binds (ps := ["self", "serial", "maker", "content"]) fun _ _ _ _ _ _ us hl => match us, hl with | [_, _, _, _], _ => rfl
  have F_PlainHeap_make_service := fun_mk (st := s_PlainHeap_make_service) l_PlainHeap_make_service c_PlainHeap_make_service k_PlainHeap_make_service
  have b_PlainHeap_make_service := F_PlainHeap_make_service.binds (ps := ["self", "serial", "maker", "body"]) fun _ _ _ _ _ _ us hl => match us, hl with | [_, _, _, _], _ => rfl
  have F_PlainHeap_make_proxy := fun_mk (st := s_PlainHeap_make_proxy) l_PlainHeap_make_proxy c_PlainHeap_make_proxy k_PlainHeap_make_proxy
  have b_PlainHeap_make_proxy := F_PlainHeap_make_proxy.binds (ps := ["self", "entry"]) fun _ _ _ _ _ _ us hl => match us, hl with | [_, _], _ => rfl
  have F_law_content := fun_mk (st := s_law_content) l_law_content c_law_content k_law_content
  have b_law_content := F_law_content.binds (ps := ["deck"]) fun _ _ _ _ _ _ us hl => match us, hl with | [_], _ => rfl
  have F_law_new := fun_mk (st := s_law_new) l_law_new c_law_new k_law_new
  have b_law_new := F_law_new.binds (ps := ["thing", "place", "references"]) fun _ _ _ _ _ _ us hl => match us, hl with | [_, _, _], _ => rfl
  have F_law_cell := fun_mk (st := s_law_cell) l_law_cell c_law_cell k_law_cell
  have b_law_cell := F_law_cell.binds (ps := ["thing", "serial", "maker", "content"]) fun _ _ _ _ _ _ us hl => match us, hl with | [_, _, _, _], _ => rfl
  have F_law_service := fun_mk (st := s_law_service) l_law_service c_law_service k_law_service
  have b_law_service := F_law_service.binds (ps := ["thing", "serial", "maker", "body"]) fun _ _ _ _ _ _ us hl => match us, hl with | [_, _, _, _], _ => rfl
  have F_law_proxy := fun_mk (st := s_law_proxy) l_law_proxy c_law_proxy k_law_proxy
  have b_law_proxy := F_law_proxy.binds (ps := ["thing", "entry"]) fun _ _ _ _ _ _ us hl => match us, hl with | [_, _], _ => rfl
  have F_is_reference := fun_mk (st := s_is_reference) l_is_reference c_is_reference k_is_reference
  have b_is_reference := F_is_reference.binds (ps := ["value"]) fun _ _ _ _ _ _ us hl => match us, hl with | [_], _ => rfl
  have F_law_heap := fun_mk (st := s_law_heap) l_law_heap c_law_heap k_law_heap
  have b_law_heap := F_law_heap.binds (ps := ["deck", "heap", "step", "references"]) fun _ _ _ _ _ _ us hl => match us, hl with | [_, _, _, _], _ => rfl
  have F_law := fun_mk (st := s_law) l_law c_law k_law
  have b_law := F_law.binds (ps := ["script"]) fun _ _ _ _ _ _ us hl => match us, hl with | [_], _ => rfl
  refine ⟨⟨f_law_take, (PySem.W.fnOf "_law_take" "_law_take" (defArgs s_law_take) (defBody s_law_take) (defScope s_law_take) .none kV_law_take dc_law_take pm_law_take an_law_take cd_law_take ct_law_take), f_law_deck, (PySem.W.fnOf "_law_deck" "_law_deck" (defArgs s_law_deck) (defBody s_law_deck) (defScope s_law_deck) .none kV_law_deck dc_law_deck pm_law_deck an_law_deck cd_law_deck ct_law_deck), f_law_whole, (PySem.W.fnOf "_law_whole" "_law_whole" (defArgs s_law_whole) (defBody s_law_whole) (defScope s_law_whole) .none kV_law_whole dc_law_whole pm_law_whole an_law_whole cd_law_whole ct_law_whole), f_Cell_init_, (PySem.W.fnOf "__init__" "Cell.__init__" (defArgs s_Cell_init_) (defBody s_Cell_init_) (defScope s_Cell_init_) .none kV_Cell_init_ dc_Cell_init_ pm_Cell_init_ an_Cell_init_ cd_Cell_init_ ct_Cell_init_), f_Service_init_, (PySem.W.fnOf "__init__" "Service.__init__" (defArgs s_Service_init_) (defBody s_Service_init_) (defScope s_Service_init_) .none kV_Service_init_ dc_Service_init_ pm_Service_init_ an_Service_init_ cd_Service_init_ ct_Service_init_), f_Proxy_init_, (PySem.W.fnOf "__init__" "Proxy.__init__" (defArgs s_Proxy_init_) (defBody s_Proxy_init_) (defScope s_Proxy_init_) .none kV_Proxy_init_ dc_Proxy_init_ pm_Proxy_init_ an_Proxy_init_ cd_Proxy_init_ ct_Proxy_init_), f_put_in, (PySem.W.fnOf "put_in" "put_in" (defArgs s_put_in) (defBody s_put_in) (defScope s_put_in) .none kV_put_in dc_put_in pm_put_in an_put_in cd_put_in ct_put_in), f_CountedHeap_init_, (PySem.W.fnOf "__init__" "CountedHeap.__init__" (defArgs s_CountedHeap_init_) (defBody s_CountedHeap_init_) (defScope s_CountedHeap_init_) .none kV_CountedHeap_init_ dc_CountedHeap_init_ pm_CountedHeap_init_ an_CountedHeap_init_ cd_CountedHeap_init_ ct_CountedHeap_init_), f_TracedHeap_init_, (PySem.W.fnOf "__init__" "TracedHeap.__init__" (defArgs s_TracedHeap_init_) (defBody s_TracedHeap_init_) (defScope s_TracedHeap_init_) .none kV_TracedHeap_init_ dc_TracedHeap_init_ pm_TracedHeap_init_ an_TracedHeap_init_ cd_TracedHeap_init_ ct_TracedHeap_init_), f_PlainHeap_init_, (PySem.W.fnOf "__init__" "PlainHeap.__init__" (defArgs s_PlainHeap_init_) (defBody s_PlainHeap_init_) (defScope s_PlainHeap_init_) .none kV_PlainHeap_init_ dc_PlainHeap_init_ pm_PlainHeap_init_ an_PlainHeap_init_ cd_PlainHeap_init_ ct_PlainHeap_init_), f_CountedHeap_thing, (PySem.W.fnOf "thing" "CountedHeap.thing" (defArgs s_CountedHeap_thing) (defBody s_CountedHeap_thing) (defScope s_CountedHeap_thing) .none kV_CountedHeap_thing dc_CountedHeap_thing pm_CountedHeap_thing an_CountedHeap_thing cd_CountedHeap_thing ct_CountedHeap_thing), f_CountedHeap_where, (PySem.W.fnOf "where" "CountedHeap.where" (defArgs s_CountedHeap_where) (defBody s_CountedHeap_where) (defScope s_CountedHeap_where) .none kV_CountedHeap_where dc_CountedHeap_where pm_CountedHeap_where an_CountedHeap_where cd_CountedHeap_where ct_CountedHeap_where), f_CountedHeap_where_proxy, (PySem.W.fnOf "where_proxy" "CountedHeap.where_proxy" (defArgs s_CountedHeap_where_proxy) (defBody s_CountedHeap_where_proxy) (defScope s_CountedHeap_where_proxy) .none kV_CountedHeap_where_proxy dc_CountedHeap_where_proxy pm_CountedHeap_where_proxy an_CountedHeap_where_proxy cd_CountedHeap_where_proxy ct_CountedHeap_where_proxy), f_TracedHeap_thing, (PySem.W.fnOf "thing" "TracedHeap.thing" (defArgs s_TracedHeap_thing) (defBody s_TracedHeap_thing) (defScope s_TracedHeap_thing) .none kV_TracedHeap_thing dc_TracedHeap_thing pm_TracedHeap_thing an_TracedHeap_thing cd_TracedHeap_thing ct_TracedHeap_thing), f_TracedHeap_where, (PySem.W.fnOf "where" "TracedHeap.where" (defArgs s_TracedHeap_where) (defBody s_TracedHeap_where) (defScope s_TracedHeap_where) .none kV_TracedHeap_where dc_TracedHeap_where pm_TracedHeap_where an_TracedHeap_where cd_TracedHeap_where ct_TracedHeap_where), f_TracedHeap_where_proxy, (PySem.W.fnOf "where_proxy" "TracedHeap.where_proxy" (defArgs s_TracedHeap_where_proxy) (defBody s_TracedHeap_where_proxy) (defScope s_TracedHeap_where_proxy) .none kV_TracedHeap_where_proxy dc_TracedHeap_where_proxy pm_TracedHeap_where_proxy an_TracedHeap_where_proxy cd_TracedHeap_where_proxy ct_TracedHeap_where_proxy), f_PlainHeap_thing, (PySem.W.fnOf "thing" "PlainHeap.thing" (defArgs s_PlainHeap_thing) (defBody s_PlainHeap_thing) (defScope s_PlainHeap_thing) .none kV_PlainHeap_thing dc_PlainHeap_thing pm_PlainHeap_thing an_PlainHeap_thing cd_PlainHeap_thing ct_PlainHeap_thing), f_PlainHeap_where, (PySem.W.fnOf "where" "PlainHeap.where" (defArgs s_PlainHeap_where) (defBody s_PlainHeap_where) (defScope s_PlainHeap_where) .none kV_PlainHeap_where dc_PlainHeap_where pm_PlainHeap_where an_PlainHeap_where cd_PlainHeap_where ct_PlainHeap_where), f_PlainHeap_where_proxy, (PySem.W.fnOf "where_proxy" "PlainHeap.where_proxy" (defArgs s_PlainHeap_where_proxy) (defBody s_PlainHeap_where_proxy) (defScope s_PlainHeap_where_proxy) .none kV_PlainHeap_where_proxy dc_PlainHeap_where_proxy pm_PlainHeap_where_proxy an_PlainHeap_where_proxy cd_PlainHeap_where_proxy ct_PlainHeap_where_proxy), f_CountedHeap_add, (PySem.W.fnOf "_add" "CountedHeap._add" (defArgs s_CountedHeap_add) (defBody s_CountedHeap_add) (defScope s_CountedHeap_add) .none kV_CountedHeap_add dc_CountedHeap_add pm_CountedHeap_add an_CountedHeap_add cd_CountedHeap_add ct_CountedHeap_add), f_CountedHeap_make_cell, (PySem.W.fnOf "make_cell" "CountedHeap.make_cell" (defArgs s_CountedHeap_make_cell) (defBody s_CountedHeap_make_cell) (defScope s_CountedHeap_make_cell) .none kV_CountedHeap_make_cell dc_CountedHeap_make_cell pm_CountedHeap_make_cell an_CountedHeap_make_cell cd_CountedHeap_make_cell ct_CountedHeap_make_cell), f_CountedHeap_make_service, (PySem.W.fnOf "make_service" "CountedHeap.make_service" (defArgs s_CountedHeap_make_service) (defBody s_CountedHeap_make_service) (defScope s_CountedHeap_make_service) .none kV_CountedHeap_make_service dc_CountedHeap_make_service pm_CountedHeap_make_service an_CountedHeap_make_service cd_CountedHeap_make_service ct_CountedHeap_make_service), f_CountedHeap_make_proxy, (PySem.W.fnOf "make_proxy" "CountedHeap.make_proxy" (defArgs s_CountedHeap_make_proxy) (defBody s_CountedHeap_make_proxy) (defScope s_CountedHeap_make_proxy) .none kV_CountedHeap_make_proxy dc_CountedHeap_make_proxy pm_CountedHeap_make_proxy an_CountedHeap_make_proxy cd_CountedHeap_make_proxy ct_CountedHeap_make_proxy), f_TracedHeap_new_place, (PySem.W.fnOf "new_place" "TracedHeap.new_place" (defArgs s_TracedHeap_new_place) (defBody s_TracedHeap_new_place) (defScope s_TracedHeap_new_place) .none kV_TracedHeap_new_place dc_TracedHeap_new_place pm_TracedHeap_new_place an_TracedHeap_new_place cd_TracedHeap_new_place ct_TracedHeap_new_place), f_TracedHeap_make_cell, (PySem.W.fnOf "make_cell" "TracedHeap.make_cell" (defArgs s_TracedHeap_make_cell) (defBody s_TracedHeap_make_cell) (defScope s_TracedHeap_make_cell) .none kV_TracedHeap_make_cell dc_TracedHeap_make_cell pm_TracedHeap_make_cell an_TracedHeap_make_cell cd_TracedHeap_make_cell ct_TracedHeap_make_cell), f_TracedHeap_make_service, (PySem.W.fnOf "make_service" "TracedHeap.make_service" (defArgs s_TracedHeap_make_service) (defBody s_TracedHeap_make_service) (defScope s_TracedHeap_make_service) .none kV_TracedHeap_make_service dc_TracedHeap_make_service pm_TracedHeap_make_service an_TracedHeap_make_service cd_TracedHeap_make_service ct_TracedHeap_make_service), f_TracedHeap_make_proxy, (PySem.W.fnOf "make_proxy" "TracedHeap.make_proxy" (defArgs s_TracedHeap_make_proxy) (defBody s_TracedHeap_make_proxy) (defScope s_TracedHeap_make_proxy) .none kV_TracedHeap_make_proxy dc_TracedHeap_make_proxy pm_TracedHeap_make_proxy an_TracedHeap_make_proxy cd_TracedHeap_make_proxy ct_TracedHeap_make_proxy), f_PlainHeap_make_cell, (PySem.W.fnOf "make_cell" "PlainHeap.make_cell" (defArgs s_PlainHeap_make_cell) (defBody s_PlainHeap_make_cell) (defScope s_PlainHeap_make_cell) .none kV_PlainHeap_make_cell dc_PlainHeap_make_cell pm_PlainHeap_make_cell an_PlainHeap_make_cell cd_PlainHeap_make_cell ct_PlainHeap_make_cell), f_PlainHeap_make_service, (PySem.W.fnOf "make_service" "PlainHeap.make_service" (defArgs s_PlainHeap_make_service) (defBody s_PlainHeap_make_service) (defScope s_PlainHeap_make_service) .none kV_PlainHeap_make_service dc_PlainHeap_make_service pm_PlainHeap_make_service an_PlainHeap_make_service cd_PlainHeap_make_service ct_PlainHeap_make_service), f_PlainHeap_make_proxy, (PySem.W.fnOf "make_proxy" "PlainHeap.make_proxy" (defArgs s_PlainHeap_make_proxy) (defBody s_PlainHeap_make_proxy) (defScope s_PlainHeap_make_proxy) .none kV_PlainHeap_make_proxy dc_PlainHeap_make_proxy pm_PlainHeap_make_proxy an_PlainHeap_make_proxy cd_PlainHeap_make_proxy ct_PlainHeap_make_proxy), f_law_content, (PySem.W.fnOf "_law_content" "_law_content" (defArgs s_law_content) (defBody s_law_content) (defScope s_law_content) .none kV_law_content dc_law_content pm_law_content an_law_content cd_law_content ct_law_content), f_law_new, (PySem.W.fnOf "_law_new" "_law_new" (defArgs s_law_new) (defBody s_law_new) (defScope s_law_new) .none kV_law_new dc_law_new pm_law_new an_law_new cd_law_new ct_law_new), f_law_cell, (PySem.W.fnOf "_law_cell" "_law_cell" (defArgs s_law_cell) (defBody s_law_cell) (defScope s_law_cell) .none kV_law_cell dc_law_cell pm_law_cell an_law_cell cd_law_cell ct_law_cell), f_law_service, (PySem.W.fnOf "_law_service" "_law_service" (defArgs s_law_service) (defBody s_law_service) (defScope s_law_service) .none kV_law_service dc_law_service pm_law_service an_law_service cd_law_service ct_law_service), f_law_proxy, (PySem.W.fnOf "_law_proxy" "_law_proxy" (defArgs s_law_proxy) (defBody s_law_proxy) (defScope s_law_proxy) .none kV_law_proxy dc_law_proxy pm_law_proxy an_law_proxy cd_law_proxy ct_law_proxy), f_is_reference, (PySem.W.fnOf "is_reference" "is_reference" (defArgs s_is_reference) (defBody s_is_reference) (defScope s_is_reference) .none kV_is_reference dc_is_reference pm_is_reference an_is_reference cd_is_reference ct_is_reference), f_law_heap, (PySem.W.fnOf "_law_heap" "_law_heap" (defArgs s_law_heap) (defBody s_law_heap) (defScope s_law_heap) .none kV_law_heap dc_law_heap pm_law_heap an_law_heap cd_law_heap ct_law_heap), fa, (PySem.W.fnOf "law" "law" (defArgs s_law) (defBody s_law) (defScope s_law) .none kV_law dc_law pm_law an_law cd_law ct_law), c_Cell, c_CountedHeap, c_PlainHeap, c_Proxy, c_Service, c_TracedHeap⟩, ?_, rfl, fun s v => .of_eq rfl⟩
  exact {
    F_law_take := F_law_take
    b_law_take := b_law_take
    m_law_take := PySem.W.mg_of X G a_law_take
    F_law_deck := F_law_deck
    b_law_deck := b_law_deck
    m_law_deck := PySem.W.mg_of X G a_law_deck
    F_law_whole := F_law_whole
    b_law_whole := b_law_whole
    m_law_whole := PySem.W.mg_of X G a_law_whole
    F_Cell_init_ := F_Cell_init_
    b_Cell_init_ := b_Cell_init_
    F_Service_init_ := F_Service_init_
    b_Service_init_ := b_Service_init_
    F_Proxy_init_ := F_Proxy_init_
    b_Proxy_init_ := b_Proxy_init_
    F_put_in := F_put_in
    b_put_in := b_put_in
    m_put_in := PySem.W.mg_of X G a_put_in
    F_CountedHeap_init_ := F_CountedHeap_init_
    b_CountedHeap_init_ := b_CountedHeap_init_
    F_TracedHeap_init_ := F_TracedHeap_init_
    b_TracedHeap_init_ := b_TracedHeap_init_
    F_PlainHeap_init_ := F_PlainHeap_init_
    b_PlainHeap_init_ := b_PlainHeap_init_
    F_CountedHeap_thing := F_CountedHeap_thing
    b_CountedHeap_thing := b_CountedHeap_thing
    me_CountedHeap_thing := ⟨a_CountedHeap_thing, i_CountedHeap_thing, k_CountedHeap_thing⟩
    F_CountedHeap_where := F_CountedHeap_where
    b_CountedHeap_where := b_CountedHeap_where
    me_CountedHeap_where := ⟨a_CountedHeap_where, i_CountedHeap_where, k_CountedHeap_where⟩
    F_CountedHeap_where_proxy := F_CountedHeap_where_proxy
    b_CountedHeap_where_proxy := b_CountedHeap_where_proxy
    me_CountedHeap_where_proxy := ⟨a_CountedHeap_where_proxy, i_CountedHeap_where_proxy, k_CountedHeap_where_proxy⟩
    F_TracedHeap_thing := F_TracedHeap_thing
    b_TracedHeap_thing := b_TracedHeap_thing
    me_TracedHeap_thing := ⟨a_TracedHeap_thing, i_TracedHeap_thing, k_TracedHeap_thing⟩
    F_TracedHeap_where := F_TracedHeap_where
    b_TracedHeap_where := b_TracedHeap_where
    me_TracedHeap_where := ⟨a_TracedHeap_where, i_TracedHeap_where, k_TracedHeap_where⟩
    F_TracedHeap_where_proxy := F_TracedHeap_where_proxy
    b_TracedHeap_where_proxy := b_TracedHeap_where_proxy
    me_TracedHeap_where_proxy := ⟨a_TracedHeap_where_proxy, i_TracedHeap_where_proxy, k_TracedHeap_where_proxy⟩
    F_PlainHeap_thing := F_PlainHeap_thing
    b_PlainHeap_thing := b_PlainHeap_thing
    me_PlainHeap_thing := ⟨a_PlainHeap_thing, i_PlainHeap_thing, k_PlainHeap_thing⟩
    F_PlainHeap_where := F_PlainHeap_where
    b_PlainHeap_where := b_PlainHeap_where
    me_PlainHeap_where := ⟨a_PlainHeap_where, i_PlainHeap_where, k_PlainHeap_where⟩
    F_PlainHeap_where_proxy := F_PlainHeap_where_proxy
    b_PlainHeap_where_proxy := b_PlainHeap_where_proxy
    me_PlainHeap_where_proxy := ⟨a_PlainHeap_where_proxy, i_PlainHeap_where_proxy, k_PlainHeap_where_proxy⟩
    F_CountedHeap_add := F_CountedHeap_add
    b_CountedHeap_add := b_CountedHeap_add
    me_CountedHeap_add := ⟨a_CountedHeap_add, i_CountedHeap_add, k_CountedHeap_add⟩
    F_CountedHeap_make_cell := F_CountedHeap_make_cell
    b_CountedHeap_make_cell := b_CountedHeap_make_cell
    me_CountedHeap_make_cell := ⟨a_CountedHeap_make_cell, i_CountedHeap_make_cell, k_CountedHeap_make_cell⟩
    F_CountedHeap_make_service := F_CountedHeap_make_service
    b_CountedHeap_make_service := b_CountedHeap_make_service
    me_CountedHeap_make_service := ⟨a_CountedHeap_make_service, i_CountedHeap_make_service, k_CountedHeap_make_service⟩
    F_CountedHeap_make_proxy := F_CountedHeap_make_proxy
    b_CountedHeap_make_proxy := b_CountedHeap_make_proxy
    me_CountedHeap_make_proxy := ⟨a_CountedHeap_make_proxy, i_CountedHeap_make_proxy, k_CountedHeap_make_proxy⟩
    F_TracedHeap_new_place := F_TracedHeap_new_place
    b_TracedHeap_new_place := b_TracedHeap_new_place
    me_TracedHeap_new_place := ⟨a_TracedHeap_new_place, i_TracedHeap_new_place, k_TracedHeap_new_place⟩
    F_TracedHeap_make_cell := F_TracedHeap_make_cell
    b_TracedHeap_make_cell := b_TracedHeap_make_cell
    me_TracedHeap_make_cell := ⟨a_TracedHeap_make_cell, i_TracedHeap_make_cell, k_TracedHeap_make_cell⟩
    F_TracedHeap_make_service := F_TracedHeap_make_service
    b_TracedHeap_make_service := b_TracedHeap_make_service
    me_TracedHeap_make_service := ⟨a_TracedHeap_make_service, i_TracedHeap_make_service, k_TracedHeap_make_service⟩
    F_TracedHeap_make_proxy := F_TracedHeap_make_proxy
    b_TracedHeap_make_proxy := b_TracedHeap_make_proxy
    me_TracedHeap_make_proxy := ⟨a_TracedHeap_make_proxy, i_TracedHeap_make_proxy, k_TracedHeap_make_proxy⟩
    F_PlainHeap_make_cell := F_PlainHeap_make_cell
    b_PlainHeap_make_cell := b_PlainHeap_make_cell
    me_PlainHeap_make_cell := ⟨a_PlainHeap_make_cell, i_PlainHeap_make_cell, k_PlainHeap_make_cell⟩
    F_PlainHeap_make_service := F_PlainHeap_make_service
    b_PlainHeap_make_service := b_PlainHeap_make_service
    me_PlainHeap_make_service := ⟨a_PlainHeap_make_service, i_PlainHeap_make_service, k_PlainHeap_make_service⟩
    F_PlainHeap_make_proxy := F_PlainHeap_make_proxy
    b_PlainHeap_make_proxy := b_PlainHeap_make_proxy
    me_PlainHeap_make_proxy := ⟨a_PlainHeap_make_proxy, i_PlainHeap_make_proxy, k_PlainHeap_make_proxy⟩
    F_law_content := F_law_content
    b_law_content := b_law_content
    m_law_content := PySem.W.mg_of X G a_law_content
    F_law_new := F_law_new
    b_law_new := b_law_new
    m_law_new := PySem.W.mg_of X G a_law_new
    F_law_cell := F_law_cell
    b_law_cell := b_law_cell
    m_law_cell := PySem.W.mg_of X G a_law_cell
    F_law_service := F_law_service
    b_law_service := b_law_service
    m_law_service := PySem.W.mg_of X G a_law_service
    F_law_proxy := F_law_proxy
    b_law_proxy := b_law_proxy
    m_law_proxy := PySem.W.mg_of X G a_law_proxy
    F_is_reference := F_is_reference
    b_is_reference := b_is_reference
    m_is_reference := PySem.W.mg_of X G a_is_reference
    F_law_heap := F_law_heap
    b_law_heap := b_law_heap
    m_law_heap := PySem.W.mg_of X G a_law_heap
    F_law := F_law
    b_law := b_law
    m_law := PySem.W.mg_of X G a_law
    cl_Cell := ⟨pg_Cell, hd_Cell, po_Cell, sa_Cell⟩
    mg_Cell := PySem.W.mg_of X G A_Cell
    mk_Cell := ⟨mk_Cell, a_Cell_init_, i_Cell_init_, kc_Cell⟩
    n_Cell_content := n_Cell_content
    n_Cell_link := n_Cell_link
    n_Cell_maker := n_Cell_maker
    n_Cell_place := n_Cell_place
    n_Cell_references := n_Cell_references
    n_Cell_serial := n_Cell_serial
    cl_CountedHeap := ⟨pg_CountedHeap, hd_CountedHeap, po_CountedHeap, sa_CountedHeap⟩
    mg_CountedHeap := PySem.W.mg_of X G A_CountedHeap
    mk_CountedHeap := ⟨mk_CountedHeap, a_CountedHeap_init_, i_CountedHeap_init_, kc_CountedHeap⟩
    n_CountedHeap_places := n_CountedHeap_places
    n_CountedHeap_proxies := n_CountedHeap_proxies
    n_CountedHeap_serials := n_CountedHeap_serials
    n_CountedHeap_vacant := n_CountedHeap_vacant
    cl_PlainHeap := ⟨pg_PlainHeap, hd_PlainHeap, po_PlainHeap, sa_PlainHeap⟩
    mg_PlainHeap := PySem.W.mg_of X G A_PlainHeap
    mk_PlainHeap := ⟨mk_PlainHeap, a_PlainHeap_init_, i_PlainHeap_init_, kc_PlainHeap⟩
    n_PlainHeap_places := n_PlainHeap_places
    n_PlainHeap_proxies := n_PlainHeap_proxies
    n_PlainHeap_serials := n_PlainHeap_serials
    cl_Proxy := ⟨pg_Proxy, hd_Proxy, po_Proxy, sa_Proxy⟩
    mg_Proxy := PySem.W.mg_of X G A_Proxy
    mk_Proxy := ⟨mk_Proxy, a_Proxy_init_, i_Proxy_init_, kc_Proxy⟩
    n_Proxy_entry := n_Proxy_entry
    n_Proxy_link := n_Proxy_link
    n_Proxy_maker := n_Proxy_maker
    n_Proxy_place := n_Proxy_place
    n_Proxy_references := n_Proxy_references
    n_Proxy_serial := n_Proxy_serial
    cl_Service := ⟨pg_Service, hd_Service, po_Service, sa_Service⟩
    mg_Service := PySem.W.mg_of X G A_Service
    mk_Service := ⟨mk_Service, a_Service_init_, i_Service_init_, kc_Service⟩
    n_Service_body := n_Service_body
    n_Service_link := n_Service_link
    n_Service_maker := n_Service_maker
    n_Service_place := n_Service_place
    n_Service_references := n_Service_references
    n_Service_serial := n_Service_serial
    cl_TracedHeap := ⟨pg_TracedHeap, hd_TracedHeap, po_TracedHeap, sa_TracedHeap⟩
    mg_TracedHeap := PySem.W.mg_of X G A_TracedHeap
    mk_TracedHeap := ⟨mk_TracedHeap, a_TracedHeap_init_, i_TracedHeap_init_, kc_TracedHeap⟩
    n_TracedHeap_next_index := n_TracedHeap_next_index
    n_TracedHeap_places := n_TracedHeap_places
    n_TracedHeap_proxies := n_TracedHeap_proxies
    n_TracedHeap_serials := n_TracedHeap_serials
    n_TracedHeap_space := n_TracedHeap_space
    kt_Cell_Cell := kt_Cell_Cell
    kt_Cell_Service := kt_Cell_Service
    kt_Cell_Proxy := kt_Cell_Proxy
    kt_Service_Cell := kt_Service_Cell
    kt_Service_Service := kt_Service_Service
    kt_Service_Proxy := kt_Service_Proxy
    kt_Proxy_Cell := kt_Proxy_Cell
    kt_Proxy_Service := kt_Proxy_Service
    kt_Proxy_Proxy := kt_Proxy_Proxy
    is_Cell := is_Cell
    io_Cell := io_Cell
    is_Service := is_Service
    io_Service := io_Service
    is_Proxy := is_Proxy
    io_Proxy := io_Proxy
    is_get := is_get
    is_tk := is_tk
    z_abs := PySem.W.mg_none_of X G z_abs
    z_bool := PySem.W.mg_none_of X G z_bool
    z_int := PySem.W.mg_none_of X G z_int
    z_isinstance := PySem.W.mg_none_of X G z_isinstance
    z_len := PySem.W.mg_none_of X G z_len
    z_range := PySem.W.mg_none_of X G z_range
  }
theorem walk {l : PySem.W.OpenLaw} {q : Program} {loose : List Str} {XP : (Str → Option Value) → Heap → Prop} {YP : World → Heap → Prop} {d : DefRec} {K : Params → PySem.W.Frag} (hn : l.most = some 63) (hdf : d.params.defaults = [])
    (hY : ∀ (w : World) (h : Heap), YP w h → (K w.params).In h)
    (F : ∀ (w : World) (mg : Str → Option Value) (fa : Addr) (h : Heap), (K w.params).In h → h.Ns mainGlobals mg → mg d.name = some (.ref fa) →
      ∃ ad : Ad, Txt (K w.params) mg ad ∧ fa = ad.a_law ∧ ∀ (s : Shared) (v : Value), BindsTo s ad.d_law ⟨[v], []⟩ [("script", v)]) :
    PySem.W.WalkO q loose XP YP l.row.toRowW d [] (fun f vs => PySem.call f vs) := by
  refine L2.walk_of (n := 63) (k := 5) (x := "script") (CX := fun _ => CX0) (sp := fun w => spLaw (K w.params)) hn (by decide) hdf ⟨rfl, by decide, by decide⟩ hY (fun w mg fa h KX G hmg => ?_) (fun _ _ a ns hl _ hS => ⟨a, ns, rfl, hS, hl, fun _ => rfl⟩) fun _ _ _ _ _ z => z
  obtain ⟨ad, T, rfl, hb⟩ := F w mg fa h KX G hmg
  exact ⟨ad.d_law, hb, fun base _ _ => ok_law T⟩
end Toy
open PySem PySem.W PyProof.Rows
set_option maxRecDepth 100000 in
set_option maxHeartbeats 0 in
theorem PySem.Challenge.cw_surebridge_k40_things_at_first_holds : PySem.Challenge.rw_surebridge_k40_things_at_first.Holds := by
  w_on; o_law; k_head; (case hw => w_witness2)
  k_fill
  refine Toy.walk (l := PySem.Challenge.rw_surebridge_k40_things_at_first) rfl rfl (fun w h Y => PySem.W.kIn_of Y) ?F
  case F =>
    intro w mg fa h KX G hmg
    refine' Toy.all_mk KX G hmg ?A_Cell ?A_CountedHeap ?A_PlainHeap ?A_Proxy ?A_Service ?A_TracedHeap ?a_law_take ?l_law_take ?c_law_take ?k_law_take ?a_law_deck ?l_law_deck ?c_law_deck ?k_law_deck ?a_law_whole ?l_law_whole ?c_law_whole ?k_law_whole ?a_Cell_init_ ?i_Cell_init_ ?l_Cell_init_ ?c_Cell_init_ ?k_Cell_init_ ?a_Service_init_ ?i_Service_init_ ?l_Service_init_ ?c_Service_init_ ?k_Service_init_ ?a_Proxy_init_ ?i_Proxy_init_ ?l_Proxy_init_ ?c_Proxy_init_ ?k_Proxy_init_ ?a_put_in ?l_put_in ?c_put_in ?k_put_in ?a_CountedHeap_init_ ?i_CountedHeap_init_ ?l_CountedHeap_init_ ?c_CountedHeap_init_ ?k_CountedHeap_init_ ?a_TracedHeap_init_ ?i_TracedHeap_init_ ?l_TracedHeap_init_ ?c_TracedHeap_init_ ?k_TracedHeap_init_ ?a_PlainHeap_init_ ?i_PlainHeap_init_ ?l_PlainHeap_init_ ?c_PlainHeap_init_ ?k_PlainHeap_init_ ?a_CountedHeap_thing ?i_CountedHeap_thing ?l_CountedHeap_thing ?c_CountedHeap_thing ?k_CountedHeap_thing ?a_CountedHeap_where ?i_CountedHeap_where ?l_CountedHeap_where ?c_CountedHeap_where ?k_CountedHeap_where ?a_CountedHeap_where_proxy ?i_CountedHeap_where_proxy ?l_CountedHeap_where_proxy ?c_CountedHeap_where_proxy ?k_CountedHeap_where_proxy ?a_TracedHeap_thing ?i_TracedHeap_thing ?l_TracedHeap_thing ?c_TracedHeap_thing ?k_TracedHeap_thing ?a_TracedHeap_where ?i_TracedHeap_where ?l_TracedHeap_where ?c_TracedHeap_where ?k_TracedHeap_where ?a_TracedHeap_where_proxy ?i_TracedHeap_where_proxy ?l_TracedHeap_where_proxy ?c_TracedHeap_where_proxy ?k_TracedHeap_where_proxy ?a_PlainHeap_thing ?i_PlainHeap_thing ?l_PlainHeap_thing ?c_PlainHeap_thing ?k_PlainHeap_thing ?a_PlainHeap_where ?i_PlainHeap_where ?l_PlainHeap_where ?c_PlainHeap_where ?k_PlainHeap_where ?a_PlainHeap_where_proxy ?i_PlainHeap_where_proxy ?l_PlainHeap_where_proxy ?c_PlainHeap_where_proxy ?k_PlainHeap_where_proxy ?a_CountedHeap_add ?i_CountedHeap_add ?l_CountedHeap_add ?c_CountedHeap_add ?k_CountedHeap_add ?a_CountedHeap_make_cell ?i_CountedHeap_make_cell ?l_CountedHeap_make_cell ?c_CountedHeap_make_cell ?k_CountedHeap_make_cell ?a_CountedHeap_make_service ?i_CountedHeap_make_service ?l_CountedHeap_make_service ?c_CountedHeap_make_service ?k_CountedHeap_make_service ?a_CountedHeap_make_proxy ?i_CountedHeap_make_proxy ?l_CountedHeap_make_proxy ?c_CountedHeap_make_proxy ?k_CountedHeap_make_proxy ?a_TracedHeap_new_place ?i_TracedHeap_new_place ?l_TracedHeap_new_place ?c_TracedHeap_new_place ?k_TracedHeap_new_place ?a_TracedHeap_make_cell ?i_TracedHeap_make_cell ?l_TracedHeap_make_cell ?c_TracedHeap_make_cell ?k_TracedHeap_make_cell ?a_TracedHeap_make_service ?i_TracedHeap_make_service ?l_TracedHeap_make_service ?c_TracedHeap_make_service ?k_TracedHeap_make_service ?a_TracedHeap_make_proxy ?i_TracedHeap_make_proxy ?l_TracedHeap_make_proxy ?c_TracedHeap_make_proxy ?k_TracedHeap_make_proxy ?a_PlainHeap_make_cell ?i_PlainHeap_make_cell ?l_PlainHeap_make_cell ?c_PlainHeap_make_cell ?k_PlainHeap_make_cell ?a_PlainHeap_make_service ?i_PlainHeap_make_service ?l_PlainHeap_make_service ?c_PlainHeap_make_service ?k_PlainHeap_make_service ?a_PlainHeap_make_proxy ?i_PlainHeap_make_proxy ?l_PlainHeap_make_proxy ?c_PlainHeap_make_proxy ?k_PlainHeap_make_proxy ?a_law_content ?l_law_content ?c_law_content ?k_law_content ?a_law_new ?l_law_new ?c_law_new ?k_law_new ?a_law_cell ?l_law_cell ?c_law_cell ?k_law_cell ?a_law_service ?l_law_service ?c_law_service ?k_law_service ?a_law_proxy ?l_law_proxy ?c_law_proxy ?k_law_proxy ?a_is_reference ?l_is_reference ?c_is_reference ?k_is_reference ?a_law_heap ?l_law_heap ?c_law_heap ?k_law_heap ?a_law ?l_law ?c_law ?k_law ?pg_Cell ?hd_Cell ?po_Cell ?sa_Cell ?mk_Cell ?kc_Cell ?n_Cell_content ?n_Cell_link ?n_Cell_maker ?n_Cell_place ?n_Cell_references ?n_Cell_serial ?pg_CountedHeap ?hd_CountedHeap ?po_CountedHeap ?sa_CountedHeap ?mk_CountedHeap ?kc_CountedHeap ?n_CountedHeap_places ?n_CountedHeap_proxies ?n_CountedHeap_serials ?n_CountedHeap_vacant ?pg_PlainHeap ?hd_PlainHeap ?po_PlainHeap ?sa_PlainHeap ?mk_PlainHeap ?kc_PlainHeap ?n_PlainHeap_places ?n_PlainHeap_proxies ?n_PlainHeap_serials ?pg_Proxy ?hd_Proxy ?po_Proxy ?sa_Proxy ?mk_Proxy ?kc_Proxy ?n_Proxy_entry ?n_Proxy_link ?n_Proxy_maker ?n_Proxy_place ?n_Proxy_references ?n_Proxy_serial ?pg_Service ?hd_Service ?po_Service ?sa_Service ?mk_Service ?kc_Service ?n_Service_body ?n_Service_link ?n_Service_maker ?n_Service_place ?n_Service_references ?n_Service_serial ?pg_TracedHeap ?hd_TracedHeap ?po_TracedHeap ?sa_TracedHeap ?mk_TracedHeap ?kc_TracedHeap ?n_TracedHeap_next_index ?n_TracedHeap_places ?n_TracedHeap_proxies ?n_TracedHeap_serials ?n_TracedHeap_space ?kt_Cell_Cell ?kt_Cell_Service ?kt_Cell_Proxy ?kt_Service_Cell ?kt_Service_Service ?kt_Service_Proxy ?kt_Proxy_Cell ?kt_Proxy_Service ?kt_Proxy_Proxy ?is_Cell ?io_Cell ?is_Service ?io_Service ?is_Proxy ?io_Proxy ?is_get ?is_tk ?z_abs ?z_bool ?z_int ?z_isinstance ?z_len ?z_range
    (case A_Cell => k_is)
    (case A_CountedHeap => k_is)
    (case A_PlainHeap => k_is)
    (case A_Proxy => k_is)
    (case A_Service => k_is)
    (case A_TracedHeap => k_is)
    (case a_law_take => k_is)
    (case l_law_take => k_is)
    (case c_law_take => k_is)
    (case k_law_take => k_is)
    (case a_law_deck => k_is)
    (case l_law_deck => k_is)
    (case c_law_deck => k_is)
    (case k_law_deck => k_is)
    (case a_law_whole => k_is)
    (case l_law_whole => k_is)
    (case c_law_whole => k_is)
    (case k_law_whole => k_is)
    (case a_Cell_init_ => k_is)
    (case i_Cell_init_ => k_is)
    (case l_Cell_init_ => k_is)
    (case c_Cell_init_ => k_is)
    (case k_Cell_init_ => k_is)
    (case a_Service_init_ => k_is)
    (case i_Service_init_ => k_is)
    (case l_Service_init_ => k_is)
    (case c_Service_init_ => k_is)
    (case k_Service_init_ => k_is)
    (case a_Proxy_init_ => k_is)
    (case i_Proxy_init_ => k_is)
    (case l_Proxy_init_ => k_is)
    (case c_Proxy_init_ => k_is)
    (case k_Proxy_init_ => k_is)
    (case a_put_in => k_is)
    (case l_put_in => k_is)
    (case c_put_in => k_is)
    (case k_put_in => k_is)
    (case a_CountedHeap_init_ => k_is)
    (case i_CountedHeap_init_ => k_is)
    (case l_CountedHeap_init_ => k_is)
    (case c_CountedHeap_init_ => k_is)
    (case k_CountedHeap_init_ => k_is)
    (case a_TracedHeap_init_ => k_is)
    (case i_TracedHeap_init_ => k_is)
    (case l_TracedHeap_init_ => k_is)
    (case c_TracedHeap_init_ => k_is)
    (case k_TracedHeap_init_ => k_is)
    (case a_PlainHeap_init_ => k_is)
    (case i_PlainHeap_init_ => k_is)
    (case l_PlainHeap_init_ => k_is)
    (case c_PlainHeap_init_ => k_is)
    (case k_PlainHeap_init_ => k_is)
    (case a_CountedHeap_thing => k_is)
    (case i_CountedHeap_thing => k_is)
    (case l_CountedHeap_thing => k_is)
    (case c_CountedHeap_thing => k_is)
    (case k_CountedHeap_thing => k_is)
    (case a_CountedHeap_where => k_is)
    (case i_CountedHeap_where => k_is)
    (case l_CountedHeap_where => k_is)
    (case c_CountedHeap_where => k_is)
    (case k_CountedHeap_where => k_is)
    (case a_CountedHeap_where_proxy => k_is)
    (case i_CountedHeap_where_proxy => k_is)
    (case l_CountedHeap_where_proxy => k_is)
    (case c_CountedHeap_where_proxy => k_is)
    (case k_CountedHeap_where_proxy => k_is)
    (case a_TracedHeap_thing => k_is)
    (case i_TracedHeap_thing => k_is)
    (case l_TracedHeap_thing => k_is)
    (case c_TracedHeap_thing => k_is)
    (case k_TracedHeap_thing => k_is)
    (case a_TracedHeap_where => k_is)
    (case i_TracedHeap_where => k_is)
    (case l_TracedHeap_where => k_is)
    (case c_TracedHeap_where => k_is)
    (case k_TracedHeap_where => k_is)
    (case a_TracedHeap_where_proxy => k_is)
    (case i_TracedHeap_where_proxy => k_is)
    (case l_TracedHeap_where_proxy => k_is)
    (case c_TracedHeap_where_proxy => k_is)
    (case k_TracedHeap_where_proxy => k_is)
    (case a_PlainHeap_thing => k_is)
    (case i_PlainHeap_thing => k_is)
    (case l_PlainHeap_thing => k_is)
    (case c_PlainHeap_thing => k_is)
    (case k_PlainHeap_thing => k_is)
    (case a_PlainHeap_where => k_is)
    (case i_PlainHeap_where => k_is)
    (case l_PlainHeap_where => k_is)
    (case c_PlainHeap_where => k_is)
    (case k_PlainHeap_where => k_is)
    (case a_PlainHeap_where_proxy => k_is)
    (case i_PlainHeap_where_proxy => k_is)
    (case l_PlainHeap_where_proxy => k_is)
    (case c_PlainHeap_where_proxy => k_is)
    (case k_PlainHeap_where_proxy => k_is)
    (case a_CountedHeap_add => k_is)
    (case i_CountedHeap_add => k_is)
    (case l_CountedHeap_add => k_is)
    (case c_CountedHeap_add => k_is)
    (case k_CountedHeap_add => k_is)
    (case a_CountedHeap_make_cell => k_is)
    (case i_CountedHeap_make_cell => k_is)
    (case l_CountedHeap_make_cell => k_is)
    (case c_CountedHeap_make_cell => k_is)
    (case k_CountedHeap_make_cell => k_is)
    (case a_CountedHeap_make_service => k_is)
    (case i_CountedHeap_make_service => k_is)
    (case l_CountedHeap_make_service => k_is)
    (case c_CountedHeap_make_service => k_is)
    (case k_CountedHeap_make_service => k_is)
    (case a_CountedHeap_make_proxy => k_is)
    (case i_CountedHeap_make_proxy => k_is)
    (case l_CountedHeap_make_proxy => k_is)
    (case c_CountedHeap_make_proxy => k_is)
    (case k_CountedHeap_make_proxy => k_is)
    (case a_TracedHeap_new_place => k_is)
    (case i_TracedHeap_new_place => k_is)
    (case l_TracedHeap_new_place => k_is)
    (case c_TracedHeap_new_place => k_is)
    (case k_TracedHeap_new_place => k_is)
    (case a_TracedHeap_make_cell => k_is)
    (case i_TracedHeap_make_cell => k_is)
    (case l_TracedHeap_make_cell => k_is)
    (case c_TracedHeap_make_cell => k_is)
    (case k_TracedHeap_make_cell => k_is)
    (case a_TracedHeap_make_service => k_is)
    (case i_TracedHeap_make_service => k_is)
    (case l_TracedHeap_make_service => k_is)
    (case c_TracedHeap_make_service => k_is)
    (case k_TracedHeap_make_service => k_is)
    (case a_TracedHeap_make_proxy => k_is)
    (case i_TracedHeap_make_proxy => k_is)
    (case l_TracedHeap_make_proxy => k_is)
    (case c_TracedHeap_make_proxy => k_is)
    (case k_TracedHeap_make_proxy => k_is)
    (case a_PlainHeap_make_cell => k_is)
    (case i_PlainHeap_make_cell => k_is)
    (case l_PlainHeap_make_cell => k_is)
    (case c_PlainHeap_make_cell => k_is)
    (case k_PlainHeap_make_cell => k_is)
    (case a_PlainHeap_make_service => k_is)
    (case i_PlainHeap_make_service => k_is)
    (case l_PlainHeap_make_service => k_is)
    (case c_PlainHeap_make_service => k_is)
    (case k_PlainHeap_make_service => k_is)
    (case a_PlainHeap_make_proxy => k_is)
    (case i_PlainHeap_make_proxy => k_is)
    (case l_PlainHeap_make_proxy => k_is)
    (case c_PlainHeap_make_proxy => k_is)
    (case k_PlainHeap_make_proxy => k_is)
    (case a_law_content => k_is)
    (case l_law_content => k_is)
    (case c_law_content => k_is)
    (case k_law_content => k_is)
    (case a_law_new => k_is)
    (case l_law_new => k_is)
    (case c_law_new => k_is)
    (case k_law_new => k_is)
    (case a_law_cell => k_is)
    (case l_law_cell => k_is)
    (case c_law_cell => k_is)
    (case k_law_cell => k_is)
    (case a_law_service => k_is)
    (case l_law_service => k_is)
    (case c_law_service => k_is)
    (case k_law_service => k_is)
    (case a_law_proxy => k_is)
    (case l_law_proxy => k_is)
    (case c_law_proxy => k_is)
    (case k_law_proxy => k_is)
    (case a_is_reference => k_is)
    (case l_is_reference => k_is)
    (case c_is_reference => k_is)
    (case k_is_reference => k_is)
    (case a_law_heap => k_is)
    (case l_law_heap => k_is)
    (case c_law_heap => k_is)
    (case k_law_heap => k_is)
    (case a_law => k_is)
    (case l_law => k_is)
    (case c_law => k_is)
    (case k_law => k_is)
    (case pg_Cell => k_is)
    (case hd_Cell => k_is)
    (case po_Cell => k_is)
    (case sa_Cell => k_is)
    (case mk_Cell => k_is)
    (case kc_Cell => k_is)
    (case n_Cell_content => k_is)
    (case n_Cell_link => k_is)
    (case n_Cell_maker => k_is)
    (case n_Cell_place => k_is)
    (case n_Cell_references => k_is)
    (case n_Cell_serial => k_is)
    (case pg_CountedHeap => k_is)
    (case hd_CountedHeap => k_is)
    (case po_CountedHeap => k_is)
    (case sa_CountedHeap => k_is)
    (case mk_CountedHeap => k_is)
    (case kc_CountedHeap => k_is)
    (case n_CountedHeap_places => k_is)
    (case n_CountedHeap_proxies => k_is)
    (case n_CountedHeap_serials => k_is)
    (case n_CountedHeap_vacant => k_is)
    (case pg_PlainHeap => k_is)
    (case hd_PlainHeap => k_is)
    (case po_PlainHeap => k_is)
    (case sa_PlainHeap => k_is)
    (case mk_PlainHeap => k_is)
    (case kc_PlainHeap => k_is)
    (case n_PlainHeap_places => k_is)
    (case n_PlainHeap_proxies => k_is)
    (case n_PlainHeap_serials => k_is)
    (case pg_Proxy => k_is)
    (case hd_Proxy => k_is)
    (case po_Proxy => k_is)
    (case sa_Proxy => k_is)
    (case mk_Proxy => k_is)
    (case kc_Proxy => k_is)
    (case n_Proxy_entry => k_is)
    (case n_Proxy_link => k_is)
    (case n_Proxy_maker => k_is)
    (case n_Proxy_place => k_is)
    (case n_Proxy_references => k_is)
    (case n_Proxy_serial => k_is)
    (case pg_Service => k_is)
    (case hd_Service => k_is)
    (case po_Service => k_is)
    (case sa_Service => k_is)
    (case mk_Service => k_is)
    (case kc_Service => k_is)
    (case n_Service_body => k_is)
    (case n_Service_link => k_is)
    (case n_Service_maker => k_is)
    (case n_Service_place => k_is)
    (case n_Service_references => k_is)
    (case n_Service_serial => k_is)
    (case pg_TracedHeap => k_is)
    (case hd_TracedHeap => k_is)
    (case po_TracedHeap => k_is)
    (case sa_TracedHeap => k_is)
    (case mk_TracedHeap => k_is)
    (case kc_TracedHeap => k_is)
    (case n_TracedHeap_next_index => k_is)
    (case n_TracedHeap_places => k_is)
    (case n_TracedHeap_proxies => k_is)
    (case n_TracedHeap_serials => k_is)
    (case n_TracedHeap_space => k_is)
    (case kt_Cell_Cell => kit_is)
    (case kt_Cell_Service => kit_is)
    (case kt_Cell_Proxy => kit_is)
    (case kt_Service_Cell => kit_is)
    (case kt_Service_Service => kit_is)
    (case kt_Service_Proxy => kit_is)
    (case kt_Proxy_Cell => kit_is)
    (case kt_Proxy_Service => kit_is)
    (case kt_Proxy_Proxy => kit_is)
    (case is_Cell => k_is)
    (case io_Cell => k_is)
    (case is_Service => k_is)
    (case io_Service => k_is)
    (case is_Proxy => k_is)
    (case io_Proxy => k_is)
    (case is_get => k_is)
    (case is_tk => k_is)
    (case z_abs => k_is)
    (case z_bool => k_is)
    (case z_int => k_is)
    (case z_isinstance => k_is)
    (case z_len => k_is)
    (case z_range => k_is)
#print axioms PySem.Challenge.cw_surebridge_k40_things_at_first_holds

