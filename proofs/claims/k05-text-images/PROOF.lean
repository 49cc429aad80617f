import PyProof.Rows.All
import Wide.All
import OpenK.AllK
import Wide.FinOn
import HandS.ForMost
import HandS.Wide
import HandS.Evl
import HandS.IsInst
import HandS.Steps
import HandS.Flow
import HandS.Conv
import HandS.Codes
import HandS.More
import HandS.Replace

import PySem.Challenge.RW_surebridge_k05_text_images
set_option Elab.async false
set_option linter.all false
set_option maxRecDepth 100000
set_option maxHeartbeats 4000000
/-! a list of ints whose content is not told: the law's deck -/
namespace Dk
open PySem PySem.Spec PyProof.Rows L2

def Ints (l : Addr) (h : Heap) : Prop := ∃ ns : List Int, ns.length ≤ 100000 ∧ ∃ (its : List Value) (n : Nat), Vals (ns.map V.int) its ∧ h.get? l = some { cls := .type "list", data := .seq its.toArray n }
def DkO (l : Addr) : HO := .ext (Ints l)
theorem sz5 {n : Nat} (h : n ≤ 100000) : n ≤ sizeLine := Nat.le_trans h (by decide)
section
variable {P : Program} {w : World} {H H' : Hp} {h h' : Heap} {l : Addr} {o o' : HO} {fs ex : List Addr}
/-- another word for what stands at x -/
theorem retag (ok : HOk P w H h) (hx : H l = some o) (n1 : ∀ y, o ≠ .own y) (n2 : ∀ xs, o ≠ .tup xs) (new : ObjOk P w (upd H l o') h l o') : HOk P w (upd H l o') h := fun b u e => by
  by_cases hb : b = l
  · subst hb; rw [upd_same] at e; cases e; exact new
  · rw [upd_ne hb] at e
    refine (ok b u e).stay (fun c v _ q => q) (fun c q => ?_) fun c xs q => ?_
    · rw [upd_ne (fun z => by subst z; rw [hx] at q; exact n1 _ (Option.some.inj q))]; exact q
    · rw [upd_ne (fun z => by subst z; rw [hx] at q; exact n2 _ (Option.some.inj q))]; exact q
theorem upd_id (hx : H l = some o) : upd H l o = H := by
  funext b
  by_cases hb : b = l
  · rw [hb, upd_same, hx]
  · rw [upd_ne hb]
theorem dk_open (ok : HOk P w H h) (hx : H l = some (DkO l)) : ∃ ns : List Int, ns.length ≤ 100000 ∧ HOk P w (upd H l (.lst (ns.map V.int))) h := by
  have x : ObjOk P w H h l (.ext (Ints l)) := ok l _ hx
  obtain ⟨⟨ns, hn, its, n, r, e⟩, _, _⟩ := x
  refine ⟨ns, hn, retag ok hx (fun y z => by cases z) (fun y z => by cases z) ?_⟩
  exact ⟨by rw [List.length_map]; exact sz5 hn, its, n, r, e⟩
theorem dk_close {ns : List Int} (ok : HOk P w H h) (hx : H l = some (.lst (ns.map V.int))) (hn : ns.length ≤ 100000) : HOk P w (upd H l (DkO l)) h := by
  have x : ObjOk P w H h l (.lst (ns.map V.int)) := ok l _ hx
  obtain ⟨_, its, n, r, e⟩ := x
  refine retag ok hx (fun y z => by cases z) (fun y z => by cases z) ?_
  exact ⟨⟨ns, hn, its, n, r, e⟩, ⟨_, e⟩, fun h1 h2 z k => by
    obtain ⟨ms, hm, its', n', r', e'⟩ := z
    exact ⟨ms, hm, its', n', r', k _ e'⟩⟩
/-- untouched: another word at l on either side -/
theorem un_left {o1 : HO} (u : Un fs ex (upd H l o1) H' h h') (hx : H l = some o) (n2 : ∀ xs, o ≠ .tup xs) (n3 : ∀ o' v, o ≠ .frz o' v) (n4 : ∀ ps, o ≠ .tbl ps) : Un fs ex H H' h h' where
  keep := fun b q e n hb he => u.keep b q e (by rw [upd_ne (fun z => by subst z; rw [hx] at n; cases n)]; exact n) hb he
  slot := fun b q e n hb he => u.slot b q e (by rw [upd_ne (fun z => by subst z; rw [hx] at n; cases n)]; exact n) hb he
  free := fun b q e n he => u.free b q e (by rw [upd_ne (fun z => by subst z; rw [hx] at n; cases n)]; exact n) he
  there := u.there
  tups := fun b xs q => u.tups b xs (by rw [upd_ne (fun z => by subst z; rw [hx] at q; exact n2 _ (Option.some.inj q))]; exact q)
  frzs := fun b o v q => u.frzs b o v (by rw [upd_ne (fun z => by subst z; rw [hx] at q; exact n3 _ _ (Option.some.inj q))]; exact q)
  tbls := fun b ps q => u.tbls b ps (by rw [upd_ne (fun z => by subst z; rw [hx] at q; exact n4 _ (Option.some.inj q))]; exact q)
theorem un_right {o1 : HO} (u : Un fs ex H H' h h') (hx : H' l = some o) (n2 : ∀ xs, o ≠ .tup xs) (n3 : ∀ o' v, o ≠ .frz o' v) (n4 : ∀ ps, o ≠ .tbl ps) : Un fs ex H (upd H' l o1) h h' where
  keep := u.keep
  slot := u.slot
  free := fun b q e n he => by
    have z := u.free b q e n he
    rw [upd_ne (fun y => by subst y; rw [hx] at z; cases z)]; exact z
  there := u.there
  tups := fun b xs q => by
    have z := u.tups b xs q
    rw [upd_ne (fun y => by subst y; rw [hx] at z; exact n2 _ (Option.some.inj z))]; exact z
  frzs := fun b o v q => by
    have z := u.frzs b o v q
    rw [upd_ne (fun y => by subst y; rw [hx] at z; exact n3 _ _ (Option.some.inj z))]; exact z
  tbls := fun b ps q => by
    obtain ⟨m, z⟩ := u.tbls b ps q
    exact ⟨m, by rw [upd_ne (fun y => by subst y; rw [hx] at z; exact n4 _ (Option.some.inj z))]; exact z⟩
end
/-- take(deck, many), told of the list | of a deck -/
def spTakeC : Sp := fun vs H Q _ => ∃ (l : Addr) (ns : List Int) (m : Int), vs = [.ref l, .int m] ∧ H l = some (.lst (ns.map V.int)) ∧ ns.length ≤ 100000 ∧ 0 < m ∧
  ∀ (k : Int) (ns' : List Int), 0 ≤ k → k < m → ns'.length ≤ 100000 → Q (.int k) (upd H l (.lst (ns'.map V.int)))
def spTake : Sp := fun vs H Q _ => ∃ (l : Addr) (m : Int), vs = [.ref l, .int m] ∧ H l = some (DkO l) ∧ 0 < m ∧ ∀ k : Int, 0 ≤ k → k < m → Q (.int k) H
/-- deck(script, cells, each), told of the list | of a deck -/
def spDeckC (K : PySem.W.Frag) : Sp := fun vs H Q _ => ∃ (a : Addr) (ns : List Int) (c e : Int), vs = [.ref a, .int c, .int e] ∧ SqL K H a (ns.map V.int) ∧ ns.length ≤ 63 ∧ 0 ≤ c ∧ 0 ≤ e ∧ c ≤ 64 ∧ e ≤ 64 ∧
  ∀ (l : Addr) (ms : List Int) (H' : Hp), H l = none → H' = upd H l (.lst (ms.map V.int)) → ms.length ≤ 100000 → Q (.ref l) H'
def spDeck (K : PySem.W.Frag) : Sp := fun vs H Q _ => ∃ (a : Addr) (ns : List Int) (c e : Int), vs = [.ref a, .int c, .int e] ∧ SqL K H a (ns.map V.int) ∧ ns.length ≤ 63 ∧ 0 ≤ c ∧ 0 ≤ e ∧ c ≤ 64 ∧ e ≤ 64 ∧
  ∀ (l : Addr), H l = none → Q (.ref l) (upd H l (DkO l))
section
variable {P : Program} {w : World} {K : PySem.W.Frag} {mg : Str → Option Value} {base : Heap} {k : Nat} {f : Addr} {fd : FuncData} {ps : List Str}
theorem dk_tup {l : Addr} (xs : List V) : DkO l ≠ .tup xs := fun z => by
  have z' : HO.ext _ = HO.tup xs := z
  cases z'
theorem dk_frz {l : Addr} (o : Obj) (v : HO) : DkO l ≠ .frz o v := fun z => by
  have z' : HO.ext _ = HO.frz o v := z
  cases z'
theorem dk_tbl {l : Addr} (xs : Array Value) : DkO l ≠ .tbl xs := fun z => by
  have z' : HO.ext _ = HO.tbl xs := z
  cases z'
theorem ok_take (F : FnOk P w K mg base CX0 k f fd ps spTakeC) : FnOk P w K mg base CX0 k f fd ps spTake where
  len := fun vs H Q E h => by
    obtain ⟨l, m, e, h1, h2, h3⟩ := h
    exact F.len vs (upd H l (.lst (([] : List Int).map V.int))) (fun _ _ => True) E ⟨l, [], m, e, upd_same, by decide, h2, fun _ _ _ _ _ => trivial⟩
  run := fun A outer s H args us vs Q E hr he hb hv h => by
    obtain ⟨l, m, e, h1, h2, h3⟩ := h
    obtain ⟨ns, hn, ok⟩ := dk_open he.hok h1
    have nb : ∀ b, H b = none → b ≠ l := fun b n z => by rw [z, h1] at n; cases n
    have he1 : Env0 P w K mg base A outer s (upd H l (.lst (ns.map V.int))) := ⟨he.frames, he.mod, fun b o q => ⟨(he.bs b o q).1, by rw [upd_ne (nb b (he.bs b o q).2)]; exact (he.bs b o q).2⟩, he.bsz, he.funs, fun b q => by rw [upd_ne (nb b (he.frf b q))]; exact he.frf b q, ok, he.bare⟩
    refine codeAny_mono (F.run A outer s _ args us vs (fun v H1 => ∃ ns' : List Int, ns'.length ≤ 100000 ∧ H1 = upd H l (.lst (ns'.map V.int)) ∧ Q v H) E hr he1 hb hv ⟨l, ns, m, e, upd_same, hn, h2, fun k ns' k0 k1 hl => ⟨ns', hl, by rw [upd_upd], h3 k k0 k1⟩⟩) fun r s' q => ?_
    cases r with
    | error e => exact q
    | ok fl =>
      cases fl with
      | ret u =>
        obtain ⟨v, H1, os, bare, un, hok, rv, ns', hl, e1, q⟩ := q
        subst e1
        have g : upd (upd H l (.lst (ns'.map V.int))) l (DkO l) = H := by rw [upd_upd]; exact upd_id h1
        have hok' := dk_close hok upd_same hl
        have un1 := un_left un h1 dk_tup dk_frz dk_tbl
        have un2 := un_right (o1 := DkO l) un1 upd_same (fun _ z => by cases z) (fun _ _ z => by cases z) (fun _ z => by cases z)
        rw [g] at hok' un2
        exact ⟨v, H, os, bare, un2, hok', rv, q⟩
      | next => exact q
      | brk => exact q
      | cont => exact q
theorem ok_deck (F : FnOk P w K mg base CX0 k f fd ps (spDeckC K)) : FnOk P w K mg base CX0 k f fd ps (spDeck K) where
  len := fun vs H Q E h => by
    obtain ⟨a, ns, c, e, h1, h2, h3, h4, h5, h6, h7, h8⟩ := h
    exact F.len vs H (fun _ _ => True) E ⟨a, ns, c, e, h1, h2, h3, h4, h5, h6, h7, fun _ _ _ _ _ _ => trivial⟩
  run := fun A outer s H args us vs Q E hr he hb hv h => by
    obtain ⟨a, ns, c, e, h1, h2, h3, h4, h5, h6, h7, h8⟩ := h
    refine codeAny_mono (F.run A outer s _ args us vs (fun v H1 => ∃ (l : Addr) (ms : List Int), ms.length ≤ 100000 ∧ H l = none ∧ H1 = upd H l (.lst (ms.map V.int)) ∧ v = .ref l) E hr he hb hv ⟨a, ns, c, e, h1, h2, h3, h4, h5, h6, h7, fun l ms H' n e q => ⟨l, ms, q, n, e, rfl⟩⟩) fun r s' q => ?_
    cases r with
    | error e => exact q
    | ok fl =>
      cases fl with
      | ret u =>
        obtain ⟨v, H1, os, bare, un, hok, rv, l, ms, hl, n, e1, ev⟩ := q
        subst e1
        subst ev
        have hok' := dk_close hok upd_same hl
        have un2 := un_right (o1 := DkO l) un upd_same (fun _ z => by cases z) (fun _ _ z => by cases z) (fun _ z => by cases z)
        rw [upd_upd] at hok' un2
        exact ⟨.ref l, _, os, bare, un2, hok', rv, h8 l n⟩
      | next => exact q
      | brk => exact q
      | cont => exact q
end
end Dk

/-! readings, one rule a construct, for a walk by `first` -/
namespace Rd
open PySem PySem.Spec PyProof.Rows L2 Evl Dk
section
variable {σ σ' : L2.St} {H H' H1 : Hp} {Q : VK} {v x y z : V} {ta tb te tc : TE} {K : PySem.W.Frag} {i j : Int} {D : Ends} {t u : TS} {ct cu : TT} {QB : Bool → Hp → Prop} {QA : List V → Hp → Prop} {al bl : TA} {xs ys : List V} {a l C dx : Addr} {fs : List (Str × V)} {A B : Prop} {r : R2}
theorem var {n : Nat} (h : σ[n]? = some (some v)) (q : Q v H) : tVar n σ H Q := ⟨v, h, q⟩
theorem c (q : Q v H) : tC v σ H Q := q
theorem op (h : ta σ H fun x H1 => tb σ H1 fun y H2 => r x y H2 Q) : tOp r ta tb σ H Q := h
theorem un {r : V → Hp → VK → Prop} (h : ta σ H fun x H1 => r x H1 Q) : tUn r ta σ H Q := h
theorem i0 {g : Int → Int → V} (q : Q (g i j) H) : rI0 g (.int i) (.int j) H Q := ⟨i, j, rfl, rfl, q⟩
theorem i1 {C : Int → Int → Prop} {g : Int → Int → V} (c : C i j) (q : Q (g i j) H) : rI C g (.int i) (.int j) H Q := ⟨i, j, rfl, rfl, c, q⟩
theorem u0 {g : Int → V} (q : Q (g i) H) : rU g (.int i) H Q := ⟨i, rfl, q⟩
theorem dI : decide (V.int i = V.int j) = decide (i = j) := decide_eq_decide.mpr ⟨V.int.inj, congrArg V.int⟩
theorem dS {s t : Str} : decide (V.str s = V.str t) = decide (s = t) := decide_eq_decide.mpr ⟨V.str.inj, congrArg V.str⟩
theorem dB {s t : Bool} : decide (V.bl s = V.bl t) = decide (s = t) := decide_eq_decide.mpr ⟨V.bl.inj, congrArg V.bl⟩
theorem eqI (q : Q (.bl (decide (i = j))) H) : rEq (.int i) (.int j) H Q := ⟨rfl, by rw [dI]; exact q⟩
theorem neI (q : Q (.bl (!decide (i = j))) H) : rNe (.int i) (.int j) H Q := ⟨rfl, by rw [dI]; exact q⟩
theorem eqS {s t : Str} (q : Q (.bl (decide (s = t))) H) : rEq (.str s) (.str t) H Q := ⟨rfl, by rw [dS]; exact q⟩
theorem neS {s t : Str} (q : Q (.bl (!decide (s = t))) H) : rNe (.str s) (.str t) H Q := ⟨rfl, by rw [dS]; exact q⟩
theorem eqX (h : scal x y = true) (q : Q (.bl (decide (x = y))) H) : rEq x y H Q := ⟨h, q⟩
theorem neX (h : scal x y = true) (q : Q (.bl (!decide (x = y))) H) : rNe x y H Q := ⟨h, q⟩
theorem isN (q : Q (.bl (decide (x = .non))) H) : rIsN x .non H Q := ⟨rfl, q⟩
theorem notN (q : Q (.bl (!decide (x = .non))) H) : rNotN x .non H Q := ⟨rfl, q⟩
theorem isN_non (q : Q (.bl true) H) : rIsN .non .non H Q := ⟨rfl, q⟩
theorem notN_non (q : Q (.bl false) H) : rNotN .non .non H Q := ⟨rfl, q⟩
theorem isN_int (q : Q (.bl false) H) : rIsN (.int i) .non H Q := ⟨rfl, q⟩
theorem notN_int (q : Q (.bl true) H) : rNotN (.int i) .non H Q := ⟨rfl, q⟩
theorem isN_ref (q : Q (.bl false) H) : rIsN (.ref a) .non H Q := ⟨rfl, q⟩
theorem notN_ref (q : Q (.bl true) H) : rNotN (.ref a) .non H Q := ⟨rfl, q⟩
theorem isN_str {s : Str} (q : Q (.bl false) H) : rIsN (.str s) .non H Q := ⟨rfl, q⟩
theorem notN_str {s : Str} (q : Q (.bl true) H) : rNotN (.str s) .non H Q := ⟨rfl, q⟩
/-- a value that must be a truth value -/
def xT (x : V) (H : Hp) (Q : Bool → Hp → Prop) : Prop := ∃ k, x = .bl k ∧ Q k H
theorem xt {b : Bool} (q : QB b H) : xT (.bl b) H QB := ⟨b, rfl, q⟩
theorem test (h : te σ H fun x H' => xT x H' QB) : tTest te σ H QB := h
theorem tbv (h : te σ H fun x H' => xT x H' QB) : tB te σ H QB := h
theorem andT (h : ct σ H fun c H1 => if c = true then cu σ H1 QB else QB false H1) : tAnd ct cu σ H QB := h
theorem orT (h : ct σ H fun c H1 => if c = true then QB true H1 else cu σ H1 QB) : tOr ct cu σ H QB := h
theorem notT (h : ct σ H fun c H1 => QB (!c) H1) : tNot ct σ H QB := h
theorem andV (h : ta σ H fun x H1 => xT x H1 fun c H1 => if c = true then te σ H1 Q else Q (.bl false) H1) : tAndV ta te σ H Q := h
theorem orV (h : ta σ H fun x H1 => xT x H1 fun c H1 => if c = true then Q (.bl true) H1 else te σ H1 Q) : tOrV ta te σ H Q := h
theorem notV (h : ta σ H fun x H1 => xT x H1 fun c H1 => Q (.bl (!c)) H1) : tNotV ta σ H Q := h
theorem ifE (h : ct σ H fun c H1 => if c = true then ta σ H1 Q else tb σ H1 Q) : tIf ct ta tb σ H Q := h
theorem chain {r r' : R2} (h : ta σ H fun x H1 => tb σ H1 fun y H2 => r x y H2 fun z H3 => xT z H3 fun k H3 => if k = true then tc σ H3 fun w H4 => r' y w H4 Q else Q (.bl false) H3) : tChain r r' ta tb tc σ H Q := h
theorem ifT {p : Prop} [Decidable p] (hp : p) (h : A) : if decide p = true then A else B := by rw [if_pos (decide_eq_true hp)]; exact h
theorem ifF {p : Prop} [Decidable p] (hp : ¬ p) (h : B) : if decide p = true then A else B := by rw [decide_eq_false hp, if_neg Bool.false_ne_true]; exact h
theorem ifd {p : Prop} [Decidable p] (h1 : p → A) (h2 : ¬ p → B) : if decide p = true then A else B := by
  by_cases hp : p
  · exact ifT hp (h1 hp)
  · exact ifF hp (h2 hp)
theorem ifNT {p : Prop} [Decidable p] (hp : ¬ p) (h : A) : if (!decide p) = true then A else B := by rw [decide_eq_false hp]; exact iteT h
theorem ifNF {p : Prop} [Decidable p] (hp : p) (h : B) : if (!decide p) = true then A else B := by rw [decide_eq_true hp]; exact iteF h
theorem ifNd {p : Prop} [Decidable p] (h1 : ¬ p → A) (h2 : p → B) : if (!decide p) = true then A else B := by
  by_cases hp : p
  · exact ifNF hp (h2 hp)
  · exact ifNT hp (h1 hp)
theorem ifTT (h : A) : if true = true then A else B := iteT h
theorem ifFF (h : B) : if false = true then A else B := iteF h
theorem ifNTT (h : A) : if (!false) = true then A else B := iteT h
theorem ifNFF (h : B) : if (!true) = true then A else B := iteF h
theorem ifNN {b : Bool} (h : if b = true then A else B) : if (!!b) = true then A else B := by rw [Bool.not_not]; exact h
theorem ifb {b : Bool} (h1 : b = true → A) (h2 : b = false → B) : if b = true then A else B := by
  cases b with
  | true => exact iteT (h1 rfl)
  | false => exact iteF (h2 rfl)
theorem ifbT {b : Bool} (hb : b = true) (h : A) : if b = true then A else B := by rw [hb]; exact iteT h
theorem ifbF {b : Bool} (hb : b = false) (h : B) : if b = true then A else B := by rw [hb]; exact iteF h
theorem ifNbT {b : Bool} (hb : b = false) (h : A) : if (!b) = true then A else B := by rw [hb]; exact iteT h
theorem ifNbF {b : Bool} (hb : b = true) (h : B) : if (!b) = true then A else B := by rw [hb]; exact iteF h
-- statements
theorem seq (h : t { D with nx := u D } σ H) : tSeq t u D σ H := h
theorem ifS (h : ct σ H fun b H1 => if b = true then t D σ H1 else u D σ H1) : tIfS ct t u D σ H := h
theorem asg {g : TG} (h : te σ H fun x H1 => g x σ H1 D.nx) : tAsg te g D σ H := h
theorem gnm {n : Nat} {Q : L2.St → Hp → Prop} (h : Q (σ.set n (some v)) H) : gName n v σ H Q := h
theorem ret (h : te σ H D.rt) : tRet te D σ H := h
theorem retN (h : D.rt .non H) : tRetN D σ H := h
theorem drop (h : te σ H fun _ H1 => D.nx σ H1) : tDrop te D σ H := h
theorem nxt (h : D.nx σ H) : tNext D σ H := h
theorem brk (h : D.bk σ H) : tBreak D σ H := h
theorem cnt (h : D.ct σ H) : tCont D σ H := h
theorem aug {n : Nat} {ti : TIp} (hx : σ[n]? = some (some x)) (h : te σ H fun y H1 => ti x y H1 fun z H2 => D.nx (σ.set n (some z)) H2) : tAug n te ti D σ H := ⟨x, hx, h⟩
theorem ipi {f : Int → Int → Int} (q : Q (.int (f i j)) H) : ipI f (.int i) (.int j) H Q := ⟨i, j, rfl, rfl, q⟩
theorem par {n m : Nat} (h : al σ H fun vs H1 => ∃ v w, vs = [v, w] ∧ D.nx ((σ.set n (some v)).set m (some w)) H1) : tPar n m al D σ H := h
theorem par2 {N : V → V → Prop} {w : V} (h : N v w) : ∃ v' w', [v, w] = [v', w'] ∧ N v' w' := ⟨v, w, rfl, h⟩
/-- targets: a tuple to names -/
theorem gtup {n : Nat} {g : TGs} {Q : L2.St → Hp → Prop} (h : SqT K H a xs) (hn : xs.length = n) (q : g xs σ H Q) : gTup K n g (.ref a) σ H Q := ⟨a, xs, rfl, h, hn, q⟩
theorem gcons {g : TG} {gs : TGs} {Q : L2.St → Hp → Prop} (q : g v σ H fun σ' H' => gs xs σ' H' Q) : gCons g gs (v :: xs) σ H Q := ⟨v, xs, rfl, q⟩
theorem gnil {Q : L2.St → Hp → Prop} (q : Q σ H) : gNil [] σ H Q := ⟨rfl, q⟩
theorem gsub {te2 : TE} {ts : TSet} {Q : L2.St → Hp → Prop} (h : te σ H fun o H1 => te2 σ H1 fun i H2 => ts o i v H2 fun H3 => Q σ H3) : gSub te te2 ts v σ H Q := h
theorem setL {R : Hp → Prop} {n : Nat} (h : H l = some (.lst xs)) (hi : ixN xs.length i = some n) (q : R (upd H l (.lst (xs.set n v)))) : rSetL (.ref l) (.int i) v H R := ⟨l, xs, i, n, rfl, rfl, h, hi, q⟩
-- arguments
theorem nil (q : QA [] H) : tNil σ H QA := q
theorem cons (h : ta σ H fun x H1 => al σ H1 fun xs H2 => QA (x :: xs) H2) : tCons ta al σ H QA := h
theorem cb {r : List V → Hp → VK → Prop} (h : al σ H fun vs H1 => r vs H1 Q) : tCB r al σ H Q := h
theorem call {sp : Sp} {dvs : List V} {E : XK} (h : al σ H fun vs H1 => sp (vs ++ dvs) H1 Q E) : tCall sp dvs E al σ H Q := h
-- displays
def xTup (xs : List V) (H : Hp) (Q : VK) : Prop := xs.length ≤ sizeLine ∧ ∀ p, H p = none → Q (.ref p) (upd H p (.tup xs))
def xLst (xs : List V) (H : Hp) (Q : VK) : Prop := xs.length ≤ sizeLine ∧ ∀ p, H p = none → Q (.ref p) (upd H p (.lst xs))
theorem tup (h : al σ H fun xs H1 => xTup xs H1 Q) : tTup al σ H Q := h
theorem lst (h : al σ H fun xs H1 => xLst xs H1 Q) : tLst al σ H Q := h
theorem sz_le {n : Nat} (h : Nat.ble n 100000 = true) : n ≤ sizeLine := Dk.sz5 (Nat.le_of_ble_eq_true h)
theorem xtup (n : Nat.ble xs.length 100000 = true) (q : ∀ p H', H p = none → Ex H H' → H' p = some (.tup xs) → Q (.ref p) H') : xTup xs H Q := ⟨sz_le n, fun p hp => q p _ hp (Ex.new hp) upd_same⟩
theorem xlst (n : Nat.ble xs.length 100000 = true) (q : ∀ p H', H p = none → Ex H H' → H' p = some (.lst xs) → Q (.ref p) H') : xLst xs H Q := ⟨sz_le n, fun p hp => q p _ hp (Ex.new hp) upd_same⟩
theorem xlstU (n : Nat.ble xs.length 100000 = true) (q : ∀ p, H p = none → Q (.ref p) (upd H p (.lst xs))) : xLst xs H Q := ⟨sz_le n, q⟩
-- subscripts
theorem ixL (h : SqL K H l xs) (ha : atI xs i = some v) (q : Q v H) : rIxL K (.ref l) (.int i) H Q := ⟨l, xs, i, v, rfl, rfl, h, ha, q⟩
theorem ixT (h : SqT K H l xs) (ha : atI xs i = some v) (q : Q v H) : rIxT K (.ref l) (.int i) H Q := ⟨l, xs, i, v, rfl, rfl, h, ha, q⟩
-- fields
def rFld (K : PySem.W.Frag) (f : Str) (x : V) (H : Hp) (Q : VK) : Prop := ∃ a C dx fs v, x = .ref a ∧ H a = some (.ins C dx fs) ∧ Cls K C ∧ NoAttr K C f ∧ fs.lookup f = some v ∧ Q v H
theorem fld {f : Str} (h : ta σ H fun x H1 => rFld K f x H1 Q) : tFld K ta f σ H Q := h
theorem rfld {f : Str} (h : H a = some (.ins C dx fs)) (c : Cls K C) (n : NoAttr K C f) (lk : fs.lookup f = some v) (q : Q v H) : rFld K f (.ref a) H Q := ⟨a, C, dx, fs, v, rfl, h, c, n, lk, q⟩
def rSt (K : PySem.W.Frag) (f : Str) (v x : V) (H : Hp) (N : Hp → Prop) : Prop := ∃ a C dx fs, x = .ref a ∧ H a = some (.ins C dx fs) ∧ Cls K C ∧ NoAttr K C f ∧ fs.length < 1000 ∧ N (upd H a (.ins C dx (putF f v fs)))
-- methods
def xMeth (C : Addr) (m : Str) (x : V) (H : Hp) (P : Prop) : Prop := ∃ a dx fs, x = .ref a ∧ H a = some (.ins C dx fs) ∧ fs.lookup m = none ∧ P
theorem meth {m : Str} {sp : Sp} {dvs : List V} {E : XK} (h : ta σ H fun x H1 => xMeth C m x H1 (al σ H1 fun vs H2 => sp (x :: (vs ++ dvs)) H2 Q E)) : tMeth C m sp dvs E ta al σ H Q :=
  h
def xTy (K : PySem.W.Frag) (T : String) (x : V) (H : Hp) (P : Prop) : Prop := tyV K T x H ∧ P
theorem bm {T : String} {r : V → List V → Hp → VK → Prop} (h : te σ H fun x H1 => xTy K T x H1 (al σ H1 fun xs H2 => r x xs H2 Q)) : tBM K T r te al σ H Q := h
theorem bm0 {T : String} {r : V → List V → Hp → VK → Prop} (h : te σ H fun x H1 => xTy K T x H1 (r x [] H1 Q)) : tBM0 K T r te σ H Q := h
theorem xtyL {P : Prop} (h : SqL K H l xs) (p : P) : xTy K "list" (.ref l) H P := ⟨.inl ⟨rfl, _, h⟩, p⟩
theorem append (h : H l = some (.lst xs)) (n : xs.length < 100000) (q : Q .non (upd H l (.lst (xs ++ [v])))) : rAppend (.ref l) [v] H Q := ⟨l, xs, v, rfl, rfl, h, sz_lt n, q⟩
theorem reverse (h : H l = some (.lst xs)) (q : Q .non (upd H l (.lst xs.reverse))) : rReverse (.ref l) [] H Q := ⟨l, xs, rfl, rfl, h, q⟩
theorem pop (h : H l = some (.lst xs)) (hl : xs[xs.length - 1]? = some y) (q : Q y (upd H l (.lst xs.dropLast))) : rPop (.ref l) [] H Q := ⟨l, xs, y, rfl, rfl, h, hl, q⟩
end
end Rd
namespace Rd
open PySem PySem.Spec PyProof.Rows L2
section
variable {X : Cx}
def rLen (K : PySem.W.Frag) : List V → Hp → VK → Prop := fun xs H Q => ∃ p ys, xs = [.ref p] ∧ (SqL K H p ys ∨ SqT K H p ys) ∧ Q (.int ys.length) H
theorem c_len : CallR X (.builtin "len") (rLen X.K) := call_len_seq
def rLenStr : List V → Hp → VK → Prop := fun xs H Q => ∃ z, xs = [.str z] ∧ z.length ≤ sizeLine ∧ Q (.int z.length) H
theorem c_lenS : CallR X (.builtin "len") rLenStr := call_len_str
def rAbs : List V → Hp → VK → Prop := fun xs H Q => ∃ i, xs = [.int i] ∧ Q (.int (if i < 0 then -i else i)) H
theorem c_abs : CallR X (.builtin "abs") rAbs := call_abs
def rInt1 : List V → Hp → VK → Prop := fun xs H Q => (∃ i, xs = [.int i] ∧ Q (.int i) H) ∨ ∃ k, xs = [.bl k] ∧ Q (.int (if k then 1 else 0)) H
theorem c_int : CallR X (.type "int") rInt1 := call_int1
def rListOf (K : PySem.W.Frag) : List V → Hp → VK → Prop := fun xs H Q => ∃ p ys, xs = [.ref p] ∧ (SqL K H p ys ∨ SqT K H p ys) ∧ ∀ l, H l = none → Q (.ref l) (upd H l (.lst ys))
theorem c_list : CallR X (.type "list") (rListOf X.K) := call_list_of
def rMax2 : List V → Hp → VK → Prop := fun xs H Q => ∃ i j, xs = [.int i, .int j] ∧ Q (.int (if j > i then j else i)) H
theorem c_max2 (hc : X.calm = true) : CallR X (.builtin "max") rMax2 := call_max2 hc
def rMin2 : List V → Hp → VK → Prop := fun xs H Q => ∃ i j, xs = [.int i, .int j] ∧ Q (.int (if j < i then j else i)) H
theorem c_min2 (hc : X.calm = true) : CallR X (.builtin "min") rMin2 := call_min2 hc
end
end Rd
namespace Rd
open PySem PySem.Spec PyProof.Rows L2 Evl Dk
section
variable {σ : L2.St} {H : Hp} {Q : VK} {x : V} {K : PySem.W.Frag} {i j : Int} {xs : List V} {l : Addr}
theorem len (h : SqL K H l xs) (q : Q (.int xs.length) H) : Rd.rLen K [.ref l] H Q := ⟨l, xs, rfl, .inl h, q⟩
theorem lenT (h : SqT K H l xs) (q : Q (.int xs.length) H) : Rd.rLen K [.ref l] H Q := ⟨l, xs, rfl, .inr h, q⟩
theorem lenS {s : Str} (h : s.length ≤ 100000) (q : Q (.int s.length) H) : Rd.rLenStr [.str s] H Q := ⟨s, rfl, sz_of h, q⟩
theorem abs (q : Q (.int (if i < 0 then -i else i)) H)   : Rd.rAbs [.int i] H Q := ⟨i, rfl, q⟩
theorem int (q : Q (.int i) H) : Rd.rInt1 [.int i] H Q := .inl ⟨i, rfl, q⟩
theorem intB {k : Bool} (q : Q (.int (if k then 1 else 0)) H) : Rd.rInt1 [.bl k] H Q := .inr ⟨k, rfl, q⟩
theorem listOf (h : SqL K H l xs) (q : ∀ p H', H p = none → Ex H H' → H' p = some (.lst xs) → Q (.ref p) H') : Rd.rListOf K [.ref l] H Q := ⟨l, xs, rfl, .inl h, fun p hp => q p _ hp (Ex.new hp) upd_same⟩
theorem listOfU (h : SqL K H l xs) (q : ∀ p, H p = none → Q (.ref p) (upd H p (.lst xs))) : Rd.rListOf K [.ref l] H Q := ⟨l, xs, rfl, .inl h, q⟩
theorem max2 (q : Q (.int (if j > i then j else i)) H) : Rd.rMax2 [.int i, .int j] H Q := ⟨i, j, rfl, q⟩
theorem min2 (q : Q (.int (if j < i then j else i)) H) : Rd.rMin2 [.int i, .int j] H Q := ⟨i, j, rfl, q⟩
theorem take {m : Int} {E : XK} (h : H l = some (DkO l)) (hm : 0 < m) (q : ∀ k : Int, 0 ≤ k → k < m → Q (.int k) H) : spTake ([.ref l, .int m] ++ []) H Q E := ⟨l, m, rfl, h, hm, q⟩
end
end Rd
/-! ### data of any depth: what it is made of, and that it stays -/
namespace Dt
open PySem PySem.Spec PyProof.Rows L2 Evl
section
variable {K : PySem.W.Frag} {H H' : Hp} {v : V} {xs vs : List V} {d : PyData} {ds : List PyData} {a : Addr}
mutual
theorem mono (e : Ex H H') : ∀ (d : PyData) (v : V), Dp K H v d → Dp K H' v d
  | .none, _, h => by cases h; exact .non
  | .bool b, _, h => by cases h; exact .bl b
  | .int i, _, h => by cases h; exact .int i
  | .str x, _, h => by cases h; exact .str x
  | .list ds, _, h => by
    cases h with
    | lst hs ha => exact .lst (ex_l e hs) (monoAll e ds _ ha)
  | .tuple ds, _, h => by
    cases h with
    | tup hs ha => exact .tup (ex_t e hs) (monoAll e ds _ ha)
  | .dict _, _, h => by cases h
theorem monoAll (e : Ex H H') : ∀ (ds : List PyData) (vs : List V), DpAll K H vs ds → DpAll K H' vs ds
  | [], _, h => by cases h; exact .nil
  | d :: ds, _, h => by
    cases h with
    | cons h1 h2 => exact .cons (mono e d _ h1) (monoAll e ds _ h2)
end
theorem mn (h : Dp K H v d) (e : Ex H H') : Dp K H' v d := mono e d v h
theorem mnA (h : DpAll K H vs ds) (e : Ex H H') : DpAll K H' vs ds := monoAll e ds vs h
theorem inv_l (h : Dp K H v (.list ds)) : ∃ a xs, v = .ref a ∧ SqL K H a xs ∧ DpAll K H xs ds := by
  cases h with
  | lst hs ha => exact ⟨_, _, rfl, hs, ha⟩
theorem inv_t (h : Dp K H v (.tuple ds)) : ∃ a xs, v = .ref a ∧ SqT K H a xs ∧ DpAll K H xs ds := by
  cases h with
  | tup hs ha => exact ⟨_, _, rfl, hs, ha⟩
theorem inv_i {i : Int} (h : Dp K H v (.int i)) : v = .int i := by cases h; rfl
theorem inv_s {s : Str} (h : Dp K H v (.str s)) : v = .str s := by cases h; rfl
theorem inv_b {b : Bool} (h : Dp K H v (.bool b)) : v = .bl b := by cases h; rfl
theorem inv_n (h : Dp K H v .none) : v = .non := by cases h; rfl
theorem lenA : ∀ {vs : List V} {ds : List PyData}, DpAll K H vs ds → vs.length = ds.length
  | _, [], h => by cases h; rfl
  | _, d :: ds, h => by
    cases h with
    | cons _ h2 => simp [lenA h2]
theorem getA : ∀ {vs : List V} {ds : List PyData} {i : Nat} {v : V} {d : PyData}, DpAll K H vs ds → vs[i]? = some v → ds[i]? = some d → Dp K H v d
  | _, [], _, _, _, h, _, e => by simp at e
  | _, d :: ds, 0, _, _, h, e1, e2 => by
    cases h with
    | cons h1 _ =>
      simp at e1 e2
      rw [← e1, ← e2]
      exact h1
  | _, d :: ds, i + 1, _, _, h, e1, e2 => by
    cases h with
    | cons _ h2 => exact getA (i := i) h2 (by simpa using e1) (by simpa using e2)
theorem getA1 {i : Nat} (h : DpAll K H vs ds) (e : vs[i]? = some v) : ∃ d, ds[i]? = some d ∧ Dp K H v d := by
  have hl := lenA h
  have hi : i < vs.length := (List.getElem?_eq_some_iff.mp e).1
  exact ⟨ds[i]'(by omega), List.getElem?_eq_getElem (by omega), getA h e (List.getElem?_eq_getElem (by omega))⟩
theorem getA2 {i : Nat} (h : DpAll K H vs ds) (e : ds[i]? = some d) : ∃ v, vs[i]? = some v ∧ Dp K H v d := by
  have hl := lenA h
  have hi : i < ds.length := (List.getElem?_eq_some_iff.mp e).1
  exact ⟨vs[i]'(by omega), List.getElem?_eq_getElem (by omega), getA h (List.getElem?_eq_getElem (by omega)) e⟩
theorem consA (h : Dp K H v d) (hs : DpAll K H vs ds) : DpAll K H (v :: vs) (d :: ds) := .cons h hs
theorem appA : ∀ {vs ws : List V} {ds es : List PyData}, DpAll K H vs ds → DpAll K H ws es → DpAll K H (vs ++ ws) (ds ++ es)
  | _, _, [], _, h, g => by cases h; exact g
  | _, _, d :: ds, _, h, g => by
    cases h with
    | cons h1 h2 => exact .cons h1 (appA h2 g)
theorem oneA (h : Dp K H v d) : DpAll K H [v] [d] := .cons h .nil
theorem snocA (hs : DpAll K H vs ds) (h : Dp K H v d) : DpAll K H (vs ++ [v]) (ds ++ [d]) := appA hs (oneA h)
theorem takeA : ∀ {vs : List V} {ds : List PyData} (n : Nat), DpAll K H vs ds → DpAll K H (vs.take n) (ds.take n)
  | _, _, 0, _ => .nil
  | _, [], n + 1, h => by cases h; exact .nil
  | _, d :: ds, n + 1, h => by
    cases h with
    | cons h1 h2 => exact .cons h1 (takeA n h2)
theorem intsA : ∀ (ns : List Int), DpAll K H (ns.map V.int) (ns.map PyData.int)
  | [] => .nil
  | n :: ns => .cons (.int n) (intsA ns)
theorem strsA : ∀ (ns : List Str), DpAll K H (ns.map V.str) (ns.map PyData.str)
  | [] => .nil
  | n :: ns => .cons (.str n) (strsA ns)
/-- list and tuple made -/
theorem ofL (h : H a = some (.lst vs)) (hs : DpAll K H vs ds) : Dp K H (.ref a) (.list ds) := .lst (SqL.of h) hs
theorem ofT (h : H a = some (.tup vs)) (hs : DpAll K H vs ds) : Dp K H (.ref a) (.tuple ds) := .tup (SqT.of h) hs
end
end Dt
namespace Rd
open PySem PySem.Spec PyProof.Rows L2 Evl Dk
section
variable {σ σ' : L2.St} {H H' : Hp} {Q : VK} {v x y z : V} {te : TE} {K : PySem.W.Frag} {i j lo n : Int} {D : Ends} {tb : TS} {al : TA} {xs ys : List V} {a l C dx : Addr} {d e : PyData} {g : TG}
theorem eqD (h1 : Dp K H x d) (h2 : Dp K H y e) (s1 : SeqAt.shaped d = true) (s2 : SeqAt.shaped e = true) (q : Q (.bl (PyData.eqv d e)) H) : rEqD K x y H Q := ⟨d, e, h1, h2, s1, s2, q⟩
theorem neD (h1 : Dp K H x d) (h2 : Dp K H y e) (s1 : SeqAt.shaped d = true) (s2 : SeqAt.shaped e = true) (q : Q (.bl (!PyData.eqv d e)) H) : rNeD K x y H Q := ⟨d, e, h1, h2, s1, s2, q⟩
theorem eqvRefl (s : SeqAt.shaped d = true) : PyData.eqv d d = true := SeqAt.eqv_refl d (SeqAt.canLay_of_shaped s)
theorem eqDr (h1 : Dp K H x d) (h2 : Dp K H y d) (s1 : SeqAt.shaped d = true) (q : Q (.bl true) H) : rEqD K x y H Q := ⟨d, d, h1, h2, s1, s1, by rw [eqvRefl s1]; exact q⟩
theorem neDr (h1 : Dp K H x d) (h2 : Dp K H y d) (s1 : SeqAt.shaped d = true) (q : Q (.bl false) H) : rNeD K x y H Q := ⟨d, d, h1, h2, s1, s1, by rw [eqvRefl s1]; exact q⟩
/-! isinstance -/
theorem isiTy {t T : String} {b : Bool} (h : TyOf K H x (.type t)) (k : kitB t T = some b) (q : Q (.bl b) H) : rIsi K [x, .ty T] H Q := ⟨x, .ty T, .type t, .type T, b, rfl, .ty T, .base h, kit_ty k, q⟩
theorem isiInt {T : String} {b : Bool} (k : kitB "int" T = some b) (q : Q (.bl b) H) : rIsi K [.int i, .ty T] H Q := isiTy (.int i) k q
theorem isiBl {T : String} {b c : Bool} (k : kitB "bool" T = some b) (q : Q (.bl b) H) : rIsi K [.bl c, .ty T] H Q := isiTy (.bl c) k q
theorem isiStr {T : String} {b : Bool} {s : Str} (k : kitB "str" T = some b) (q : Q (.bl b) H) : rIsi K [.str s, .ty T] H Q := isiTy (.str s) k q
theorem isiNon {T : String} {b : Bool} (k : kitB "NoneType" T = some b) (q : Q (.bl b) H) : rIsi K [.non, .ty T] H Q := isiTy .non k q
theorem isiLst {T : String} {b : Bool} (h : H a = some (.lst xs)) (k : kitB "list" T = some b) (q : Q (.bl b) H) : rIsi K [.ref a, .ty T] H Q := isiTy (.lst h) k q
theorem isiTup {T : String} {b : Bool} (h : H a = some (.tup xs)) (k : kitB "tuple" T = some b) (q : Q (.bl b) H) : rIsi K [.ref a, .ty T] H Q := isiTy (.tup h) k q
/-! loops -/
def xFR1 (g : TG) (tb : TS) (D : Ends) (σ : L2.St) (vs : List V) (H1 : Hp) : Prop := ∃ j : Int, vs = [.int j] ∧ -(2 ^ 62) ≤ j ∧ j < 2 ^ 62 ∧ ∃ W : Nat → Nat → L2.St → Hp → Prop, (∃ m, W 0 m σ H1) ∧ ∀ i m σ H, W i m σ H →
      ((Itr 0 j.toNat).stop i H ∧ D.nx σ H) ∨ ((Itr 0 j.toNat).go i H ∧ ∃ N : L2.St → Hp → Prop, (∀ σ' H', N σ' H' → ∃ m', m' < m ∧ W (i + 1) m' σ' H') ∧ ∀ x H', (Itr 0 j.toNat).yld i H x H' → g x σ H' fun σ2 H2 => tb { D with nx := N, ct := N, bk := D.nx } σ2 H2)
theorem forR1 (h : al σ H fun vs H1 => xFR1 g tb D σ vs H1) : tFor (iRng1 al) g tb D σ H := h
theorem xfr1 {k : Nat} (hb : -(2 ^ 62) ≤ n ∧ n < 2 ^ 62) (Pv : Nat → L2.St → Hp → Prop) (h0 : Pv 0 σ H)
    (hs : ∀ (i : Nat) σ' H', (i : Int) < n → Pv i σ' H' → tb { D with nx := Pv (i + 1), ct := Pv (i + 1), bk := D.nx } (σ'.set k (some (.int (i : Int)))) H') (hd : ∀ σ' H', Pv n.toNat σ' H' → D.nx σ' H') : xFR1 (gName k) tb D σ [.int n] H :=
  ⟨n, rfl, hb.1, hb.2, for_range (lo := 0) (n := n.toNat) Pv h0 (fun i σ' H' hi p => by
    have e0 : (0 : Int) + (i : Int) = (i : Int) := Int.zero_add _
    show tb { D with nx := Pv (i + 1), ct := Pv (i + 1), bk := D.nx } (σ'.set k (some (.int ((0 : Int) + (i : Int))))) H'
    rw [e0]
    exact hs i σ' H' (by omega) p) hd⟩
def xFR2 (g : TG) (tb : TS) (D : Ends) (σ : L2.St) (vs : List V) (H1 : Hp) : Prop := ∃ i0 j : Int, vs = [.int i0, .int j] ∧ (-(2 ^ 62) ≤ i0 ∧ i0 < 2 ^ 62 ∧ -(2 ^ 62) ≤ j ∧ j < 2 ^ 62) ∧ ∃ W : Nat → Nat → L2.St → Hp → Prop, (∃ m, W 0 m σ H1) ∧ ∀ i m σ H, W i m σ H →
      ((Itr i0 (j - i0).toNat).stop i H ∧ D.nx σ H) ∨ ((Itr i0 (j - i0).toNat).go i H ∧ ∃ N : L2.St → Hp → Prop, (∀ σ' H', N σ' H' → ∃ m', m' < m ∧ W (i + 1) m' σ' H') ∧ ∀ x H', (Itr i0 (j - i0).toNat).yld i H x H' → g x σ H' fun σ2 H2 => tb { D with nx := N, ct := N, bk := D.nx } σ2 H2)
theorem forR2 (h : al σ H fun vs H1 => xFR2 g tb D σ vs H1) : tFor (iRng2 al) g tb D σ H := h
theorem xfr2 {k : Nat} (hb : -(2 ^ 62) ≤ lo ∧ lo < 2 ^ 62 ∧ -(2 ^ 62) ≤ n ∧ n < 2 ^ 62) (Pv : Nat → L2.St → Hp → Prop) (h0 : Pv 0 σ H)
    (hs : ∀ (i : Nat) σ' H', lo + (i : Int) < n → Pv i σ' H' → tb { D with nx := Pv (i + 1), ct := Pv (i + 1), bk := D.nx } (σ'.set k (some (.int (lo + (i : Int))))) H') (hd : ∀ σ' H', Pv (n - lo).toNat σ' H' → D.nx σ' H') : xFR2 (gName k) tb D σ [.int lo, .int n] H :=
  ⟨lo, n, rfl, hb, for_range (lo := lo) (n := (n - lo).toNat) Pv h0 (fun i σ' H' hi p => hs i σ' H' (by omega) p) hd⟩
def xFL (K : PySem.W.Frag) (g : TG) (tb : TS) (D : Ends) (σ : L2.St) (x : V) (H1 : Hp) : Prop := ∃ a, x = .ref a ∧ (∃ xs, SqL K H1 a xs) ∧ ∃ W : Nat → Nat → L2.St → Hp → Prop, (∃ m, W 0 m σ H1) ∧ ∀ i m σ H, W i m σ H →
      ((Itl K a).stop i H ∧ D.nx σ H) ∨ ((Itl K a).go i H ∧ ∃ N : L2.St → Hp → Prop, (∀ σ' H', N σ' H' → ∃ m', m' < m ∧ W (i + 1) m' σ' H') ∧ ∀ x H', (Itl K a).yld i H x H' → g x σ H' fun σ2 H2 => tb { D with nx := N, ct := N, bk := D.nx } σ2 H2)
theorem forL (h : te σ H fun x H1 => xFL K g tb D σ x H1) : tFor (iList K te) g tb D σ H := h
theorem xfl (hx : SqL K H a xs) (Pv : Nat → L2.St → Hp → Prop) (h0 : Pv 0 σ H) (hl : ∀ i σ' H', i ≤ xs.length → Pv i σ' H' → SqL K H' a xs)
    (hs : ∀ i x σ' H', xs[i]? = some x → Pv i σ' H' → g x σ' H' fun σ2 H2 => tb { D with nx := Pv (i + 1), ct := Pv (i + 1), bk := D.nx } σ2 H2) (hd : ∀ σ' H', Pv xs.length σ' H' → D.nx σ' H') : xFL K g tb D σ (.ref a) H :=
  ⟨a, rfl, ⟨xs, hx⟩, for_list Pv h0 hl hs hd⟩
def xFT (K : PySem.W.Frag) (g : TG) (tb : TS) (D : Ends) (σ : L2.St) (x : V) (H1 : Hp) : Prop := ∃ a, x = .ref a ∧ (∃ xs, SqT K H1 a xs) ∧ ∃ W : Nat → Nat → L2.St → Hp → Prop, (∃ m, W 0 m σ H1) ∧ ∀ i m σ H, W i m σ H →
      ((Itt K a).stop i H ∧ D.nx σ H) ∨ ((Itt K a).go i H ∧ ∃ N : L2.St → Hp → Prop, (∀ σ' H', N σ' H' → ∃ m', m' < m ∧ W (i + 1) m' σ' H') ∧ ∀ x H', (Itt K a).yld i H x H' → g x σ H' fun σ2 H2 => tb { D with nx := N, ct := N, bk := D.nx } σ2 H2)
theorem forT (h : te σ H fun x H1 => xFT K g tb D σ x H1) : tFor (iTup K te) g tb D σ H := h
theorem xft (hx : SqT K H a xs) (Pv : Nat → L2.St → Hp → Prop) (h0 : Pv 0 σ H) (hl : ∀ i σ' H', i ≤ xs.length → Pv i σ' H' → SqT K H' a xs)
    (hs : ∀ i x σ' H', xs[i]? = some x → Pv i σ' H' → g x σ' H' fun σ2 H2 => tb { D with nx := Pv (i + 1), ct := Pv (i + 1), bk := D.nx } σ2 H2) (hd : ∀ σ' H', Pv xs.length σ' H' → D.nx σ' H') : xFT K g tb D σ (.ref a) H :=
  ⟨a, rfl, ⟨xs, hx⟩, for_tup Pv h0 hl hs hd⟩
/-- powers of written numbers -/
theorem pw {m : Int} (c : CPow i j) (h : i ^ j.toNat = m) (q : Q (.int m) H) : rI CPow (fun i j => .int (i ^ j.toNat)) (.int i) (.int j) H Q := i1 c (by rw [h]; exact q)
theorem atI_i {α : Type} {xs : List α} {i : Int} {v : α} (h0 : 0 ≤ i) (h : xs[i.toNat]? = some v) : atI xs i = some v := by
  have e : ((i.toNat : Nat) : Int) = i := Int.toNat_of_nonneg h0
  rw [← e]
  exact atI_nat h
end
end Rd
namespace Rd
open PySem PySem.Spec PyProof.Rows L2 Evl Dk
section
variable {σ : L2.St} {H : Hp} {v x : V} {K : PySem.W.Frag} {D : Ends} {ta te : TE} {a C dx : Addr} {fs : List (Str × V)} {f : Str}
def xSt (K : PySem.W.Frag) (f : Str) (y x : V) (H2 : Hp) (N : Hp → Prop) : Prop := ∃ a C dx fs, x = .ref a ∧ H2 a = some (.ins C dx fs) ∧ Cls K C ∧ NoAttr K C f ∧ fs.length < 1000 ∧ N (upd H2 a (.ins C dx (putF f y fs)))
theorem sfld (h : te σ H fun y H1 => ta σ H1 fun x H2 => xSt K f y x H2 fun H3 => D.nx σ H3) : sFld K ta te f D σ H := h
theorem xst {N : Hp → Prop} (h : H a = some (.ins C dx fs)) (c : Cls K C) (n : NoAttr K C f) (l : Nat.blt fs.length 1000 = true) (q : N (upd H a (.ins C dx (putF f v fs)))) : xSt K f v (.ref a) H N := ⟨a, C, dx, fs, rfl, h, c, n, Nat.le_of_ble_eq_true l, q⟩
def xMk (C : Addr) (sp : V → Hp → VK → Prop) (H : Hp) (Q : VK) : Prop := ∀ x dx, H x = none → H dx = none → dx ≠ x → sp (.ref x) (upd (upd H dx (.own x)) x (.ins C dx [])) (fun v H2 => v = .non ∧ Q (.ref x) H2)
theorem make {C : Addr} {sp : Sp} {dvs : List V} {E : XK} {al : TA} {Q : VK} (h : al σ H fun vs H1 => xMk C (fun x H2 Q2 => sp (x :: (vs ++ dvs)) H2 Q2 E) H1 Q) : tMake C sp dvs E al σ H Q := h
/-- a new instance, told by one fact -/
theorem xmk {C : Addr} {sp : V → Hp → VK → Prop} {H : Hp} {Q : VK} (h : ∀ x dx H', Ex H H' → H x = none → H' x = some (.ins C dx []) → sp (.ref x) H' (fun v H2 => v = .non ∧ Q (.ref x) H2)) : xMk C sp H Q := fun x dx nx nd ne =>
  h x dx _ (fun b o e => by rw [upd_ne (ne_of_none e nx), upd_ne (ne_of_none e nd)]; exact e) nx upd_same
theorem xmeth {m : Str} {P : Prop} (h : H a = some (.ins C dx fs)) (l : fs.lookup m = none) (p : P) : xMeth C m (.ref a) H P := ⟨a, dx, fs, rfl, h, l, p⟩
end
end Rd
namespace Dt
open PySem PySem.Spec PyProof.Rows L2 Evl
/-- no list within -/
def noL : PyData → Bool
  | .list _ => false
  | .tuple ds => ds.attach.all fun ⟨d, _⟩ => noL d
  | _ => true
section
variable {K : PySem.W.Frag} {H : Hp} {l : Addr} {ws : List V} {o : HO}
theorem sqt_upd {a : Addr} {xs : List V} (h : H l = some (.lst ws)) (s : SqT K H a xs) : SqT K (upd H l o) a xs := by
  rcases s with (s | ⟨ob, s⟩) | s
  · refine .inl (.inl ?_)
    rw [upd_ne (fun z => by subst z; rw [h] at s; cases s)]; exact s
  · refine .inl (.inr ⟨ob, ?_⟩)
    rw [upd_ne (fun z => by subst z; rw [h] at s; cases s)]; exact s
  · exact .inr s
mutual
theorem updL (h : H l = some (.lst ws)) : ∀ (d : PyData) (v : V), noL d = true → Dp K H v d → Dp K (upd H l o) v d
  | .none, _, _, h1 => by cases h1; exact .non
  | .bool b, _, _, h1 => by cases h1; exact .bl b
  | .int i, _, _, h1 => by cases h1; exact .int i
  | .str x, _, _, h1 => by cases h1; exact .str x
  | .list _, _, n, _ => by simp [noL] at n
  | .tuple ds, _, n, h1 => by
    cases h1 with
    | tup hs ha => exact .tup (sqt_upd h hs) (updLA h ds _ (by simpa [noL] using n) ha)
  | .dict _, _, _, h1 => by cases h1
theorem updLA (h : H l = some (.lst ws)) : ∀ (ds : List PyData) (vs : List V), (∀ d ∈ ds, noL d = true) → DpAll K H vs ds → DpAll K (upd H l o) vs ds
  | [], _, _, h1 => by cases h1; exact .nil
  | d :: ds, _, n, h1 => by
    cases h1 with
    | cons h2 h3 => exact .cons (updL h d _ (n d List.mem_cons_self) h2) (updLA h ds _ (fun d hd => n d (List.mem_cons_of_mem _ hd)) h3)
end
end
end Dt
namespace Rd
open PySem PySem.Spec PyProof.Rows L2 Evl Dk
/-- only x has changed, which was not there -/
theorem exBut {H H2 H' : Hp} {x : Addr} (e : Ex H H2) (n : H x = none) (s : ∀ b o, b ≠ x → H2 b = some o → H' b = some o) : Ex H H' := fun b o h => s b o (ne_of_none h n) (e b o h)
end Rd
namespace Rd
open PySem PySem.Spec PyProof.Rows L2 Evl Dk
section
variable {σ : L2.St} {H : Hp} {Q : VK} {te : TE} {xs : List V} {v : V} {b : Bool} {t : TT} {QB : Bool → Hp → Prop} {K : PySem.W.Frag} {l : Addr} {a C dx : Addr} {fs : List (Str × V)}
theorem evL (h : EvL te σ H xs) (q : ∀ p H', H p = none → Ex H H' → H' p = some (.lst xs) → Q (.ref p) H') : te σ H Q := h H (Ex.refl H) Q q
theorem evV (h : Ev te σ H v) (q : ∀ H', Ex H H' → Q v H') : te σ H Q := h H (Ex.refl H) Q q
theorem evYes : EvT tYes σ H true := fun H1 _ _ q => q H1 (Ex.refl H1)
theorem given_all (n : Nat) (v : Nat → V) : given n (fun _ => true) v = (List.range n).map v := by
  unfold given
  rw [List.filter_eq_self.mpr (fun _ _ => rfl)]
theorem isiOwn {b : Bool} {D : Addr} (h : H a = some (.ins C dx fs)) (cl : Cls K C) (ha : PySem.W.findIn K (.ref C) "__class__" = some (some (.builtin "object.__class__"))) (hn : PySem.W.specialIn K (.builtin "object.__class__") "__get__" = some (some (.builtin "getset_descriptor.__get__")))
    (htk : PySem.W.takesIn K (.builtin "object.__class__") = some true) (hm : PySem.W.mroIn K C (.type "object") = some true) (k : PySem.W.kitOne K (.ref C) (.ref D) = some b) (q : Q (.bl b) H) : rIsi K [.ref a, .ref D] H Q :=
  ⟨.ref a, .ref D, .ref C, .ref D, b, rfl, .own D, .base (.ins h cl ha hn htk hm), k, q⟩
theorem cat {zs : List V} {c : Addr} (h1 : H l = some (.lst xs)) (h2 : H c = some (.lst zs)) (n : xs.length + zs.length ≤ 100000) (q : ∀ p H', H p = none → Ex H H' → H' p = some (.lst (xs ++ zs)) → Q (.ref p) H') : rCat (.ref l) (.ref c) H Q :=
  ⟨l, c, xs, zs, rfl, rfl, h1, h2, sz_of n, fun p hp => q p _ hp (Ex.new hp) upd_same⟩
theorem lstRg {a b : Int} (h : -100000 ≤ a ∧ a ≤ 100000 ∧ -100000 ≤ b ∧ b ≤ 100000) (q : ∀ p H', H p = none → Ex H H' → H' p = some (.lst (rgV a b)) → Q (.ref p) H') : RgOk a b ∧ ∀ q, H q = none → Q (.ref q) (upd H q (.lst (rgV a b))) :=
  ⟨⟨by omega, by omega, by omega, by omega, by omega⟩, fun p hp => q p _ hp (Ex.new hp) upd_same⟩
theorem pw20 {m : Int} (e : (10 : Int) ^ (20 : Int).toNat = m) (q : Q (.int m) H) : rI CPow (fun i j => .int (i ^ j.toNat)) (.int 10) (.int 20) H Q := pw ⟨by decide, by decide, by decide⟩ e q
end
end Rd
namespace Rd
open PySem PySem.Spec PyProof.Rows L2 Evl Dk
def rCatS : R2 := fun x y H Q => ∃ i j, x = .str i ∧ y = .str j ∧ i.length + j.length ≤ sizeLine ∧ Q (.str (i ++ j)) H
theorem op_addS {X : Cx} : OpR X (binaryOp .Add) rCatS := op_add_str
theorem catS {H : Hp} {Q : VK} {i j : Str} (h : i.length + j.length ≤ 100000) (q : Q (.str (i ++ j)) H) : rCatS (.str i) (.str j) H Q := ⟨i, j, rfl, rfl, sz_of h, q⟩
end Rd
namespace Rd
open PySem PySem.Spec PyProof.Rows L2 Evl Dk
section
variable {σ : L2.St} {H : Hp} {Q : VK} {te tf : TE} {x y : V} {n m : Int}
def xR1 (x : V) (H1 : Hp) (Q : VK) : Prop := ∃ n, x = .int n ∧ (RgOk 0 n ∧ ∀ q, H1 q = none → Q (.ref q) (upd H1 q (.lst (rgV 0 n))))
theorem listRg1 (h : te σ H fun x H1 => xR1 x H1 Q) : tLstRg (tRg1 te) σ H Q := h
theorem xr1 (h : -100000 ≤ n ∧ n ≤ 100000) (q : ∀ p H', H p = none → Ex H H' → H' p = some (.lst (rgV 0 n)) → Q (.ref p) H') : xR1 (.int n) H Q := ⟨n, rfl, lstRg ⟨by omega, by omega, h.1, h.2⟩ q⟩
end
end Rd
namespace Rd
open PySem PySem.Spec PyProof.Rows L2 Evl Dk
section
variable {σ : L2.St} {H : Hp} {Q : VK} {te tf : TE} {x y : V} {n m : Int} {l : Addr} {xs : List V}
def xR2 (x y : V) (H1 : Hp) (Q : VK) : Prop := ∃ i j, x = .int i ∧ y = .int j ∧ (RgOk i j ∧ ∀ q, H1 q = none → Q (.ref q) (upd H1 q (.lst (rgV i j))))
theorem listRg2 (h : te σ H fun x H1 => tf σ H1 fun y H2 => xR2 x y H2 Q) : tLstRg (tRg2 te tf) σ H Q := h
theorem xr2 (h : -100000 ≤ n ∧ n ≤ 100000 ∧ -100000 ≤ m ∧ m ≤ 100000) (q : ∀ p H', H p = none → Ex H H' → H' p = some (.lst (rgV n m)) → Q (.ref p) H') : xR2 (.int n) (.int m) H Q := ⟨n, m, rfl, rfl, lstRg h q⟩
theorem eqB {a b : Bool} (q : Q (.bl (decide (a = b))) H) : rEq (.bl a) (.bl b) H Q := ⟨rfl, by rw [dB]; exact q⟩
theorem neB {a b : Bool} (q : Q (.bl (!decide (a = b))) H) : rNe (.bl a) (.bl b) H Q := ⟨rfl, by rw [dB]; exact q⟩
def rInsert : V → List V → Hp → VK → Prop := fun x vs H Q => ∃ (l : Addr) (xs : List V) (i : Int) (y : V), x = .ref l ∧ vs = [.int i, y] ∧ H l = some (.lst xs) ∧ xs.length < sizeLine ∧ 0 ≤ i ∧ i < 2 ^ 63 ∧ Q .non (upd H l (.lst (xs.take i.toNat ++ [y] ++ xs.drop i.toNat)))
theorem mt_ins {X : Cx} : MtR X "list.insert" rInsert := mt_insert
theorem insert {i : Int} {y : V} (h : H l = some (.lst xs)) (hz : xs.length < 100000) (h0 : 0 ≤ i ∧ i ≤ 100000) (q : Q .non (upd H l (.lst (xs.take i.toNat ++ [y] ++ xs.drop i.toNat)))) : rInsert (.ref l) [.int i, y] H Q :=
  ⟨l, xs, i, y, rfl, rfl, h, sz_lt hz, h0.1, by omega, q⟩
theorem rgV_get {a b : Int} {i : Nat} {y : V} (h : (rgV a b)[i]? = some y) : y = .int (a + i) ∧ (i : Int) < b - a := by
  unfold rgV at h
  rw [List.getElem?_map] at h
  by_cases hi : i < (b - a).toNat
  · rw [List.getElem?_range hi] at h
    exact ⟨(Option.some.inj h).symm, by omega⟩
  · rw [List.getElem?_eq_none (by rw [List.length_range]; omega)] at h; cases h
end
end Rd
namespace Rd
open PySem PySem.Spec PyProof.Rows L2 Evl Dk
section
variable {σ : L2.St} {H : Hp} {Q : VK} {te tl : TE} {al : TA} {x y : V} {n m : Int} {l : Addr} {xs : List V} {g : TG} {tt : TT} {vs : List Nat} {K : PySem.W.Frag} {j : Nat}
def xLcR (g : TG) (tt : TT) (te : TE) (vs : List Nat) (σ : L2.St) (ws : List V) (H : Hp) (Q : VK) : Prop := tLc (iRng1 (fun _ H Q => Q ws H)) g tt te vs σ H Q
theorem lcR1 (h : al σ H fun ws H1 => xLcR g tt te vs σ ws H1 Q) : tLc (iRng1 al) g tt te vs σ H Q := h
theorem xlcR (f : Nat → Bool) (v : Nat → V) (hn : 0 ≤ n ∧ n ≤ 40000) (hw : ∀ x, wipe ((wipe σ vs).set j (some x)) vs = wipe σ vs)
    (ht : ∀ (i : Nat) H1, Ex H H1 → (i : Int) < n → EvT tt ((wipe σ vs).set j (some (.int (i : Int)))) H1 (f i)) (he : ∀ (i : Nat) H1, Ex H H1 → (i : Int) < n → f i = true → Ev te ((wipe σ vs).set j (some (.int (i : Int)))) H1 (v i))
    (q : ∀ p H', H p = none → Ex H H' → H' p = some (.lst (given n.toNat f v)) → Q (.ref p) H') : xLcR (gName j) tt te vs σ [.int n] H Q :=
  evL (el_lcR1 f v (fun H1 _ Q q => q H1 (Ex.refl H1)) hn hw ht he) q
def xLcL (K : PySem.W.Frag) (g : TG) (tt : TT) (te : TE) (vs : List Nat) (σ : L2.St) (x : V) (H : Hp) (Q : VK) : Prop := tLc (iList K (fun _ H Q => Q x H)) g tt te vs σ H Q
theorem lcL (h : tl σ H fun x H1 => xLcL K g tt te vs σ x H1 Q) : tLc (iList K tl) g tt te vs σ H Q := h
theorem xlcL (f : Nat → Bool) (v : Nat → V) (hx : SqL K H l xs) (hz : xs.length ≤ 40000) (hw : ∀ x, wipe ((wipe σ vs).set j (some x)) vs = wipe σ vs)
    (ht : ∀ (i : Nat) (x : V) H1, Ex H H1 → xs[i]? = some x → EvT tt ((wipe σ vs).set j (some x)) H1 (f i)) (he : ∀ (i : Nat) (x : V) H1, Ex H H1 → xs[i]? = some x → f i = true → Ev te ((wipe σ vs).set j (some x)) H1 (v i))
    (q : ∀ p H', H p = none → Ex H H' → H' p = some (.lst (given xs.length f v)) → Q (.ref p) H') : xLcL K (gName j) tt te vs σ (.ref l) H Q :=
  evL (el_lcL (a := l) f v (fun H1 _ Q q => q H1 (Ex.refl H1)) hx hz hw ht he) q
end
end Rd
namespace Rd
open PySem PySem.Spec PyProof.Rows L2 Evl Dk
section
variable {σ : L2.St} {H G H' H2 : Hp} {Q : VK} {te tl : TE} {al : TA} {x y : V} {n m : Int} {l p : Addr} {xs : List V} {tt : TT} {vs : List Nat} {K : PySem.W.Frag} {j : Nat} {o : HO}
/-- a tuple of the written part -/
theorem sqtK {k : Addr} {dd : Option Addr} {its : Array Value} {nn : Nat} {sl : Array (Option Value)} (h : K.lookup k = some ⟨.type "tuple", dd, .seq its nn, sl⟩) (v : Vals xs its.toList) (hz : xs.length ≤ 1000) : SqT K H k xs :=
  .inr ⟨_, its, nn, h, rfl, rfl, Nat.le_trans (Nat.le_of_eq (by simpa using v.length.symm)) (Nat.le_trans hz (by decide : 1000 ≤ sizeLine)), v⟩
/-- a part of the heap grows by a new object -/
theorem grow1 (e : Ex G H') (n : H' p = none) : Ex G (upd G p o) := Ex.new (fresh_back e n)
theorem grow2 (e : Ex G H') (e2 : Ex H' H2) (h : H2 p = some o) : Ex (upd G p o) H2 := fun a u ha => by
  by_cases hap : a = p
  · subst hap; rw [upd_same] at ha; rw [h]; exact ha
  · rw [upd_ne hap] at ha; exact e2 _ _ (e _ _ ha)
theorem grow3 {D : Addr} {u : HO} (g : G D = none) (n : H' p = none) (h : H' D = some u) : (upd G p o) D = none := by
  rw [upd_ne (ne_of_none h n)]; exact g
/-- a comprehension over a list; its items are data, made of what stood ahead of it and of what each turn makes -/
def Lw (K : PySem.W.Frag) (H : Hp) (R : Nat → PyData → Prop) (D : Addr) (i : Nat) (H' : Hp) : Prop := H D = none ∧ ∃ (G : Hp) (ys : List V) (ds : List PyData), Ex H G ∧ Ex G H' ∧ G D = none ∧ H' D = some (.lst ys) ∧ DpAll K G ys ds ∧ ds.length = i ∧ ∀ k d, ds[k]? = some d → R k d
theorem lw_turn {R : Nat → PyData → Prop} {D : Addr} {i : Nat} {σ2 : L2.St} (hi : i < 50000) (pw : Lw K H R D i H')
    (he : ∀ (G : Hp) (acc : List V), Ex H G → Ex G H' → G D = none → H' D = some (.lst acc) → ∀ Q' : VK, (∀ y H2 G2 d, Ex G G2 → Ex G2 H2 → G2 D = none → Ex H' H2 → Dp K G2 y d → R i d → Q' y H2) → te σ2 H' Q') :
    te σ2 H' fun y H4 => ∃ acc, H4 D = some (.lst acc) ∧ acc.length < sizeLine ∧ Lw K H R D (i + 1) (upd H4 D (.lst (acc ++ [y]))) := by
  obtain ⟨hD, G, ys, ds, e1, e2, g, hys, hd, hl, hR⟩ := pw
  refine he G ys e1 e2 g hys _ fun y H2 G2 d a1 a2 a3 a4 a5 a6 => ⟨ys, a4 _ _ hys, sz_lt (by rw [Dt.lenA hd]; omega), hD, G2, ys ++ [y], ds ++ [d], e1.trans a1, Ex.mut a2 a3, a3, upd_same, Dt.snocA (Dt.mnA hd a1) a5, by rw [List.length_append, hl]; rfl, fun k d' hk => ?_⟩
  by_cases hki : k < ds.length
  · rw [List.getElem?_append_left hki] at hk; exact hR k d' hk
  · rw [List.getElem?_append_right (by omega)] at hk
    have hk0 : k - ds.length = 0 := by
      cases e : k - ds.length with
      | zero => rfl
      | succ m => rw [e] at hk; cases hk
    rw [hk0] at hk
    have hd' : d = d' := Option.some.inj hk
    rw [← hd', show k = i from by omega]
    exact a6
theorem xlcG (R : Nat → PyData → Prop) (hx : SqL K H l xs) (hz : xs.length ≤ 40000) (hw : ∀ x, wipe ((wipe σ vs).set j (some x)) vs = wipe σ vs)
    (he : ∀ (i : Nat) (x : V) (D : Addr) (G H' : Hp) (acc : List V), xs[i]? = some x → H D = none → Ex H G → Ex G H' → G D = none → H' D = some (.lst acc) →
      ∀ Q' : VK, (∀ y H2 G2 d, Ex G G2 → Ex G2 H2 → G2 D = none → Ex H' H2 → Dp K G2 y d → R i d → Q' y H2) → te ((wipe σ vs).set j (some x)) H' Q')
    (q : ∀ p G' H' ys ds, H p = none → Ex H G' → Ex G' H' → G' p = none → H' p = some (.lst ys) → DpAll K G' ys ds → ds.length = xs.length → (∀ i d, ds[i]? = some d → R i d) → Q (.ref p) H') : xLcL K (gName j) tYes te vs σ (.ref l) H Q :=
  ⟨l, rfl, ⟨xs, hx⟩, fun D hD => lc_list (xs := xs) (Lw K H R D) ⟨hD, H, [], [], Ex.refl H, Ex.new hD, hD, upd_same, .nil, rfl, fun _ _ h => nomatch h⟩
    (fun i H' _ ⟨_, G, _, _, e1, e2, _⟩ => ex_l (e1.trans e2) hx)
    (fun i x H' hi p => ⟨hw x, iteT (B := Lw K H R D (i + 1) H') (lw_turn (by have := (List.getElem?_eq_some_iff.mp hi).1; omega) p fun G acc a1 a2 a3 a4 => he i x D G H' acc hi hD a1 a2 a3 a4)⟩)
    (fun H' ⟨_, G, ys, ds, e1, e2, g, hys, hd, hl, hR⟩ => q D G H' ys ds hD e1 e2 g hys hd hl hR)⟩
theorem xlcGR (R : Nat → PyData → Prop) (hn : 0 ≤ n ∧ n ≤ 40000) (hw : ∀ x, wipe ((wipe σ vs).set j (some x)) vs = wipe σ vs)
    (he : ∀ (i : Nat) (D : Addr) (G H' : Hp) (acc : List V), (i : Int) < n → H D = none → Ex H G → Ex G H' → G D = none → H' D = some (.lst acc) →
      ∀ Q' : VK, (∀ y H2 G2 d, Ex G G2 → Ex G2 H2 → G2 D = none → Ex H' H2 → Dp K G2 y d → R i d → Q' y H2) → te ((wipe σ vs).set j (some (.int (i : Int)))) H' Q')
    (q : ∀ p G' H' ys ds, H p = none → Ex H G' → Ex G' H' → G' p = none → H' p = some (.lst ys) → DpAll K G' ys ds → ds.length = n.toNat → (∀ i d, ds[i]? = some d → R i d) → Q (.ref p) H') : xLcR (gName j) tYes te vs σ [.int n] H Q :=
  ⟨n, rfl, by omega, by omega, fun D hD => lc_range (lo := 0) (n := n.toNat) (Lw K H R D) ⟨hD, H, [], [], Ex.refl H, Ex.new hD, hD, upd_same, .nil, rfl, fun _ _ h => nomatch h⟩
    (fun i H' hi p => by
      have e0 : (0 : Int) + (i : Int) = (i : Int) := Int.zero_add _
      show wipe ((wipe σ vs).set j (some (.int ((0 : Int) + (i : Int))))) vs = wipe σ vs ∧ _
      rw [e0]
      exact ⟨hw _, iteT (B := Lw K H R D (i + 1) H') (lw_turn (by omega) p fun G acc a1 a2 a3 a4 => he i D G H' acc (by omega) hD a1 a2 a3 a4)⟩)
    (fun H' ⟨_, G, ys, ds, e1, e2, g, hys, hd, hl, hR⟩ => q D G H' ys ds hD e1 e2 g hys hd hl hR)⟩
end
end Rd
namespace Rd
open PySem PySem.Spec PyProof.Rows L2 Evl Dk
section
variable {σ σ' : L2.St} {H H' : Hp} {Q : VK} {te tl : TE} {al : TA} {x y v : V} {n m : Int} {l p : Addr} {xs : List V} {tt : TT} {vs : List Nat} {K : PySem.W.Frag} {j : Nat} {o : HO} {g : TG} {D : Ends} {tb : TS}
/-! loops and comprehensions over a text -/
def xFS (g : TG) (tb : TS) (D : Ends) (σ : L2.St) (x : V) (H1 : Hp) : Prop := ∃ z, x = .str z ∧ ∃ W : Nat → Nat → L2.St → Hp → Prop, (∃ m, W 0 m σ H1) ∧ ∀ i m σ H, W i m σ H →
      ((Its z).stop i H ∧ D.nx σ H) ∨ ((Its z).go i H ∧ ∃ N : L2.St → Hp → Prop, (∀ σ' H', N σ' H' → ∃ m', m' < m ∧ W (i + 1) m' σ' H') ∧ ∀ x H', (Its z).yld i H x H' → g x σ H' fun σ2 H2 => tb { D with nx := N, ct := N, bk := D.nx } σ2 H2)
theorem forS (h : te σ H fun x H1 => xFS g tb D σ x H1) : tFor (iStr te) g tb D σ H := h
theorem xfs {z : Str} (Pv : Nat → L2.St → Hp → Prop) (h0 : Pv 0 σ H)
    (hs : ∀ i c σ' H', z.cps[i]? = some c → Pv i σ' H' → g (.str ⟨#[c]⟩) σ' H' fun σ2 H2 => tb { D with nx := Pv (i + 1), ct := Pv (i + 1), bk := D.nx } σ2 H2) (hd : ∀ σ' H', Pv z.cps.size σ' H' → D.nx σ' H') : xFS g tb D σ (.str z) H := by
  refine ⟨z, rfl, fun i m σ' H' => m = z.cps.size - i ∧ i ≤ z.cps.size ∧ Pv i σ' H', ⟨_, rfl, Nat.zero_le _, h0⟩, ?_⟩
  rintro i m σ' H' ⟨rfl, hi, p⟩
  by_cases hlt : i < z.cps.size
  · exact .inr ⟨hlt, Pv (i + 1), fun σ2 H2 p' => ⟨z.cps.size - (i + 1), by omega, rfl, hlt, p'⟩, fun x H2 ⟨e, c, hc, ex⟩ => by subst e; subst ex; exact hs i c σ' _ hc p⟩
  · have e : i = z.cps.size := by omega
    subst e
    exact .inl ⟨Nat.le_refl _, hd σ' H' p⟩
def xLcS (g : TG) (tt : TT) (te : TE) (vs : List Nat) (σ : L2.St) (x : V) (H : Hp) (Q : VK) : Prop := tLc (iStr (fun _ H Q => Q x H)) g tt te vs σ H Q
theorem lcS (h : tl σ H fun x H1 => xLcS g tt te vs σ x H1 Q) : tLc (iStr tl) g tt te vs σ H Q := h
theorem xlcS {z : Str} (f : Nat → Bool) (v : Nat → V) (hz : z.cps.size ≤ 40000) (hw : ∀ x, wipe ((wipe σ vs).set j (some x)) vs = wipe σ vs)
    (ht : ∀ (i c : Nat) H1, Ex H H1 → z.cps[i]? = some c → EvT tt ((wipe σ vs).set j (some (.str ⟨#[c]⟩))) H1 (f i)) (he : ∀ (i c : Nat) H1, Ex H H1 → z.cps[i]? = some c → f i = true → Ev te ((wipe σ vs).set j (some (.str ⟨#[c]⟩))) H1 (v i))
    (q : ∀ p H', H p = none → Ex H H' → H' p = some (.lst (given z.cps.size f v)) → Q (.ref p) H') : xLcS (gName j) tt te vs σ (.str z) H Q := by
  refine ⟨z, rfl, fun D hD => ⟨fun i m H' => m = z.cps.size - i ∧ i ≤ z.cps.size ∧ Cw H f v D i H', ⟨_, rfl, Nat.zero_le _, hD, Ex.new hD, upd_same⟩, ?_⟩⟩
  rintro i m H' ⟨rfl, hi, p⟩
  by_cases hlt : i < z.cps.size
  · exact .inr ⟨hlt, fun H2 => Cw H f v D (i + 1) H2, fun H2 p' => ⟨z.cps.size - (i + 1), by omega, rfl, hlt, p'⟩, fun x H2 ⟨e, c, hc, ex⟩ => by
      subst e; subst ex
      exact ⟨hw _, cw_turn p (by omega) (ht i c H (Ex.refl H) hc) fun hf => he i c H (Ex.refl H) hc hf⟩⟩
  · have e : i = z.cps.size := by omega
    subst e
    exact .inl ⟨Nat.le_refl _, q D H' p.1 p.2.1 p.2.2⟩
/-! in a tuple or a list of flat items -/
theorem inT {b : Bool} (h : SqT K H p xs) (hx : flatV x = true) (ha : xs.all flatV = true) (hb : inV x xs = b) (q : Q (.bl b) H) : rIn K false x (.ref p) H Q := ⟨p, xs, rfl, .inr h, hx, ha, by rw [hb]; exact q⟩
theorem ninT {b : Bool} (h : SqT K H p xs) (hx : flatV x = true) (ha : xs.all flatV = true) (hb : inV x xs = b) (q : Q (.bl (!b)) H) : rIn K true x (.ref p) H Q := ⟨p, xs, rfl, .inr h, hx, ha, by rw [hb]; exact q⟩
/-! texts -/
def rJoin (K : PySem.W.Frag) : V → List V → Hp → VK → Prop := fun x xs H Q => ∃ a p, ∃ ys : List Str, x = .str a ∧ xs = [.ref p] ∧ (SqL K H p (ys.map V.str) ∨ SqT K H p (ys.map V.str)) ∧ (ys.map (·.length)).sum + ys.length * a.length ≤ 16777216 ∧ Q (.str (Txt.join a ys)) H
theorem mt_jn {X : Cx} : MtR X "str.join" (rJoin X.K) := mt_join
def rFind : V → List V → Hp → VK → Prop := fun x xs H Q => ∃ a b, x = .str a ∧ xs = [.str b] ∧ Q (.int (Txt.find a b)) H
theorem mt_fd {X : Cx} : MtR X "str.find" rFind := mt_find
def rSix : V → List V → Hp → VK → Prop := fun x xs H Q => ∃ a b i rest, x = .str a ∧ xs = [.str b] ∧ Builtin.Str.occurrences a b 0 a.length 1 = i :: rest ∧ Q (.int (i : Nat)) H
theorem mt_six {X : Cx} : MtR X "str.index" rSix := mt_sindex
theorem join {a : Str} {ys : List Str} (h : SqL K H p (ys.map V.str)) (hz : (ys.map (·.length)).sum + ys.length * a.length ≤ 16777216) (q : Q (.str (Txt.join a ys)) H) : rJoin K (.str a) [.ref p] H Q := ⟨a, p, ys, rfl, rfl, .inl h, hz, q⟩
theorem find {a b : Str} (q : Q (.int (Txt.find a b)) H) : rFind (.str a) [.str b] H Q := ⟨a, b, rfl, rfl, q⟩
theorem six {a b : Str} {i : Nat} {r : List Nat} (h : Builtin.Str.occurrences a b 0 a.length 1 = i :: r) (q : Q (.int (i : Nat)) H) : rSix (.str a) [.str b] H Q := ⟨a, b, i, r, rfl, rfl, h, q⟩
def xIsS (x : V) (P : Prop) : Prop := (∃ a, x = .str a) ∧ P
theorem m1 {r : V → List V → Hp → VK → Prop} {tf : TE} (h : te σ H fun x H1 => xIsS x (tf σ H1 fun y H2 => r x [y] H2 Q)) : tM1 r te tf σ H Q := h
theorem m0 {r : V → List V → Hp → VK → Prop} (h : te σ H fun x H1 => xIsS x (r x [] H1 Q)) : tM0 r te σ H Q := h
theorem xiss {a : Str} {P : Prop} (h : P) : xIsS (.str a) P := ⟨⟨a, rfl⟩, h⟩
def rTupOf (K : PySem.W.Frag) : List V → Hp → VK → Prop := fun xs H Q => ∃ p ys, xs = [.ref p] ∧ ((SqL K H p ys ∧ ∀ l, H l = none → Q (.ref l) (upd H l (.tup ys))) ∨ (SqT K H p ys ∧ Q (.ref p) H))
theorem c_tup {X : Cx} : CallR X (.type "tuple") (rTupOf X.K) := call_tuple_of
theorem tupOfL (h : SqL K H p xs) (q : ∀ l H', H l = none → Ex H H' → H' l = some (.tup xs) → Q (.ref l) H') : rTupOf K [.ref p] H Q := ⟨p, xs, rfl, .inl ⟨h, fun l hl => q l _ hl (Ex.new hl) upd_same⟩⟩
theorem tupOfT (h : SqT K H p xs) (q : Q (.ref p) H) : rTupOf K [.ref p] H Q := ⟨p, xs, rfl, .inr ⟨h, q⟩⟩
end
end Rd
namespace Rd
open PySem PySem.Spec PyProof.Rows L2 Evl Dk
theorem ip_addS {X : Cx} : PIp X .Add rCatS := by
  rintro pins s σ H x y v u Q I r1 r2 ⟨i, j, rfl, rfl, hz, q⟩
  obtain ⟨t, rfl⟩ := r1
  obtain ⟨t', rfl⟩ := r2
  exact SB.iadd (fun _ _ => ⟨.str _, H, I.tok _, ⟨_, rfl⟩, q⟩) hz
end Rd
namespace Rd
open PySem PySem.Spec PyProof.Rows L2 Evl Dk
theorem lenSL {s : Str} {n : Nat} {H : Hp} {Q : VK} (h : s.length = n) (hn : n ≤ 100000) (q : Q (.int n) H) : Rd.rLenStr [.str s] H Q := ⟨s, rfl, sz_of (by rw [h]; exact hn), by rw [h]; exact q⟩
end Rd
namespace Dt
open PySem PySem.Spec PyProof.Rows L2 Evl
section
variable {K : PySem.W.Frag} {H : Hp} {l C dx : Addr} {fs : List (Str × V)} {o : HO}
theorem rd_ins {a : Addr} {u : HO} (h : H l = some (.ins C dx fs)) (n : ∀ C dx fs, u ≠ .ins C dx fs) (s : L2.Rd H a u) : L2.Rd (upd H l o) a u := by
  rcases s with s | ⟨ob, s⟩
  · exact .inl (by rw [upd_ne (fun z => by subst z; rw [h] at s; exact n _ _ _ (Option.some.inj s).symm)]; exact s)
  · exact .inr ⟨ob, by rw [upd_ne (fun z => by subst z; rw [h] at s; cases s)]; exact s⟩
theorem sqt_ins {a : Addr} {xs : List V} (h : H l = some (.ins C dx fs)) (s : SqT K H a xs) : SqT K (upd H l o) a xs := by
  rcases s with s | s
  · exact .inl (rd_ins h (fun _ _ _ z => by cases z) s)
  · exact .inr s
theorem sql_ins {a : Addr} {xs : List V} (h : H l = some (.ins C dx fs)) (s : SqL K H a xs) : SqL K (upd H l o) a xs := by
  rcases s with s | s
  · exact .inl (rd_ins h (fun _ _ _ z => by cases z) s)
  · exact .inr s
mutual
/-- data stays where an instance changes -/
theorem updI (h : H l = some (.ins C dx fs)) : ∀ (d : PyData) (v : V), Dp K H v d → Dp K (upd H l o) v d
  | .none, _, h1 => by cases h1; exact .non
  | .bool b, _, h1 => by cases h1; exact .bl b
  | .int i, _, h1 => by cases h1; exact .int i
  | .str x, _, h1 => by cases h1; exact .str x
  | .list ds, _, h1 => by
    cases h1 with
    | lst hs ha => exact .lst (sql_ins h hs) (updIA h ds _ ha)
  | .tuple ds, _, h1 => by
    cases h1 with
    | tup hs ha => exact .tup (sqt_ins h hs) (updIA h ds _ ha)
  | .dict _, _, h1 => by cases h1
theorem updIA (h : H l = some (.ins C dx fs)) : ∀ (ds : List PyData) (vs : List V), DpAll K H vs ds → DpAll K (upd H l o) vs ds
  | [], _, h1 => by cases h1; exact .nil
  | d :: ds, _, h1 => by
    cases h1 with
    | cons h2 h3 => exact .cons (updI h d _ h2) (updIA h ds _ h3)
end
end
end Dt
namespace Rd
open PySem PySem.Spec PyProof.Rows L2 Evl Dk
/-- what a for walks: a list or a tuple -/
def iSeq (K : PySem.W.Frag) (te : TE) : TI := fun σ H R => iList K te σ H R ∨ iTup K te σ H R
theorem pi_seq {X : Cx} {tg l : Expr} {tl : TE} (hl : PE X l tl) : PI X tg l (iSeq X.K tl) := by
  refine ⟨fun pins s σ H R I h => ?_⟩
  rcases h with h | h
  · exact (pi_list hl).run pins s σ H R I h
  · exact (pi_tup hl).run pins s σ H R I h
section
variable {σ : L2.St} {H : Hp} {Q : VK} {te tl : TE} {l : Addr} {xs : List V} {tt : TT} {vs : List Nat} {K : PySem.W.Frag} {j : Nat} {g : TG} {tb : TS} {D : Ends}
theorem lcQL (h : tLc (iList K tl) g tt te vs σ H Q) : tLc (iSeq K tl) g tt te vs σ H Q := .inl h
theorem lcQT (h : tLc (iTup K tl) g tt te vs σ H Q) : tLc (iSeq K tl) g tt te vs σ H Q := .inr h
theorem forQL (h : tFor (iList K tl) g tb D σ H) : tFor (iSeq K tl) g tb D σ H := .inl h
theorem forQT (h : tFor (iTup K tl) g tb D σ H) : tFor (iSeq K tl) g tb D σ H := .inr h
def xLcT (K : PySem.W.Frag) (g : TG) (tt : TT) (te : TE) (vs : List Nat) (σ : L2.St) (x : V) (H : Hp) (Q : VK) : Prop := tLc (iTup K (fun _ H Q => Q x H)) g tt te vs σ H Q
theorem lcT (h : tl σ H fun x H1 => xLcT K g tt te vs σ x H1 Q) : tLc (iTup K tl) g tt te vs σ H Q := h
theorem xlcT (f : Nat → Bool) (v : Nat → V) (hx : SqT K H l xs) (hz : xs.length ≤ 40000) (hw : ∀ x, wipe ((wipe σ vs).set j (some x)) vs = wipe σ vs)
    (ht : ∀ (i : Nat) (x : V) H1, Ex H H1 → xs[i]? = some x → EvT tt ((wipe σ vs).set j (some x)) H1 (f i)) (he : ∀ (i : Nat) (x : V) H1, Ex H H1 → xs[i]? = some x → f i = true → Ev te ((wipe σ vs).set j (some x)) H1 (v i))
    (q : ∀ p H', H p = none → Ex H H' → H' p = some (.lst (given xs.length f v)) → Q (.ref p) H') : xLcT K (gName j) tt te vs σ (.ref l) H Q :=
  ⟨l, rfl, ⟨xs, hx⟩, fun Dl hD => lc_tup (xs := xs) (Cw H f v Dl) ⟨hD, Ex.new hD, upd_same⟩ (fun i H' _ p => ex_t p.2.1 hx)
    (fun i x H' hi p => ⟨hw x, cw_turn p (by have := (List.getElem?_eq_some_iff.mp hi).1; omega) (ht i x H (Ex.refl H) hi) (fun hf => he i x H (Ex.refl H) hi hf)⟩) (fun H' p => q Dl H' p.1 p.2.1 p.2.2)⟩
end
end Rd
namespace Rd
open PySem PySem.Spec PyProof.Rows L2 Evl Dk
section
variable {H : Hp} {Q : VK} {K : PySem.W.Frag} {a : Addr} {xs : List V}
theorem isiSqT {T : String} {b : Bool} (h : SqT K H a xs) (k : kitB "tuple" T = some b) (q : Q (.bl b) H) : rIsi K [.ref a, .ty T] H Q := by
  have ty : TyX K H (.ref a) (.type "tuple") := by
    rcases h with (h | ⟨o, h⟩) | ⟨o, its, n, h1, h2, _⟩
    · exact .base (.tup h)
    · exact .fTuple h
    · exact .kTuple h1 h2
  exact ⟨.ref a, .ty T, .type "tuple", .type T, b, rfl, .ty T, ty, kit_ty k, q⟩
theorem isiSqL {T : String} {b : Bool} (h : SqL K H a xs) (k : kitB "list" T = some b) (q : Q (.bl b) H) : rIsi K [.ref a, .ty T] H Q := by
  have ty : TyX K H (.ref a) (.type "list") := by
    rcases h with (h | ⟨o, h⟩) | ⟨o, its, n, h1, h2, _⟩
    · exact .base (.lst h)
    · exact .base (.frz h)
    · exact .kList h1 h2
  exact ⟨.ref a, .ty T, .type "list", .type T, b, rfl, .ty T, ty, kit_ty k, q⟩
end
end Rd
namespace Rd
open PySem PySem.Spec PyProof.Rows L2 Evl Dk
section
variable {X : Cx} {σ : L2.St} {H : Hp} {Q : VK} {te : TE} {tl th : TO} {x : V} {i j z : Str} {n : Int} {c : Nat} {QO : Option Int → Hp → Prop}
/-! texts: an index, a slice, a part of another -/
def rInS : R2 := fun x y H Q => ∃ i j, x = .str i ∧ y = .str j ∧ Q (.bl (!(Builtin.Str.occurrences j i 0 j.length 1).isEmpty)) H
theorem op_inS : OpR X (compareOp .In) rInS := op_in_str
theorem inS {b : Bool} (h : (!(Builtin.Str.occurrences j i 0 j.length 1).isEmpty) = b) (q : Q (.bl b) H) : rInS (.str i) (.str j) H Q := ⟨i, j, rfl, rfl, by rw [h]; exact q⟩
def rNotInS : R2 := fun x y H Q => ∃ i j, x = .str i ∧ y = .str j ∧ Q (.bl (!(!(Builtin.Str.occurrences j i 0 j.length 1).isEmpty))) H
theorem op_notInS : OpR X (compareOp .NotIn) rNotInS := op_notIn_str
theorem ninS {b : Bool} (h : (!(Builtin.Str.occurrences j i 0 j.length 1).isEmpty) = b) (q : Q (.bl (!b)) H) : rNotInS (.str i) (.str j) H Q := ⟨i, j, rfl, rfl, by rw [h]; exact q⟩
theorem ixS (hz : z.length ≤ 100000) (ha : atI z.cps.toList n = some c) (q : Q (.str ⟨#[c]⟩) H) : rIxS (.str z) (.int n) H Q := ⟨z, n, c, rfl, rfl, sz_of hz, ha, q⟩
theorem slX {lo hi : Option Int} (hz : z.length ≤ 100000) (q : Q (.str (Txt.slice z lo hi)) H) : C8.rSlX (.str z) lo hi H Q := ⟨z, rfl, sz_of hz, q⟩
theorem sl {r : V → Option Int → Option Int → Hp → VK → Prop} (h : te σ H fun x H1 => tl σ H1 fun l H2 => th σ H2 fun u H3 => r x l u H3 Q) : tSl r te tl th σ H Q := h
theorem poN (q : QO none H) : tNoPart σ H QO := q
def xPart (x : V) (H1 : Hp) (Q : Option Int → Hp → Prop) : Prop := ∃ i, x = .int i ∧ Q (some i) H1
theorem poS (h : te σ H fun x H1 => xPart x H1 QO) : tPart te σ H QO := h
theorem xpart (q : QO (some n) H) : xPart (.int n) H QO := ⟨n, rfl, q⟩
end
end Rd

/-! pool.replace(sign, "") behind sign = pool[f(.., len(..))]: the sign is an object of its own -/
namespace Tk
open PySem PySem.Spec PyProof.Rows L2
section
variable {X : Cx} {pins : List (Addr × Obj)} {σ : L2.St} {H : Hp} {s : Shared}
theorem inv_set {i : Nat} {x : Str} {v : V} {u : Value} {h' : Heap} {m : Str → Option Value} {t : Nat} (I : Inv X pins σ H s) (hN : X.N.Nodup) (hi : X.N[i]? = some x) (hk : X.env.scope.names.lookup x = some .local) (r : RelV v u)
    (hn : s.heap.Ns X.env.locals m) (hl : ∀ (i : Nat) (x : Str) (v : V), X.N[i]? = some x → σ[i]? = some (some v) → Vis X.env.scope x → ∃ u, RelV v u ∧ Look X.env s.heap m x u)
    (hn' : h'.Ns X.env.locals (fun y => if y = x then some u else m y)) (hs : Heap.SameBut X.env.locals s.heap h') : Inv X pins (σ.set i (some v)) H { s with heap := h', toks := t } := by
  have old : ∀ b o, X.s_0.heap.get? b = some o → b ≠ X.env.locals := fun b o e => Nat.ne_of_lt (Nat.lt_of_lt_of_le (Heap.lt_size e) I.ok.above)
  have hz : i < σ.length := by rw [I.len]; exact (List.getElem?_eq_some_iff.mp hi).1
  have fr : ∀ b u, H b = some u → b ≠ X.env.locals := fun b u e z => by
    have f := I.free
    rw [z, f] at e; cases e
  exact {
    ok := I.ok, os := I.os, bare := I.bare
    base := {
      keep := fun b o e n a c => (hs.2 b (old b o e)).trans (I.base.keep b o e n a c)
      slot := fun b o e n a c => let ⟨sl, q⟩ := I.base.slot b o e n a c; ⟨sl, (hs.2 b (old b o e)).trans q⟩
      free := I.base.free
      there := fun b o e a => let ⟨o', q⟩ := I.base.there b o e a; ⟨o', (hs.2 b (old b o e)).trans q⟩
      tups := I.base.tups, frzs := I.base.frzs, tbls := I.base.tbls }
    loc := ⟨_, hn', fun j y v' g1 g2 g3 => by
      by_cases hj : j = i
      · rw [hj] at g1 g2
        rw [hi] at g1
        cases g1
        rw [List.getElem?_set_self hz] at g2
        cases g2
        exact ⟨u, r, .inl ⟨hk, if_pos rfl⟩⟩
      · rw [List.getElem?_set_ne (fun z => hj z.symm)] at g2
        have ne : y ≠ x := fun z => hj (nodup_ix hN g1 (by rw [z]; exact hi))
        obtain ⟨u', r', ⟨a, b⟩ | ⟨a, c, b, d⟩⟩ := hl j y v' g1 g2 g3
        · exact ⟨u', r', .inl ⟨a, (if_neg ne).trans b⟩⟩
        · exact ⟨u', r', .inr ⟨a, c, b, d.sameBut hs (I.cne y c b)⟩⟩⟩
    cell := fun y c e => let ⟨w, z⟩ := I.cell y c e; ⟨w, z.sameBut hs (I.cne y c e)⟩
    free := I.free, freeC := I.freeC
    pin := fun p hp => let ⟨a, b, c, d, f⟩ := I.pin p hp; ⟨(hs.2 p.1 c).trans a, b, c, d, f⟩
    hok := fun b ob e => (I.hok b ob e).stay (fun c w' hc q => (hs.2 c (by
      rcases hc with hc | hc
      · rw [hc]; exact fr b ob e
      · exact fr c _ hc)).trans q) (fun _ q => q) fun _ _ q => q
    len := by simpa using I.len }
end
/-- what an expression, a list of arguments leaves: a token has been given out -/
def PEk (X : Cx) (e : Expr) (t : TE) : Prop := ∀ (pins : List (Addr × Obj)) (s : Shared) (σ : L2.St) (H : Hp) (Q : VK), Inv X pins σ H s → t σ H Q → wpAny (model X.prog X.w) X.A (eval e X.env) (fun u s' => 1 ≤ s'.toks ∧ EP X pins σ Q u s') X.xe s
def PAk (X : Cx) (es : List Expr) (t : TA) : Prop := ∀ (pos : Pos) (pins : List (Addr × Obj)) (s : Shared) (σ : L2.St) (H : Hp) (Q : List V → Hp → Prop), Inv X pins σ H s → t σ H Q → wpAny (model X.prog X.w) X.A (spliced (backTo pos (starEach es X.env))) (fun u s' => 1 ≤ s'.toks ∧ AP X pins σ Q u s') X.xe s
section
variable {X : Cx} {e : Expr} {es : List Expr} {te : TE} {ta t : TA} {x : Str} {p pos : Pos}
theorem pak_cons (ha : PE X e te) (hr : PAk X es ta) (hs : starEach (e :: es) X.env = (false, eval e X.env) :: starEach es X.env := by rfl) : PAk X (e :: es) (tCons te ta) := by
  intro pos pins s σ H Q I h
  rw [hs]
  show wpAny _ _ (spliced ((false, eval e X.env) :: backTo pos (starEach es X.env))) _ _ s
  exact Calls.spliced_cons (thn (ha.run pins s σ H _ I h) fun u s1 ⟨v, H1, I1, r1, q1⟩ => thn (hr pos pins s1 σ H1 _ I1 q1) fun us s2 ⟨k, vs, H2, I2, r2, q2⟩ => ⟨k, v :: vs, H2, I2, .cons r1 r2, q2⟩)
theorem pak_one (ha : PEk X e te) (hs : starEach [e] X.env = (false, eval e X.env) :: starEach [] X.env := by rfl) : PAk X [e] (tCons te tNil) := by
  intro pos pins s σ H Q I h
  rw [hs]
  show wpAny _ _ (spliced ((false, eval e X.env) :: backTo pos (starEach [] X.env))) _ _ s
  exact Calls.spliced_cons (thn (ha pins s σ H _ I h) fun u s1 ⟨k, v, H1, I1, r1, q1⟩ => Calls.spliced_nil ⟨k, [v], H1, I1, .cons r1 .nil, q1⟩)
theorem pek_len (hg : Gl X "len") (hm : X.mg "len" = none) (hv : bootBuiltins "len" = some (.builtin "len")) (ha : PA X [e] t) (he : starEach [e] X.env = (false, eval e X.env) :: starEach [] X.env := by rfl) (hpl : (backTo pos (starEach ([] : List Expr) X.env)).any (·.1) = false := by rfl) : PEk X (.Call (.Name "len" p) [e] [] pos) (tCB Rd.rLenStr t) := by
  intro pins s σ H Q I h
  refine wpAny_Call_Name_kw (ld_blt I hg hm hv ?_ (by decide) (by decide))
  refine PyProof.Rows.callWith_builtin1 (thn (ha.run pos pins s σ H _ I h) fun us s1 ⟨vs, H1, I1, r1, z, ez, hz, q⟩ => ?_) he hpl
  subst ez
  obtain ⟨u, rfl, t, rfl⟩ := vals1 r1
  have hn := line63
  exact len_str (by omega) ⟨Nat.le_add_left _ _, .int z.length, H1, I1.tok _, ⟨_, rfl⟩, q⟩
theorem pek_call {CX : CXT} {k : Nat} {f : Addr} {fd : FuncData} {ps : List Str} {ds : List Value} {dvs : List V} {sp : Sp} {E : XK} (F : FnOk X.prog X.w X.K X.mg X.base CX k f fd ps sp) (hr : Room k X.A) (hg : Gl X x) (hm : X.mg x = some (.ref f)) (hk : PySem.W.keepIn X.K (.ref f) = true) (hb : Binds X.K fd ps ds) (hd : Vals dvs ds) (hx : Passes CX X E)
    (ha : PAk X (e :: es) t) (hdb : (x == ("__debug__" : Str)) = false := by decide) (he : starEach (e :: es) X.env = (false, eval e X.env) :: starEach es X.env := by rfl) (hpl : (backTo pos (starEach es X.env)).any (·.1) = false := by rfl) :
    PEk X (.Call (.Name x p) (e :: es) [] pos) (tCall sp dvs E t) := by
  intro pins s σ H Q I h
  refine wpAny_Call_Name_kw (ld_glob I hg hm ?_ hdb)
  exact PySem.W.callWith_K (h₀ := X.base) I.ok.mod.kin hk (thn (ha pos pins s σ H _ I h) fun us s1 ⟨k1, vs, H1, I1, r, q⟩ => ⟨I1.kIn, wpAny_mono (PySem.wpAny_toks (run_fn F hr hb hd hx I1 r q)) (fun _ _ z => ⟨Nat.le_trans k1 z.1, z.2⟩) fun _ _ z => z.2⟩) he hpl
/-- sign = pool[..]; pool = pool.replace(sign, "") -/
def tRepl (i j : Nat) (ti : TE) (u : TS) : TS := fun D σ H => ∃ z : Str, σ[i]? = some (some (.str z)) ∧ z.length ≤ 1000 ∧ ti σ H fun y H1 => ∃ (k : Int) (c : Nat), y = .int k ∧ atI z.cps.toList k = some c ∧
  u D ((σ.set j (some (.str ⟨#[c]⟩))).set i (some (.str (Txt.replace z ⟨#[c]⟩ ⟨#[]⟩)))) H1
theorem pss_repl {i j n : Nat} {xp xs : Str} {ei : Expr} {ti : TE} {u : TS} {rest : List Stmt} {p0 p1 p2 p3 p4 p5 p6 q1 q2 apos cpos : Pos} {ee : Str} (hN : X.N.Nodup) (hi : X.N[i]? = some xp) (hj : X.N[j]? = some xs) (hkp : X.env.scope.names.lookup xp = some .local) (hks : X.env.scope.names.lookup xs = some .local)
    (hee : ee = ⟨#[]⟩) (he : PEk X ei ti) (hr : PSs X rest u) (hpx : PlainIx ei) (hij : j ≠ i)
    (hdp : (xp == ("__debug__" : Str)) = false := by decide) (hcp : (xp == ("__classdict__" : Str)) = false := by decide) (hds : (xs == ("__debug__" : Str)) = false := by decide)
    (hsw1 : swapsWith (.Subscript (.Name xp p1) ei p2) (some (.Name xs p0)) q1.line X.env = pure false := by rfl)
    (hsw2 : swapsWith (.Call (.Attribute (.Name xp p4) "replace" apos) [.Name xs p5, .Constant (.str ee) n cpos] [] p6) (some (.Name xp p3)) q2.line X.env = pure false := by rfl)
    (hst : starEach [.Name xs p5, .Constant (.str ee) n cpos] X.env = [(false, eval (.Name xs p5) X.env), (false, eval (.Constant (.str ee) n cpos) X.env)] := by rfl)
    (hbase : attributeBase (.Name xp p4) "replace" X.env (eval (.Name xp p4) X.env) = eval (.Name xp p4) X.env := by rfl) (hline : (apos.endLine == p6.line) = true := by rfl) :
    PSs X (.Assign [.Name xs p0] (.Subscript (.Name xp p1) ei p2) q1 :: .Assign [.Name xp p3] (.Call (.Attribute (.Name xp p4) "replace" apos) [.Name xs p5, .Constant (.str ee) n cpos] [] p6) q2 :: rest) (tRepl i j ti u) := by
  refine ⟨fun pins s σ H D I h => ?_⟩
  obtain ⟨z, hz, hzl, h⟩ := h
  refine wpAny_execs_cons (wpAny_Assign_Name (Subscript_ (raw_name hi (.inl hkp) I hz (fun u0 r0 => ?_) hdp hcp)) hsw1)
  refine thn (he pins s σ H _ I h) fun iv s1 ⟨k1, y, H1, I1, r1, k, c, ey, hc, q⟩ => ?_
  subst ey
  obtain ⟨t0, rfl⟩ := r0
  obtain ⟨t1, rfl⟩ := r1
  obtain ⟨g, h1, h2, h3, h4, h5⟩ := atI_get hc
  have hl : z.cps.toList.length = z.length := by simp [Str.length]
  rw [hl] at h1 h4 h5
  have hn63 := line63
  have hcls : (X.env.scope.kind == .class || (X.env.scope.kind == .module && X.env.locals != X.env.globals)) = false := by rw [I1.ok.kind]; rfl
  refine tail_any (typeIs_str s1 z t0) slot_str_getitem.lookup (getItem_str (c := c) (by
    rw [show decide (k < -(2 ^ 63 : Int)) = false from decide_eq_false (by omega), show decide (k ≥ 2 ^ 63) = false from decide_eq_false (by omega)]; rfl) (by rw [h1]; simpa using h2) ?_) (hpx _ _)
  have I1' : Inv X pins σ H1 { s1 with toks := s1.toks + 1 } := I1.tok _
  obtain ⟨m, hn, hlk⟩ := id I1'.loc
  refine wpAny_storeName_local hks hn (fun h' hn' hs => ?_) hcls
  have I2 : Inv X pins (σ.set j (some (.str ⟨#[c]⟩))) H1 { s1 with heap := h', toks := s1.toks + 1 + 1 } := inv_set (s := { s1 with toks := s1.toks + 1 }) (v := .str ⟨#[c]⟩) I1' hN hj hks ⟨_, rfl⟩ hn hlk hn' hs
  have hz2 : (σ.set j (some (V.str ⟨#[c]⟩)))[i]? = some (some (.str z)) := by rw [List.getElem?_set_ne hij]; exact hz
  refine wpAny_execs_cons (wpAny_Assign_Name (PySem.Call_method2 hbase hst hline (raw_name hi (.inl hkp) I2 hz2 (fun u2 r2 => ?_) hdp hcp)) hsw2)
  obtain ⟨t2, rfl⟩ := r2
  refine ⟨"str", _, F.plainAttrs_str, F.slot_str_replace, F.type_str_replace, typeIs_str _ _ _, (fun _ e => nomatch e), Calls.callWith_builtin rfl (Calls.evalArgs_plain (Calls.spliced_cons ?_))⟩
  refine wpAny_Name (wpAny_loadName_local I2.ok.kind hks hn' (if_pos rfl) ?_) hds
  refine Calls.spliced_cons (Calls.Constant_str (Calls.spliced_nil ?_))
  subst hee
  refine PySem.SC.replace (show s1.toks ≠ 0 by omega) (show s1.toks + 1 + 1 ≠ 0 by omega) (show s1.toks ≠ s1.toks + 1 + 1 by omega) ?_ (by show z.length + (z.length + 1) * 0 ≤ _; omega) fun t' k' => ?_
  · exact Bool.eq_false_iff.mpr fun e => by
      have e1 := eq_of_beq e
      injection e1 with e2
      simp at e2
  · exact store_ok (v := .str (Txt.replace z ⟨#[c]⟩ ⟨#[]⟩)) (I2.tok _) hN hi (.inl hkp) ⟨t', rfl⟩ (fun s3 I3 => hr.run pins s3 _ H1 D I3 q) (.inr hkp)
end
theorem repl {i j : Nat} {ti : TE} {u : TS} {D : Ends} {σ : L2.St} {H : Hp} {z : Str} (hz : σ[i]? = some (some (.str z))) (hl : z.length ≤ 1000)
    (q : ti σ H fun y H1 => ∃ (k : Int) (c : Nat), y = .int k ∧ atI z.cps.toList k = some c ∧ u D ((σ.set j (some (.str ⟨#[c]⟩))).set i (some (.str (Txt.replace z ⟨#[c]⟩ ⟨#[]⟩)))) H1) : tRepl i j ti u D σ H := ⟨z, hz, hl, q⟩
end Tk


local macro_rules | `(tactic| walk_at "hp") => `(tactic| first
  | assumption | exact L2.upd_same | (refine (by assumption : Evl.Ex _ _) _ _ ?_; walk_at "hp")
  | (refine (L2.upd_ne (by assumption)).trans ?_; walk_at "hp") | (refine (L2.upd_ne (Ne.symm (by assumption))).trans ?_; walk_at "hp") | (refine (L2.upd_ne (L2.ne_of (by assumption) (by assumption) (by intro z; cases z))).trans ?_; walk_at "hp"))
local macro_rules | `(tactic| walk_at "sq") => `(tactic| first | assumption | exact L2.SqL.of (by walk_at "hp") | exact L2.SqT.of (by walk_at "hp"))
local macro_rules | `(tactic| walk_at "rd1") => `(tactic| with_reducible first
  | refine Rd.seq ?_ | refine Rd.asg ?_ | refine Rd.gnm ?_ | refine Rd.ifS ?_ | refine Rd.ret ?_ | refine Rd.retN ?_ | refine Rd.drop ?_ | refine Rd.nxt ?_ | refine Rd.brk ?_ | refine Rd.cnt ?_
  | refine Rd.var rfl ?_ | refine Rd.c ?_ | refine Rd.op ?_ | refine Rd.i0 ?_ | refine Rd.un ?_ | refine Rd.u0 ?_
  | refine Rd.test ?_ | refine Rd.tbv ?_ | refine Rd.xt ?_ | refine Rd.andT ?_ | refine Rd.orT ?_ | refine Rd.notT ?_ | refine Rd.andV ?_ | refine Rd.orV ?_ | refine Rd.notV ?_ | refine Rd.ifE ?_ | refine Rd.chain ?_
  | refine Rd.nil ?_ | refine Rd.cons ?_ | refine Rd.cb ?_ | refine Rd.call ?_ | refine Rd.tup ?_ | refine Rd.lst ?_ | refine Rd.fld ?_ | refine Rd.meth ?_ | refine Rd.bm ?_ | refine Rd.bm0 ?_
  | refine Rd.eqI ?_ | refine Rd.neI ?_ | refine Rd.eqS ?_ | refine Rd.neS ?_ | refine Rd.isN_non ?_ | refine Rd.isN_int ?_ | refine Rd.isN_ref ?_ | refine Rd.isN_str ?_ | refine Rd.notN_non ?_ | refine Rd.notN_int ?_ | refine Rd.notN_ref ?_ | refine Rd.notN_str ?_
  | refine Rd.sl ?_ | refine Rd.poN ?_ | refine Rd.poS ?_ | refine Rd.xpart ?_ | refine Rd.ifTT ?_ | refine Rd.ifFF ?_ | refine Rd.ifNTT ?_ | refine Rd.ifNFF ?_
  | refine Rd.int ?_ | refine Rd.intB ?_ | refine Rd.abs ?_ | refine Rd.max2 ?_ | refine Rd.min2 ?_
  | refine Rd.sfld ?_ | refine Rd.forS ?_ | refine Rd.lcS ?_ | refine Rd.lcT ?_ | refine Rd.m1 ?_ | refine Rd.m0 ?_ | refine Rd.xiss ?_ | refine Rd.find ?_ | refine Rd.listRg1 ?_ | refine Rd.lcR1 ?_ | refine Rd.lcL ?_ | refine Rd.listRg2 ?_ | refine Rd.eqB ?_ | refine Rd.neB ?_ | refine Rd.make ?_ | refine Rd.forR1 ?_ | refine Rd.forR2 ?_ | refine Rd.forL ?_ | refine Rd.forT ?_ | refine Rd.par ?_ | refine Rd.par2 ?_ | refine Rd.gcons ?_ | refine Rd.gnil ?_ | refine Rd.gsub ?_ | refine Rd.ipi ?_ | refine Rd.aug rfl ?_)
local macro_rules | `(tactic| walk_at "rd2") => `(tactic| first
  | ((with_reducible refine' Rd.pw (m := 1000000) (i := 10) (j := 6) ?c1 ?e1 ?_); (case c1 => exact ⟨by decide, by decide, by decide⟩); (case e1 => decide)) | ((with_reducible refine' Rd.pw (m := 1000000000000) (i := 10) (j := 12) ?c1 ?e1 ?_); (case c1 => exact ⟨by decide, by decide, by decide⟩); (case e1 => decide)) | ((with_reducible refine' Rd.pw (m := 1000000000000000000000000000000) (i := 10) (j := 30) ?c1 ?e1 ?_); (case c1 => exact ⟨by decide, by decide, by decide⟩); (case e1 => decide))
  | ((with_reducible refine' Rd.pw (m := 10000000000000000000000000000000) (i := 10) (j := 31) ?c1 ?e1 ?_); (case c1 => exact ⟨by decide, by decide, by decide⟩); (case e1 => decide)) | ((with_reducible refine' Rd.pw (m := 10000000000000000000000000000000000000000) (i := 10) (j := 40) ?c1 ?e1 ?_); (case c1 => exact ⟨by decide, by decide, by decide⟩); (case e1 => decide)) | ((with_reducible refine' Rd.pw (m := 100000000000000000000) (i := 10) (j := 20) ?c1 ?e1 ?_); (case c1 => exact ⟨by decide, by decide, by decide⟩); (case e1 => decide)) | ((with_reducible refine' Rd.pw (m := 10000000000000000000000000000000000000000000000000000000000000000) (i := 10) (j := 64) ?c1 ?e1 ?_); (case c1 => exact ⟨by decide, by decide, by decide⟩); (case e1 => decide)) | ((with_reducible refine' Rd.pw (m := 10000) (i := 10) (j := 4) ?c1 ?e1 ?_); (case c1 => exact ⟨by decide, by decide, by decide⟩); (case e1 => decide)) | ((with_reducible refine' Rd.pw (m := 100) (i := 10) (j := 2) ?c1 ?e1 ?_); (case c1 => exact ⟨by decide, by decide, by decide⟩); (case e1 => decide))
  | (with_reducible refine' Rd.isiInt (b := true) ?k1 ?_); (case k1 => rfl)
  | (with_reducible refine' Rd.isiInt (b := false) ?k1 ?_); (case k1 => rfl)
  | (with_reducible refine' Rd.isiBl (b := true) ?k1 ?_); (case k1 => rfl)
  | (with_reducible refine' Rd.isiBl (b := false) ?k1 ?_); (case k1 => rfl)
  | (with_reducible refine' Rd.isiStr (b := true) ?k1 ?_); (case k1 => rfl)
  | (with_reducible refine' Rd.isiStr (b := false) ?k1 ?_); (case k1 => rfl)
  | (with_reducible refine' Rd.isiNon (b := true) ?k1 ?_); (case k1 => rfl)
  | (with_reducible refine' Rd.isiNon (b := false) ?k1 ?_); (case k1 => rfl)
  | (with_reducible refine' Rd.isiLst (b := true) ?h1 ?k1 ?_); (case h1 => walk_at "hp"); (case k1 => rfl)
  | (with_reducible refine' Rd.isiLst (b := false) ?h1 ?k1 ?_); (case h1 => walk_at "hp"); (case k1 => rfl)
  | (with_reducible refine' Rd.isiTup (b := true) ?h1 ?k1 ?_); (case h1 => walk_at "hp"); (case k1 => rfl)
  | (with_reducible refine' Rd.isiTup (b := false) ?h1 ?k1 ?_); (case h1 => walk_at "hp"); (case k1 => rfl)
  | (with_reducible refine' Rd.isiSqT (b := true) ?s1 ?k1 ?_); (case s1 => walk_at "sq"); (case k1 => rfl)
  | (with_reducible refine' Rd.isiSqT (b := false) ?s1 ?k1 ?_); (case s1 => walk_at "sq"); (case k1 => rfl)
  | (with_reducible refine' Rd.isiSqL (b := true) ?s1 ?k1 ?_); (case s1 => walk_at "sq"); (case k1 => rfl)
  | (with_reducible refine' Rd.isiSqL (b := false) ?s1 ?k1 ?_); (case s1 => walk_at "sq"); (case k1 => rfl)
  | (with_reducible refine' Rd.i1 ?c1 ?_); (case c1 => first | assumption | (show (0 : Int) < _; omega) | decide | exact .inl (by decide) | exact .inr (by decide) | exact .inr ⟨by omega, by omega⟩ | exact .inl ⟨by omega, by omega⟩ | exact ⟨by decide, by decide⟩)
  | (with_reducible refine' Rd.len ?s1 ?_); (case s1 => walk_at "sq")
  | (with_reducible refine' Rd.lenT ?s1 ?_); (case s1 => walk_at "sq")
  | (with_reducible refine' Rd.xtyL ?s1 ?_); (case s1 => walk_at "sq")
  | (with_reducible refine' Rd.ixL ?s1 ?a1 ?_); (case s1 => walk_at "sq"); (case a1 => rfl)
  | (with_reducible refine' Rd.ixT ?s1 ?a1 ?_); (case s1 => walk_at "sq"); (case a1 => rfl)
  | (with_reducible refine' Rd.gtup ?s1 ?n1 ?_); (case s1 => walk_at "sq"); (case n1 => rfl)
  | (with_reducible refine' Rd.rfld ?h1 ?c1 ?n1 ?l1 ?_); (case h1 => walk_at "hp"); (case c1 => assumption); (case n1 => assumption); (case l1 => walk_at "lk")
  | (with_reducible refine' Rd.xmeth ?h1 ?l1 ?_); (case h1 => walk_at "hp"); (case l1 => walk_at "lk")
  | (with_reducible refine' Rd.xst ?h1 ?c1 ?n1 ?l1 ?_); (case h1 => walk_at "hp"); (case c1 => assumption); (case n1 => assumption); (case l1 => rfl)
  | (with_reducible refine' Rd.take ?h1 ?m1 ?_); (case h1 => walk_at "hp"); (case m1 => omega)
  | ((with_reducible refine' Rd.tupOfL ?s1 ?_); (case s1 => walk_at "sq")) | ((with_reducible refine' Rd.tupOfT ?s1 ?_); (case s1 => walk_at "sq"))
  | (with_reducible refine Rd.ifT (by assumption) ?_) | (with_reducible refine Rd.ifF (by assumption) ?_) | (with_reducible refine Rd.ifNT (by assumption) ?_) | (with_reducible refine Rd.ifNF (by assumption) ?_)
  | (with_reducible refine Rd.ifT rfl ?_) | (with_reducible refine Rd.ifNF rfl ?_)
  | (with_reducible refine Rd.ifT (by omega) ?_) | (with_reducible refine Rd.ifF (by omega) ?_) | (with_reducible refine Rd.ifNT (by omega) ?_) | (with_reducible refine Rd.ifNF (by omega) ?_)
  | ((with_reducible refine Rd.ifT ?p1 ?_); (case p1 => decide +kernel)) | ((with_reducible refine Rd.ifF ?p1 ?_); (case p1 => decide +kernel)) | ((with_reducible refine Rd.ifNT ?p1 ?_); (case p1 => decide +kernel)) | ((with_reducible refine Rd.ifNF ?p1 ?_); (case p1 => decide +kernel)))
local macro_rules | `(tactic| walk_at "rd") => `(tactic| repeat (first | walk_at "rd1" | walk_at "rd2"))

namespace Toy
open PySem L2
def top (i : Nat) : Stmt := PySem.Challenge.pw_surebridge_k05_text_images.main.body.getD i (.Pass ⟨0, 0, 0, 0⟩)
abbrev s_law_take : Stmt := top 9
theorem sc_law_take : FnScope ["deck", "many"] ["deck", "many"] (defScope s_law_take) := ⟨rfl, rfl, rfl, by decide +kernel, rfl, by decide +kernel, by decide +kernel⟩
abbrev s_law_deck : Stmt := top 8
theorem sc_law_deck : FnScope ["script", "cells", "each", "deck", "seed", "k", "cell", "rest", "at"] ["script", "cells", "each"] (defScope s_law_deck) := ⟨rfl, rfl, rfl, by decide +kernel, rfl, by decide +kernel, by decide +kernel⟩
abbrev s_check_machine : Stmt := top 5
theorem sc_check_machine : FnScope ["letters", "rows", "ends", "at", "row", "taken"] ["letters", "rows", "ends"] (defScope s_check_machine) := ⟨rfl, rfl, rfl, by decide +kernel, rfl, by decide +kernel, by decide +kernel⟩
abbrev s_TextMap_init_ : Stmt := inClass (top 6) 0
theorem sc_TextMap_init_ : FnScope ["self", "letters", "rows", "ends", "row"] ["self", "letters", "rows", "ends"] (defScope s_TextMap_init_) := ⟨rfl, rfl, rfl, by decide +kernel, rfl, by decide +kernel, by decide +kernel⟩
abbrev s_TextMap_step : Stmt := inClass (top 6) 1
theorem sc_TextMap_step : FnScope ["self", "state", "letter", "at"] ["self", "state", "letter"] (defScope s_TextMap_step) := ⟨rfl, rfl, rfl, by decide +kernel, rfl, by decide +kernel, by decide +kernel⟩
abbrev s_TextMap_walk : Stmt := inClass (top 6) 2
theorem sc_TextMap_walk : FnScope ["self", "state", "text", "written", "letter", "taken"] ["self", "state", "text"] (defScope s_TextMap_walk) := ⟨rfl, rfl, rfl, by decide +kernel, rfl, by decide +kernel, by decide +kernel⟩
abbrev s_TextMap_image : Stmt := inClass (top 6) 3
theorem sc_TextMap_image : FnScope ["self", "text", "moved"] ["self", "text"] (defScope s_TextMap_image) := ⟨rfl, rfl, rfl, by decide +kernel, rfl, by decide +kernel, by decide +kernel⟩
abbrev s_law_word : Stmt := top 10
theorem sc_law_word : FnScope ["deck", "signs", "most", "word", "k"] ["deck", "signs", "most"] (defScope s_law_word) := ⟨rfl, rfl, rfl, by decide +kernel, rfl, by decide +kernel, by decide +kernel⟩
abbrev s_law_machine : Stmt := top 11
theorem sc_law_machine : FnScope ["deck", "letters", "signs", "most", "states", "rows", "ends", "state", "row", "letter", "step", "end"] ["deck", "letters", "signs", "most"] (defScope s_law_machine) := ⟨rfl, rfl, rfl, by decide +kernel, rfl, by decide +kernel, by decide +kernel⟩
abbrev s_law_walk : Stmt := top 12
theorem sc_law_walk : FnScope ["parts", "state", "text", "letters", "rows", "ends", "found", "sign", "at"] ["parts", "state", "text"] (defScope s_law_walk) := ⟨rfl, rfl, rfl, by decide +kernel, rfl, by decide +kernel, by decide +kernel⟩
abbrev s_law_text_image : Stmt := top 13
theorem sc_law_text_image : FnScope ["parts", "text", "moved"] ["parts", "text"] (defScope s_law_text_image) := ⟨rfl, rfl, rfl, by decide +kernel, rfl, by decide +kernel, by decide +kernel⟩
abbrev s_law_same : Stmt := top 14
theorem sc_law_same : FnScope ["actual", "expected"] ["actual", "expected"] (defScope s_law_same) := ⟨rfl, rfl, rfl, by decide +kernel, rfl, by decide +kernel, by decide +kernel⟩
abbrev s_law_led : Stmt := top 15
theorem sc_law_led : FnScope ["deck", "parts", "state", "size", "letters", "rows", "ends", "text", "k", "open_ones", "at"] ["deck", "parts", "state", "size"] (defScope s_law_led) := ⟨rfl, rfl, rfl, by decide +kernel, rfl, by decide +kernel, by decide +kernel⟩
abbrev s_law_text : Stmt := top 16
theorem sc_law_text : FnScope ["deck", "parts", "size", "k", "text", "at"] ["deck", "parts"] (defScope s_law_text) := ⟨rfl, rfl, rfl, by decide +kernel, rfl, by decide +kernel, by decide +kernel⟩
abbrev s_law_walks_right : Stmt := top 17
theorem sc_law_walks_right : FnScope ["made", "parts", "text", "state", "actual", "expected"] ["made", "parts", "text"] (defScope s_law_walks_right) := ⟨rfl, rfl, rfl, by decide +kernel, rfl, by decide +kernel, by decide +kernel⟩
abbrev s_law : Stmt := top 18
theorem sc_law : FnScope ["script", "deck", "pool", "letters", "k", "sign", "parts", "rows", "row", "ends", "made", "texts", "text"] ["script"] (defScope s_law) := ⟨rfl, rfl, rfl, by decide +kernel, rfl, by decide +kernel, by decide +kernel⟩
/-- where things stand -/
structure Ad where
  a_law_take : Addr
  d_law_take : FuncData
  a_law_deck : Addr
  d_law_deck : FuncData
  a_check_machine : Addr
  d_check_machine : FuncData
  a_TextMap_init_ : Addr
  d_TextMap_init_ : FuncData
  a_TextMap_step : Addr
  d_TextMap_step : FuncData
  a_TextMap_walk : Addr
  d_TextMap_walk : FuncData
  a_TextMap_image : Addr
  d_TextMap_image : FuncData
  a_law_word : Addr
  d_law_word : FuncData
  a_law_machine : Addr
  d_law_machine : FuncData
  a_law_walk : Addr
  d_law_walk : FuncData
  a_law_text_image : Addr
  d_law_text_image : FuncData
  a_law_same : Addr
  d_law_same : FuncData
  a_law_led : Addr
  d_law_led : FuncData
  a_law_text : Addr
  d_law_text : FuncData
  a_law_walks_right : Addr
  d_law_walks_right : FuncData
  a_law : Addr
  d_law : FuncData
  c_TextMap : Addr
/-- what the top has written -/
structure Txt (K : PySem.W.Frag) (mg : Str → Option Value) (ad : Ad) : Prop where
  F_law_take : Fun K "_law_take" "_law_take" s_law_take ad.a_law_take ad.d_law_take
  b_law_take : Binds K ad.d_law_take ["deck", "many"] []
  m_law_take : mg "_law_take" = some (.ref ad.a_law_take)
  F_law_deck : Fun K "_law_deck" "_law_deck" s_law_deck ad.a_law_deck ad.d_law_deck
  b_law_deck : Binds K ad.d_law_deck ["script", "cells", "each"] []
  m_law_deck : mg "_law_deck" = some (.ref ad.a_law_deck)
  F_check_machine : Fun K "check_machine" "check_machine" s_check_machine ad.a_check_machine ad.d_check_machine
  b_check_machine : Binds K ad.d_check_machine ["letters", "rows", "ends"] []
  m_check_machine : mg "check_machine" = some (.ref ad.a_check_machine)
  F_TextMap_init_ : Fun K "__init__" "TextMap.__init__" s_TextMap_init_ ad.a_TextMap_init_ ad.d_TextMap_init_
  b_TextMap_init_ : Binds K ad.d_TextMap_init_ ["self", "letters", "rows", "ends"] []
  F_TextMap_step : Fun K "step" "TextMap.step" s_TextMap_step ad.a_TextMap_step ad.d_TextMap_step
  b_TextMap_step : Binds K ad.d_TextMap_step ["self", "state", "letter"] []
  me_TextMap_step : Meth K ad.c_TextMap "step" ad.a_TextMap_step
  F_TextMap_walk : Fun K "walk" "TextMap.walk" s_TextMap_walk ad.a_TextMap_walk ad.d_TextMap_walk
  b_TextMap_walk : Binds K ad.d_TextMap_walk ["self", "state", "text"] []
  me_TextMap_walk : Meth K ad.c_TextMap "walk" ad.a_TextMap_walk
  F_TextMap_image : Fun K "image" "TextMap.image" s_TextMap_image ad.a_TextMap_image ad.d_TextMap_image
  b_TextMap_image : Binds K ad.d_TextMap_image ["self", "text"] []
  me_TextMap_image : Meth K ad.c_TextMap "image" ad.a_TextMap_image
  F_law_word : Fun K "_law_word" "_law_word" s_law_word ad.a_law_word ad.d_law_word
  b_law_word : Binds K ad.d_law_word ["deck", "signs", "most"] []
  m_law_word : mg "_law_word" = some (.ref ad.a_law_word)
  F_law_machine : Fun K "_law_machine" "_law_machine" s_law_machine ad.a_law_machine ad.d_law_machine
  b_law_machine : Binds K ad.d_law_machine ["deck", "letters", "signs", "most"] []
  m_law_machine : mg "_law_machine" = some (.ref ad.a_law_machine)
  F_law_walk : Fun K "_law_walk" "_law_walk" s_law_walk ad.a_law_walk ad.d_law_walk
  b_law_walk : Binds K ad.d_law_walk ["parts", "state", "text"] []
  m_law_walk : mg "_law_walk" = some (.ref ad.a_law_walk)
  F_law_text_image : Fun K "_law_text_image" "_law_text_image" s_law_text_image ad.a_law_text_image ad.d_law_text_image
  b_law_text_image : Binds K ad.d_law_text_image ["parts", "text"] []
  m_law_text_image : mg "_law_text_image" = some (.ref ad.a_law_text_image)
  F_law_same : Fun K "_law_same" "_law_same" s_law_same ad.a_law_same ad.d_law_same
  b_law_same : Binds K ad.d_law_same ["actual", "expected"] []
  m_law_same : mg "_law_same" = some (.ref ad.a_law_same)
  F_law_led : Fun K "_law_led" "_law_led" s_law_led ad.a_law_led ad.d_law_led
  b_law_led : Binds K ad.d_law_led ["deck", "parts", "state", "size"] []
  m_law_led : mg "_law_led" = some (.ref ad.a_law_led)
  F_law_text : Fun K "_law_text" "_law_text" s_law_text ad.a_law_text ad.d_law_text
  b_law_text : Binds K ad.d_law_text ["deck", "parts"] []
  m_law_text : mg "_law_text" = some (.ref ad.a_law_text)
  F_law_walks_right : Fun K "_law_walks_right" "_law_walks_right" s_law_walks_right ad.a_law_walks_right ad.d_law_walks_right
  b_law_walks_right : Binds K ad.d_law_walks_right ["made", "parts", "text"] []
  m_law_walks_right : mg "_law_walks_right" = some (.ref ad.a_law_walks_right)
  F_law : Fun K "law" "law" s_law ad.a_law ad.d_law
  b_law : Binds K ad.d_law ["script"] []
  m_law : mg "law" = some (.ref ad.a_law)
  cl_TextMap : Cls K ad.c_TextMap
  mg_TextMap : mg "TextMap" = some (.ref ad.c_TextMap)
  mk_TextMap : Mk K ad.c_TextMap ad.a_TextMap_init_
  n_TextMap_ends : NoAttr K ad.c_TextMap "ends"
  n_TextMap_letters : NoAttr K ad.c_TextMap "letters"
  n_TextMap_rows : NoAttr K ad.c_TextMap "rows"
  z_abs : mg "abs" = none
  z_bool : mg "bool" = none
  z_int : mg "int" = none
  z_isinstance : mg "isinstance" = none
  z_len : mg "len" = none
  z_list : mg "list" = none
  z_min : mg "min" = none
  z_range : mg "range" = none
  z_str : mg "str" = none
  z_tuple : mg "tuple" = none
/-- the fields of TextMap, in order -/
def fs_TextMap (v_letters v_rows v_ends : V) : List (Str × V) := [("letters", v_letters), ("rows", v_rows), ("ends", v_ends)]
theorem lk_TextMap_letters (v_letters v_rows v_ends : V) : (fs_TextMap v_letters v_rows v_ends).lookup ("letters" : Str) = some v_letters := by rfl
theorem lk_TextMap_rows (v_letters v_rows v_ends : V) : (fs_TextMap v_letters v_rows v_ends).lookup ("rows" : Str) = some v_rows := by rfl
theorem lk_TextMap_ends (v_letters v_rows v_ends : V) : (fs_TextMap v_letters v_rows v_ends).lookup ("ends" : Str) = some v_ends := by rfl
theorem pf_TextMap_letters (v_letters : V) : putF "letters" v_letters ([] : List (Str × V)) = [(("letters" : Str), v_letters)] := by rfl
theorem pf_TextMap_rows (v_letters v_rows : V) : putF "rows" v_rows ([(("letters" : Str), v_letters)] : List (Str × V)) = [(("letters" : Str), v_letters), (("rows" : Str), v_rows)] := by rfl
theorem pf_TextMap_ends (v_letters v_rows v_ends : V) : putF "ends" v_ends ([(("letters" : Str), v_letters), (("rows" : Str), v_rows)] : List (Str × V)) = fs_TextMap v_letters v_rows v_ends := by rfl
theorem st_TextMap_letters (v_letters v_rows v_ends w : V) : putF "letters" w (fs_TextMap v_letters v_rows v_ends) = fs_TextMap w v_rows v_ends := by rfl
theorem st_TextMap_rows (v_letters v_rows v_ends w : V) : putF "rows" w (fs_TextMap v_letters v_rows v_ends) = fs_TextMap v_letters w v_ends := by rfl
theorem st_TextMap_ends (v_letters v_rows v_ends w : V) : putF "ends" w (fs_TextMap v_letters v_rows v_ends) = fs_TextMap v_letters v_rows w := by rfl
theorem no_TextMap_step (v_letters v_rows v_ends : V) : (fs_TextMap v_letters v_rows v_ends).lookup ("step" : Str) = none := by rfl
theorem no_TextMap_walk (v_letters v_rows v_ends : V) : (fs_TextMap v_letters v_rows v_ends).lookup ("walk" : Str) = none := by rfl
theorem no_TextMap_image (v_letters v_rows v_ends : V) : (fs_TextMap v_letters v_rows v_ends).lookup ("image" : Str) = none := by rfl
local macro_rules | `(tactic| walk_at "lk") => `(tactic| first | exact Toy.lk_TextMap_letters _ _ _ | exact Toy.lk_TextMap_rows _ _ _ | exact Toy.lk_TextMap_ends _ _ _ | exact Toy.no_TextMap_step _ _ _ | exact Toy.no_TextMap_walk _ _ _ | exact Toy.no_TextMap_image _ _ _)
section
variable {P : Program} {w : World} {K : PySem.W.Frag} {mg : Str → Option Value} {base : Heap}
/-! ### the deck and its draws -/
theorem ok_law_takeC {ad : Ad} (T : Txt K mg ad) : FnOk P w K mg base CX0 1 ad.a_law_take ad.d_law_take ["deck", "many"] (Dk.spTakeC) := by
  refine T.F_law_take.ok sc_law_take (fun vs H Q E h => ?_) (fun cdv A outer s H vs Q E hr h => ?_)
  · obtain ⟨l, ns, m, rfl, h1, h2, h3, k⟩ := h
    rfl
  · obtain ⟨l, ns, m, rfl, h1, h2, h3, k⟩ := h
    refine ⟨_, (pss_cons (ps_if (pt_cmpR op_eq (pe_callB (id := "len") Rd.c_len (by rfl) T.z_len (by decide +kernel) (pa_cons (pv 0) pa_nil)) pe_int (nomark _)) (pss_one (ps_ret pe_int)) pss_nil)
      (pss_one (ps_ret (pe_op op_mod (pe_callTy (T := "int") Rd.c_int (by rfl) T.z_int (by decide +kernel) (pa_cons (pe_bm0 PySem.F.plainAttrs_list PySem.F.slot_list_pop PySem.F.type_list_pop mt_pop (pv 0)) pa_nil)) (pv 1))))), ?_⟩
    try dsimp only [L2.cxOf, L2.Cx.nox, L2.Cx.wish]
    change (_ : TS) _ ([some (.ref l), some (.int m)] : St) _
    have cl_TextMap := T.cl_TextMap
    have n_TextMap_ends := T.n_TextMap_ends
    have n_TextMap_letters := T.n_TextMap_letters
    have n_TextMap_rows := T.n_TextMap_rows
    have hd : L2.Same H H := Same.refl H
    walk_at "rd"
    refine Rd.ifd (fun c => ?_) (fun c => ?_)
    · walk_at "rd"
      have q := k 0 ns (by omega) h3 h2
      rw [Dk.upd_id h1] at q
      exact q
    · walk_at "rd"
      have hl : (ns.map V.int).length = ns.length := List.length_map ..
      have hp : 0 < ns.length := by
        rw [hl] at c
        omega
      have hz : (ns.map V.int)[(ns.map V.int).length - 1]? = some (V.int (ns[ns.length - 1]'(by omega))) := by
        rw [hl, List.getElem?_map, List.getElem?_eq_getElem (by omega)]
        rfl
      refine Rd.pop h1 hz ?_
      walk_at "rd"
      rw [← List.map_dropLast]
      exact k _ _ (Int.emod_nonneg _ (by omega)) (Int.emod_lt_of_pos _ h3) (by rw [List.length_dropLast]; omega)
theorem ok_law_take {ad : Ad} (T : Txt K mg ad) : FnOk P w K mg base CX0 1 ad.a_law_take ad.d_law_take ["deck", "many"] Dk.spTake := Dk.ok_take (ok_law_takeC T)
theorem ok_law_deckC {ad : Ad} (T : Txt K mg ad) : FnOk P w K mg base CX0 1 ad.a_law_deck ad.d_law_deck ["script", "cells", "each"] (Dk.spDeckC K) := by
  refine T.F_law_deck.ok sc_law_deck (fun vs H Q E h => ?_) (fun cdv A outer s H vs Q E hr h => ?_)
  · obtain ⟨a, ns, c, e, rfl, hS, hn, hc0, he0, hc1, he1, k⟩ := h
    rfl
  · obtain ⟨a, ns, c, e, rfl, hS, hn, hc0, he0, hc1, he1, k⟩ := h
    refine ⟨_, (pss_cons (ps_set (i := 3) sc_law_deck.nd rfl (Or.inl rfl) (pe_lst pa_nil))
      (pss_cons (ps_set (i := 4) sc_law_deck.nd rfl (Or.inl rfl) (pe_op op_add pe_int (pe_callB (id := "len") Rd.c_len (by rfl) T.z_len (by decide +kernel) (pa_cons (pv 0) pa_nil))))
      (pss_cons (ps_for PassesOwn.never rfl (pi_range1 rfl T.z_range (pa_cons (pv 1) pa_nil)) (pg_name (i := 5) sc_law_deck.nd rfl (Or.inl rfl)) (pss_cons (ps_set (i := 6) sc_law_deck.nd rfl (Or.inl rfl) pe_int)
      (Evl.pss_cut (ps_if (pt_cmpR op_lt (pv 5) (pe_callB (id := "len") Rd.c_len (by rfl) T.z_len (by decide +kernel) (pa_cons (pv 0) pa_nil)) (nomark _)) (pss_one (ps_set (i := 6) sc_law_deck.nd rfl (Or.inl rfl) (pe_ix ix_list (pv 0) (pv 5) (fun _ _ => rfl)))) pss_nil)
      (pss_cons (ps_set (i := 7) sc_law_deck.nd rfl (Or.inl rfl) (pe_callB (id := "abs") Rd.c_abs (by rfl) T.z_abs (by decide +kernel) (pa_cons (pv 6) pa_nil)))
      (pss_one (ps_if (pt_cmpR op_ge (pv 7) (pe_op op_pow pe_int pe_int) (nomark _)) (pss_one (ps_for PassesOwn.never rfl (pi_range1 rfl T.z_range (pa_cons (pv 2) pa_nil)) (pg_name (i := 8) sc_law_deck.nd rfl (Or.inl rfl)) (pss_cons (ps_expr (pe_bm PySem.F.plainAttrs_list PySem.F.slot_list_append PySem.F.type_list_append mt_append (pv 3) (pa_cons (pe_op op_mod (pe_callTy (T := "int") Rd.c_int (by rfl) T.z_int (by decide +kernel) (pa_cons (pv 7) pa_nil)) pe_int) pa_nil)))
      (pss_one (ps_set (i := 7) sc_law_deck.nd rfl (Or.inl rfl) (pe_op op_fdiv (pv 7) pe_int)))))) (pss_cons (ps_set (i := 4) sc_law_deck.nd rfl (Or.inl rfl) (pe_op op_mod (pe_callTy (T := "int") Rd.c_int (by rfl) T.z_int (by decide +kernel) (pa_cons (pe_op op_add (pe_op op_add (pe_op op_add (pe_op op_mul (pv 4) pe_int) (pe_op op_mul pe_int (pv 7))) (pe_callTy (T := "int") Rd.c_int (by rfl) T.z_int (by decide +kernel) (pa_cons (pe_cmpR op_lt (pv 6) pe_int (nomark _)) pa_nil))) (pv 5)) pa_nil)) pe_int))
      (pss_one (ps_for PassesOwn.never rfl (pi_range1 rfl T.z_range (pa_cons (pv 2) pa_nil)) (pg_name (i := 8) sc_law_deck.nd rfl (Or.inl rfl)) (pss_cons (ps_set (i := 4) sc_law_deck.nd rfl (Or.inl rfl) (pe_op op_mod (pe_callTy (T := "int") Rd.c_int (by rfl) T.z_int (by decide +kernel) (pa_cons (pe_op op_add (pe_op op_add (pe_op op_mul (pv 4) pe_int) (pv 8)) pe_int) pa_nil)) pe_int))
      (pss_one (ps_expr (pe_bm PySem.F.plainAttrs_list PySem.F.slot_list_append PySem.F.type_list_append mt_append (pv 3) (pa_cons (pe_op op_mod (pe_callTy (T := "int") Rd.c_int (by rfl) T.z_int (by decide +kernel) (pa_cons (pe_op op_fdiv (pv 4) pe_int) pa_nil)) pe_int) pa_nil))))))))))))))
      (pss_cons (ps_expr (pe_bm0 PySem.F.plainAttrs_list PySem.F.slot_list_reverse PySem.F.type_list_reverse mt_reverse (pv 3)))
      (pss_one (ps_ret (pv 3))))))), ?_⟩
    try dsimp only [L2.cxOf, L2.Cx.nox, L2.Cx.wish]
    change (_ : TS) _ ([some (.ref a), some (.int c), some (.int e), none, none, none, none, none, none] : St) _
    have cl_TextMap := T.cl_TextMap
    have n_TextMap_ends := T.n_TextMap_ends
    have n_TextMap_letters := T.n_TextMap_letters
    have n_TextMap_rows := T.n_TextMap_rows
    walk_at "rd"
    refine Rd.xlstU rfl fun l hl => ?_
    have hS1 : SqL K (upd H l (.lst [])) a (ns.map V.int) := Evl.ex_l (Evl.Ex.new hl) hS
    walk_at "rd"
    refine Rd.xfr1 ⟨by omega, by omega⟩ (fun i σ H' => ∃ (ms : List Int) (sd : Int) (v5 v6 v7 v8 : Option V), σ = [some (.ref a), some (.int c), some (.int e), some (.ref l), some (.int sd), v5, v6, v7, v8] ∧ H' = upd H l (.lst (ms.map V.int)) ∧ ms.length ≤ i * 64)
      ⟨[], _, none, none, none, none, rfl, rfl, Nat.zero_le _⟩ ?_ ?_
    · rintro i σ H' hi ⟨ms, sd, v5, v6, v7, v8, rfl, rfl, hm⟩
      have hS2 : SqL K (upd H l (.lst (ms.map V.int))) a (ns.map V.int) := Evl.ex_l (Evl.Ex.new hl) hS
      walk_at "rd"
      refine ⟨fun σ H' => ∃ cell : Int, σ = [some (.ref a), some (.int c), some (.int e), some (.ref l), some (.int sd), some (.int i), some (.int cell), v7, v8] ∧ H' = upd H l (.lst (ms.map V.int)), ?_, ?_⟩
      · walk_at "rd"
        refine Rd.ifd (fun h1 => ?_) (fun h1 => ?_)
        · walk_at "rd"
          rw [List.length_map] at h1
          refine Rd.ixL hS2 (atI_nat (j := i) (v := V.int (ns[i]'(by omega))) (by rw [List.getElem?_map, List.getElem?_eq_getElem (by omega)]; rfl)) ?_
          walk_at "rd"
          exact ⟨_, rfl, rfl⟩
        · walk_at "rd"
          exact ⟨_, rfl, rfl⟩
      · rintro σ H' ⟨cell, rfl, rfl⟩
        walk_at "rd"
        generalize hrest : (if cell < 0 then -cell else cell) = rest0
        refine Rd.ifd (fun h1 => ?_) (fun h1 => ?_)
        · walk_at "rd"
          refine Rd.xfr1 ⟨by omega, by omega⟩ (fun j σ H' => ∃ (ms' : List Int) (rest : Int) (v8 : Option V), σ = [some (.ref a), some (.int c), some (.int e), some (.ref l), some (.int sd), some (.int i), some (.int cell), some (.int rest), v8] ∧ H' = upd H l (.lst (ms'.map V.int)) ∧ ms'.length ≤ i * 64 + j)
            ⟨ms, _, _, rfl, rfl, hm⟩ ?_ ?_
          · rintro j σ H' hj ⟨ms', rest, v8, rfl, rfl, hm'⟩
            walk_at "rd"
            refine Rd.append upd_same (by rw [List.length_map]; omega) ?_
            walk_at "rd"
            exact ⟨ms' ++ [rest % 1000003], rest / 1000003, _, rfl, by rw [upd_upd, List.map_append]; rfl, by rw [List.length_append]; simp; omega⟩
          · rintro σ H' ⟨ms', rest, v8, rfl, rfl, hm'⟩
            exact ⟨ms', sd, _, _, _, _, rfl, rfl, by omega⟩
        · walk_at "rd"
          refine Rd.xfr1 ⟨by omega, by omega⟩ (fun j σ H' => ∃ (ms' : List Int) (sd : Int) (v8 : Option V), σ = [some (.ref a), some (.int c), some (.int e), some (.ref l), some (.int sd), some (.int i), some (.int cell), some (.int rest0), v8] ∧ H' = upd H l (.lst (ms'.map V.int)) ∧ ms'.length ≤ i * 64 + j)
            ⟨ms, _, _, rfl, rfl, hm⟩ ?_ ?_
          · rintro j σ H' hj ⟨ms', sd, v8, rfl, rfl, hm'⟩
            walk_at "rd"
            refine Rd.append upd_same (by rw [List.length_map]; omega) ?_
            walk_at "rd"
            exact ⟨ms' ++ [_], _, _, rfl, by rw [upd_upd, List.map_append]; rfl, by rw [List.length_append]; simp; omega⟩
          · rintro σ H' ⟨ms', sd, v8, rfl, rfl, hm'⟩
            exact ⟨ms', sd, _, _, _, _, rfl, rfl, by omega⟩
    · rintro σ H' ⟨ms, sd, v5, v6, v7, v8, rfl, rfl, hm⟩
      walk_at "rd"
      refine Rd.reverse upd_same ?_
      walk_at "rd"
      rw [upd_upd, ← List.map_reverse]
      exact k l ms.reverse _ hl rfl (by rw [List.length_reverse]; have := Int.toNat_of_nonneg hc0; omega)
theorem ok_law_deck {ad : Ad} (T : Txt K mg ad) : FnOk P w K mg base CX0 1 ad.a_law_deck ad.d_law_deck ["script", "cells", "each"] (Dk.spDeck K) := Dk.ok_deck (ok_law_deckC T)

/-! ### text machines, plain -/
abbrev Step := Option (Nat × Str)
def dS : Step → PyData
  | none => .none
  | some (n, w) => .tuple [.int n, .str w]
def dRow (r : List Step) : PyData := .list (r.map dS)
def dRows (R : List (List Step)) : PyData := .list (R.map dRow)
def dE : Option Str → PyData
  | none => .none
  | some w => .str w
def dEnds (E : List (Option Str)) : PyData := .list (E.map dE)
def eV : Option Str → V
  | none => .non
  | some w => .str w
section
variable {α : Type} {K : PySem.W.Frag} {H H' : Hp} {xs : List V} {as : List α} {f : α → PyData} {v y : V} {a : α} {i : Nat}
theorem itA1 (h : DpAll K H xs (as.map f)) (e : xs[i]? = some y) : ∃ a, as[i]? = some a ∧ Dp K H y (f a) := by
  obtain ⟨d, hd, hy⟩ := Dt.getA1 h e
  rw [List.getElem?_map] at hd
  obtain ⟨a, ha, rfl⟩ := Option.map_eq_some_iff.mp hd
  exact ⟨a, ha, hy⟩
theorem itA2 (h : DpAll K H xs (as.map f)) (e : as[i]? = some a) : ∃ y, xs[i]? = some y ∧ Dp K H y (f a) := Dt.getA2 h (by rw [List.getElem?_map, e]; rfl)
theorem itLen (h : DpAll K H xs (as.map f)) : xs.length = as.length := by rw [Dt.lenA h, List.length_map]
theorem dS_none (h : Dp K H v (dS none)) : v = .non := Dt.inv_n h
theorem dS_some {n : Nat} {w : Str} (h : Dp K H v (dS (some (n, w)))) : ∃ p, v = .ref p ∧ SqT K H p [.int n, .str w] := by
  obtain ⟨a, xs, rfl, hs, hA⟩ := Dt.inv_t h
  cases hA with
  | cons h1 h2 => cases h2 with
    | cons h2 h3 =>
      cases h3; cases h1; cases h2
      exact ⟨a, rfl, hs⟩
theorem dE_inv {o : Option Str} (h : Dp K H v (dE o)) : v = eV o := by
  cases o with
  | none => exact Dt.inv_n h
  | some w => exact Dt.inv_s h
theorem dE_mk (o : Option Str) : Dp K H (eV o) (dE o) := by
  cases o with
  | none => exact .non
  | some w => exact .str w
theorem endsA : ∀ (E : List (Option Str)), DpAll K H (E.map eV) (E.map dE)
  | [] => .nil
  | o :: E => .cons (dE_mk o) (endsA E)
end
/-- a machine's parts are in order: n letters -/
structure MachOk (n : Nat) (R : List (List Step)) (E : List (Option Str)) : Prop where
  pos : 0 < R.length
  len : R.length ≤ 1000
  ends : E.length = R.length
  wid : ∀ r ∈ R, r.length = n
  tgt : ∀ r ∈ R, ∀ q w, some (q, w) ∈ r → q < R.length ∧ w.length ≤ 1000 ∧ PyData.strOk w = true
  enw : ∀ w, some w ∈ E → w.length ≤ 1000 ∧ PyData.strOk w = true
/-- letters, none of them twice -/
structure Lts (L : Str) : Prop where
  len : L.length ≤ 100
  own : ∀ (i c : Nat), L.cps.toList[i]? = some c → Txt.find L ⟨#[c]⟩ = (i : Int)
theorem find_le (L : Str) (c : Nat) : Txt.find L ⟨#[c]⟩ < 0 ∨ ∃ k : Nat, Txt.find L ⟨#[c]⟩ = (k : Int) ∧ k < L.length := by
  rcases PyProof.Rows.fact_find L ⟨#[c]⟩ with h | ⟨h, g⟩
  · exact .inl (by omega)
  · have e : ((⟨#[c]⟩ : Str).length : Int) = 1 := rfl
    exact .inr ⟨(Txt.find L ⟨#[c]⟩).toNat, by omega, by omega⟩
def tstep (L : Str) (R : List (List Step)) (s c : Nat) : Step := if Txt.find L ⟨#[c]⟩ < 0 then none else (R.getD s []).getD (Txt.find L ⟨#[c]⟩).toNat none
theorem tstep_neg {L : Str} {R : List (List Step)} {s c : Nat} (h : Txt.find L ⟨#[c]⟩ < 0) : tstep L R s c = none := if_pos h
theorem tstep_at {L : Str} {R : List (List Step)} {E : List (Option Str)} {s c k : Nat} (ok : MachOk L.length R E) (hs : s < R.length) (e : Txt.find L ⟨#[c]⟩ = (k : Int)) (hk : k < L.length) : ∃ r, R[s]? = some r ∧ r[k]? = some (tstep L R s c) := by
  have h1 : R[s]? = some (R[s]'hs) := List.getElem?_eq_getElem _
  have h2 : (R[s]'hs).length = L.length := ok.wid _ (List.getElem_mem _)
  refine ⟨_, h1, ?_⟩
  unfold tstep
  have hd : R.getD s [] = R[s]'hs := by rw [List.getD_eq_getElem?_getD, h1]; rfl
  rw [e, if_neg (by omega), hd, Int.toNat_natCast, List.getD_eq_getElem?_getD, List.getElem?_eq_getElem (show k < (R[s]'hs).length by omega)]
  rfl
theorem tstep_ok {L : Str} {R : List (List Step)} {E : List (Option Str)} {s c q : Nat} {w : Str} (ok : MachOk L.length R E) (hs : s < R.length) (h : tstep L R s c = some (q, w)) : q < R.length ∧ w.length ≤ 1000 ∧ PyData.strOk w = true := by
  rcases find_le L c with e | ⟨k, e, hk⟩
  · rw [tstep_neg e] at h; cases h
  · obtain ⟨r, hr, hr2⟩ := tstep_at ok hs e hk
    rw [h] at hr2
    exact ok.tgt r (List.mem_of_getElem? hr) q w (List.mem_of_getElem? hr2)
/-- the steps along some letters: the state behind them and what was written -/
def tnext (L : Str) (R : List (List Step)) (acc : Option (Nat × List Str)) (c : Nat) : Option (Nat × List Str) := acc.bind fun p => (tstep L R p.1 c).map fun q => (q.1, p.2 ++ [q.2])
def trun (L : Str) (R : List (List Step)) (s : Nat) (l : List Nat) : Option (Nat × List Str) := l.foldl (tnext L R) (some (s, []))
theorem trun_nil (L : Str) (R : List (List Step)) (s : Nat) : trun L R s [] = some (s, []) := rfl
theorem trun_snoc (L : Str) (R : List (List Step)) (s : Nat) (l : List Nat) (c : Nat) : trun L R s (l ++ [c]) = tnext L R (trun L R s l) c := by
  unfold trun; rw [List.foldl_append]; rfl
theorem tnext_none (L : Str) (R : List (List Step)) : ∀ l : List Nat, l.foldl (tnext L R) none = none
  | [] => rfl
  | c :: l => tnext_none L R l
theorem trun_take {L : Str} {R : List (List Step)} {s : Nat} {l : List Nat} {i : Nat} (h : trun L R s (l.take i) = none) : trun L R s l = none := by
  have e : trun L R s (l.take i ++ l.drop i) = none := by
    unfold trun at *
    rw [List.foldl_append, h, tnext_none]
  rwa [List.take_append_drop] at e
theorem trun_step {L : Str} {R : List (List Step)} {s : Nat} {l : List Nat} {i c : Nat} (h : l[i]? = some c) : trun L R s (l.take (i + 1)) = tnext L R (trun L R s (l.take i)) c := by
  rw [List.take_add_one, h]
  exact trun_snoc ..
theorem trun_ok {L : Str} {R : List (List Step)} {E : List (Option Str)} {s : Nat} (ok : MachOk L.length R E) (hs : s < R.length) : ∀ (n : Nat) (l : List Nat), l.length = n → ∀ e ws, trun L R s l = some (e, ws) → e < R.length ∧ ws.length = l.length ∧ ∀ w ∈ ws, w.length ≤ 1000 ∧ PyData.strOk w = true
  | 0, l, hl, e, ws, h => by
    obtain rfl := List.length_eq_zero_iff.mp hl
    cases h
    exact ⟨hs, rfl, fun w hw => by cases hw⟩
  | n + 1, l, hl, e, ws, h => by
    have hne : l ≠ [] := fun z => by rw [z] at hl; cases hl
    rw [← List.dropLast_concat_getLast hne, trun_snoc] at h
    unfold tnext at h
    obtain ⟨p, hp, hq⟩ := Option.bind_eq_some_iff.mp h
    obtain ⟨q, hq1, hq2⟩ := Option.map_eq_some_iff.mp hq
    cases hq2
    have hdl : l.dropLast.length = n := by rw [List.length_dropLast, hl]; rfl
    obtain ⟨i1, i2, i3⟩ := trun_ok ok hs n l.dropLast hdl p.1 p.2 hp
    obtain ⟨j1, j2⟩ := tstep_ok (q := q.1) (w := q.2) ok i1 hq1
    refine ⟨j1, by rw [List.length_append, i2, hdl, hl]; rfl, fun w hw => ?_⟩
    rcases List.mem_append.mp hw with hw | hw
    · exact i3 w hw
    · cases List.mem_singleton.mp hw; exact j2
/-- texts joined -/
def jn (ws : List Str) : Str := ws.foldl (· ++ ·) ⟨#[]⟩
theorem jn_snoc (ws : List Str) (w : Str) : jn (ws ++ [w]) = jn ws ++ w := by unfold jn; rw [List.foldl_append]; rfl
theorem str_assoc (a b c : Str) : (a ++ b) ++ c = a ++ (b ++ c) := by
  show (⟨(a.cps ++ b.cps) ++ c.cps⟩ : Str) = ⟨a.cps ++ (b.cps ++ c.cps)⟩
  rw [Array.append_assoc]
theorem str_nil (a : Str) : (⟨#[]⟩ : Str) ++ a = a := by
  show (⟨#[] ++ a.cps⟩ : Str) = a
  rw [Array.empty_append]
theorem str_nilR (a : Str) : a ++ (⟨#[]⟩ : Str) = a := by
  show (⟨a.cps ++ #[]⟩ : Str) = a
  rw [Array.append_empty]
theorem len_app (a b : Str) : (a ++ b).length = a.length + b.length := by show (a.cps ++ b.cps).size = _; rw [Array.size_append]; rfl
theorem jn_from : ∀ (ws : List Str) (a : Str), ws.foldl (· ++ ·) a = a ++ jn ws
  | [], a => (str_nilR a).symm
  | w :: ws, a => by
    unfold jn
    rw [List.foldl_cons, List.foldl_cons, jn_from ws (a ++ w), jn_from ws (⟨#[]⟩ ++ w), str_nil, str_assoc]
theorem jn_cons (w : Str) (ws : List Str) : jn (w :: ws) = w ++ jn ws := by
  show ws.foldl (· ++ ·) (⟨#[]⟩ ++ w) = _
  rw [jn_from, str_nil]
theorem join_jn' : ∀ ws : List Str, Str.join ⟨#[]⟩ ws = jn ws
  | [] => rfl
  | [w] => (str_nil w).symm
  | w :: v :: ws => by
    have ih := join_jn' (v :: ws)
    rw [jn_cons, ← ih]
    show w ++ ⟨#[]⟩ ++ Str.join ⟨#[]⟩ (v :: ws) = _
    rw [str_nilR]
theorem join_jn (ws : List Str) : Txt.join ⟨#[]⟩ ws = jn ws := (eq_of_beq (PyProof.Rows.join_plain_closes _ _)).trans (join_jn' ws)
theorem jn_len {n : Nat} : ∀ ws : List Str, (∀ w ∈ ws, w.length ≤ n) → (jn ws).length ≤ n * ws.length
  | [], _ => Nat.zero_le _
  | w :: ws, h => by
    rw [jn_cons, len_app, List.length_cons, Nat.mul_succ]
    have h1 := h w List.mem_cons_self
    have h2 := jn_len ws fun x hx => h x (List.mem_cons_of_mem _ hx)
    omega
theorem ok_app {a b : Str} (h1 : PyData.strOk a = true) (h2 : PyData.strOk b = true) : PyData.strOk (a ++ b) = true := by
  show (a.cps ++ b.cps).all _ = true
  rw [Array.all_append]
  exact Bool.and_eq_true_iff.mpr ⟨h1, h2⟩
theorem jn_ok : ∀ ws : List Str, (∀ w ∈ ws, PyData.strOk w = true) → PyData.strOk (jn ws) = true
  | [], _ => by decide +kernel
  | w :: ws, h => by
    rw [jn_cons]
    exact ok_app (h w List.mem_cons_self) (jn_ok ws fun x hx => h x (List.mem_cons_of_mem _ hx))
def twalk (L : Str) (R : List (List Step)) (s : Nat) (z : Str) : Step := (trun L R s z.cps.toList).map fun p => (p.1, jn p.2)
theorem twalk_ok {L : Str} {R : List (List Step)} {E : List (Option Str)} {s e : Nat} {z w : Str} (ok : MachOk L.length R E) (hs : s < R.length) (h : twalk L R s z = some (e, w)) : e < R.length ∧ w.length ≤ 1000 * z.length ∧ PyData.strOk w = true := by
  unfold twalk at h
  obtain ⟨p, hp, he⟩ := Option.map_eq_some_iff.mp h
  cases he
  obtain ⟨h1, h2, h3⟩ := trun_ok ok hs _ _ rfl p.1 p.2 hp
  refine ⟨h1, ?_, jn_ok _ fun w hw => (h3 w hw).2⟩
  have h4 := jn_len p.2 fun w hw => (h3 w hw).1
  rw [h2] at h4
  simpa [Str.length] using h4
def timg (L : Str) (R : List (List Step)) (E : List (Option Str)) (z : Str) : Option Str := (twalk L R 0 z).bind fun p => (E.getD p.1 none).map fun w => p.2 ++ w
theorem shp_row {n : Nat} {R : List (List Step)} {E : List (Option Str)} (ok : MachOk n R E) : SeqAt.shaped (dRows R) = true := by
  have c1 : ∀ r ∈ R, ∀ st ∈ r, PyData.canLay0 (dS st) = true ∧ PyData.depth (dS st) ≤ 2 := fun r hr st hst => by
    cases st with
    | none => exact ⟨rfl, by decide⟩
    | some p =>
      obtain ⟨q, w⟩ := p
      have := (ok.tgt r hr q w hst).2.2
      exact ⟨by simp [dS, PyData.canLay0, PyData.canLayAll0, this], by simp [dS, PyData.depth, PyData.depthAll]⟩
  have c2 : ∀ r : List Step, (∀ st ∈ r, PyData.canLay0 (dS st) = true ∧ PyData.depth (dS st) ≤ 2) → PyData.canLayAll0 (r.map dS) = true ∧ PyData.depthAll (r.map dS) ≤ 2 := by
    intro r
    induction r with
    | nil => intro _; exact ⟨rfl, Nat.zero_le _⟩
    | cons st r ih =>
      intro h
      obtain ⟨a1, a2⟩ := h st List.mem_cons_self
      obtain ⟨b1, b2⟩ := ih fun x hx => h x (List.mem_cons_of_mem _ hx)
      exact ⟨by simp [PyData.canLayAll0, a1, b1], by simp [PyData.depthAll]; omega⟩
  have c3 : ∀ S : List (List Step), (∀ r ∈ S, ∀ st ∈ r, PyData.canLay0 (dS st) = true ∧ PyData.depth (dS st) ≤ 2) → PyData.canLayAll0 (S.map dRow) = true ∧ PyData.depthAll (S.map dRow) ≤ 3 := by
    intro S
    induction S with
    | nil => intro _; exact ⟨rfl, Nat.zero_le _⟩
    | cons r S ih =>
      intro h
      obtain ⟨a1, a2⟩ := c2 r (h r List.mem_cons_self)
      obtain ⟨b1, b2⟩ := ih fun x hx => h x (List.mem_cons_of_mem _ hx)
      exact ⟨by simp [dRow, PyData.canLayAll0, PyData.canLay0, a1, b1], by simp [dRow, PyData.depthAll, PyData.depth]; omega⟩
  obtain ⟨d1, d2⟩ := c3 R c1
  unfold SeqAt.shaped dRows
  rw [PyData.canLay0, d1, Bool.true_and]
  exact decide_eq_true (by rw [PyData.depth]; omega)
theorem shp_ends {n : Nat} {R : List (List Step)} {E : List (Option Str)} (ok : MachOk n R E) : SeqAt.shaped (dEnds E) = true := by
  have c2 : ∀ F : List (Option Str), (∀ w, some w ∈ F → PyData.strOk w = true) → PyData.canLayAll0 (F.map dE) = true ∧ PyData.depthAll (F.map dE) ≤ 1 := by
    intro F
    induction F with
    | nil => intro _; exact ⟨rfl, Nat.zero_le _⟩
    | cons o F ih =>
      intro h
      obtain ⟨b1, b2⟩ := ih fun x hx => h x (List.mem_cons_of_mem _ hx)
      cases o with
      | none => exact ⟨by simp [dE, PyData.canLayAll0, PyData.canLay0, b1], by simp [dE, PyData.depthAll, PyData.depth]; omega⟩
      | some w =>
        have := h w List.mem_cons_self
        exact ⟨by simp [dE, PyData.canLayAll0, PyData.canLay0, b1, this], by simp [dE, PyData.depthAll, PyData.depth]; omega⟩
  obtain ⟨d1, d2⟩ := c2 E fun w hw => (ok.enw w hw).2
  unfold SeqAt.shaped dEnds
  rw [PyData.canLay0, d1, Bool.true_and]
  exact decide_eq_true (by rw [PyData.depth]; omega)
theorem shp_dS {st : Step} (h : ∀ q w, st = some (q, w) → PyData.strOk w = true) : SeqAt.shaped (dS st) = true := by
  cases st with
  | none => decide
  | some p =>
    have := h p.1 p.2 rfl
    simp [dS, SeqAt.shaped, PyData.canLay0, PyData.canLayAll0, PyData.depth, PyData.depthAll, this]

/-! ### lists of lists of steps -/
section
variable {G H H' : Hp} {l a : Addr} {ws : List V} {o : HO} {vs : List V} {st : List Step} {as : List Addr} {R : List (List Step)}
theorem noL_dS (s : Step) : Dt.noL (dS s) = true := by
  cases s with
  | none => simp [dS, Dt.noL]
  | some p => simp [dS, Dt.noL]
theorem stA_upd (h : H l = some (.lst ws)) (d : DpAll K H vs (st.map dS)) : DpAll K (upd H l o) vs (st.map dS) := Dt.updLA h _ _ (fun d hd => by
  obtain ⟨s, _, rfl⟩ := List.mem_map.mp hd
  exact noL_dS s) d
/-- the lists of steps at as, none of them in G -/
structure Bld (K : PySem.W.Frag) (G H : Hp) (as : List Addr) (R : List (List Step)) : Prop where
  len : as.length = R.length
  rw : ∀ (k : Nat) (a : Addr) (st : List Step), as[k]? = some a → R[k]? = some st → G a = none ∧ ∃ vs, H a = some (.lst vs) ∧ DpAll K H vs (st.map dS)
theorem Bld.nil : Bld K G H [] [] := ⟨rfl, fun k a st h => by cases h⟩
theorem Bld.ex (b : Bld K G H as R) (e : Evl.Ex H H') : Bld K G H' as R := ⟨b.len, fun k a st h1 h2 => by
  obtain ⟨g, vs, h, d⟩ := b.rw k a st h1 h2
  exact ⟨g, vs, e _ _ h, Dt.mnA d e⟩⟩
theorem Bld.upd {u : HO} (b : Bld K G H as R) (g : G l = some u) (h : H l = some (.lst ws)) : Bld K G (upd H l o) as R := ⟨b.len, fun k a st h1 h2 => by
  obtain ⟨g2, vs, h2, d⟩ := b.rw k a st h1 h2
  have ne : a ≠ l := fun z => by rw [z, g] at g2; cases g2
  exact ⟨g2, vs, (upd_ne ne).trans h2, stA_upd h d⟩⟩
theorem Bld.updI {C dx : Addr} {fs : List (Str × V)} (b : Bld K G H as R) (g : G l ≠ none) (h : H l = some (.ins C dx fs)) : Bld K G (L2.upd H l o) as R := ⟨b.len, fun k a st h1 h2 => by
  obtain ⟨g2, vs, h2, d⟩ := b.rw k a st h1 h2
  have ne : a ≠ l := fun z => g (by rw [← z]; exact g2)
  exact ⟨g2, vs, (upd_ne ne).trans h2, Dt.updIA h _ _ d⟩⟩
theorem Bld.low {G' : Hp} (b : Bld K G H as R) (e : ∀ a, G a = none → G' a = none) : Bld K G' H as R := ⟨b.len, fun k a st h1 h2 => by
  obtain ⟨g, r⟩ := b.rw k a st h1 h2
  exact ⟨e a g, r⟩⟩
theorem Bld.snoc (b : Bld K G H as R) (g : G a = none) (h : H a = some (.lst vs)) (d : DpAll K H vs (st.map dS)) : Bld K G H (as ++ [a]) (R ++ [st]) := by
  refine ⟨by rw [List.length_append, List.length_append, b.len]; rfl, fun k x s h1 h2 => ?_⟩
  by_cases hk : k < as.length
  · rw [List.getElem?_append_left hk] at h1
    rw [List.getElem?_append_left (by rw [← b.len]; exact hk)] at h2
    exact b.rw k x s h1 h2
  · have hk2 : k = as.length := by
      have := (List.getElem?_eq_some_iff.mp h1).1
      rw [List.length_append] at this
      simp at this
      omega
    subst hk2
    rw [List.getElem?_append_right (Nat.le_refl _)] at h1
    rw [List.getElem?_append_right (by rw [b.len]; exact Nat.le_refl _), b.len] at h2
    simp at h1 h2
    subst h1; subst h2
    exact ⟨g, vs, h, d⟩
theorem dpA_as : ∀ (as : List Addr) (R : List (List Step)), as.length = R.length → (∀ (k : Nat) (a : Addr) (st : List Step), as[k]? = some a → R[k]? = some st → Dp K H (.ref a) (dRow st)) → DpAll K H (as.map V.ref) (R.map dRow)
  | [], [], _, _ => .nil
  | a :: as, st :: R, h, f => .cons (f 0 a st rfl rfl) (dpA_as as R (by simpa using h) fun k a st h1 h2 => f (k + 1) a st h1 h2)
  | [], _ :: _, h, _ => by cases h
  | _ :: _, [], h, _ => by cases h
theorem Bld.dp (b : Bld K G H as R) (h : H l = some (.lst (as.map V.ref))) : Dp K H (.ref l) (dRows R) := Dt.ofL h (dpA_as as R b.len fun k a st h1 h2 => by
  obtain ⟨_, vs, h, d⟩ := b.rw k a st h1 h2
  exact Dt.ofL h d)
theorem rows_of : ∀ (R : List (List Step)) (xs : List V), DpAll K H xs (R.map dRow) → ∃ vss : List (List V), vss.length = R.length ∧ ∀ (i : Nat) (x : V) (r : List V), xs[i]? = some x → vss[i]? = some r → ∃ (a : Addr) (st : List Step), x = .ref a ∧ SqL K H a r ∧ R[i]? = some st ∧ DpAll K H r (st.map dS)
  | [], xs, h => by
    cases h
    exact ⟨[], rfl, fun i x r h => by cases h⟩
  | st :: R, xs, h => by
    cases h with
    | cons h1 h2 =>
      obtain ⟨vss, hl, hv⟩ := rows_of R _ h2
      obtain ⟨a, r, rfl, hs, hd⟩ := Dt.inv_l h1
      refine ⟨r :: vss, by rw [List.length_cons, List.length_cons, hl], fun i x r' h3 h4 => ?_⟩
      cases i with
      | zero => cases h3; cases h4; exact ⟨a, st, rfl, hs, rfl, hd⟩
      | succ i => exact hv i x r' h3 h4
end
/-- [list(row) for row in rows] -/
theorem xlcCopy {σ : L2.St} {H : Hp} {Q : VK} {l : Addr} {j : Nat} {vs : List Nat} {xs : List V} {rows : List (List V)} (hx : SqL K H l xs) (hl : xs.length = rows.length) (hr : ∀ (i : Nat) (x : V) (r : List V), xs[i]? = some x → rows[i]? = some r → ∃ a, x = .ref a ∧ SqL K H a r)
    (hz : xs.length ≤ 40000) (hw : ∀ x, wipe ((wipe σ vs).set j (some x)) vs = wipe σ vs) (hj : ∀ x, ((wipe σ vs).set j (some x))[j]? = some (some x))
    (q : ∀ (p : Addr) (as : List Addr) (H' : Hp), H p = none → Evl.Ex H H' → H' p = some (.lst (as.map V.ref)) → as.length = rows.length → (∀ (k : Nat) (a : Addr) (r : List V), as[k]? = some a → rows[k]? = some r → H a = none ∧ a ≠ p ∧ H' a = some (.lst r)) → Q (.ref p) H') :
    Rd.xLcL K (gName j) tYes (tCB (Rd.rListOf K) (tCons (tVar j) tNil)) vs σ (.ref l) H Q := by
  let Cp : Addr → Nat → Hp → Prop := fun D i H' => H D = none ∧ Evl.Ex H H' ∧ ∃ as : List Addr, as.length = i ∧ H' D = some (.lst (as.map V.ref)) ∧ ∀ (k : Nat) (a : Addr) (r : List V), as[k]? = some a → rows[k]? = some r → H a = none ∧ a ≠ D ∧ H' a = some (.lst r)
  refine ⟨l, rfl, ⟨xs, hx⟩, fun D hD => lc_list (xs := xs) (Cp D) ⟨hD, Evl.Ex.new hD, [], rfl, upd_same, fun k a r h => by cases h⟩ (fun i H' _ p => Evl.ex_l p.2.1 hx) (fun i x H' hi p => ⟨hw x, iteT (B := Cp D (i + 1) H') ?_⟩) (fun H' p => ?_)⟩
  · obtain ⟨_, e, as, has, hDl, hk⟩ := p
    have hi2 : i < xs.length := (List.getElem?_eq_some_iff.mp hi).1
    have hi3 : rows[i]? = some (rows[i]'(by omega)) := List.getElem?_eq_getElem _
    obtain ⟨a, rfl, hs⟩ := hr i x _ hi hi3
    refine Rd.cb (Rd.cons (Rd.var (hj _) (Rd.nil (Rd.listOfU (Evl.ex_l e hs) fun p hp => ?_))))
    have hpD : D ≠ p := ne_of_none hDl hp
    have hp0 : H p = none := Evl.fresh_back e hp
    refine ⟨as.map V.ref, (upd_ne hpD).trans hDl, Evl.sz_lt (by rw [List.length_map, has]; omega), hD, Evl.Ex.mut (e.trans (Evl.Ex.new hp)) hD, as ++ [p], by rw [List.length_append, has]; rfl, by rw [List.map_append]; exact upd_same, fun k b r h1 h2 => ?_⟩
    by_cases hkl : k < as.length
    · rw [List.getElem?_append_left hkl] at h1
      obtain ⟨g1, g2, g3⟩ := hk k b r h1 h2
      exact ⟨g1, g2, by rw [upd_ne g2, upd_ne (ne_of_none g3 hp)]; exact g3⟩
    · have hk2 : k = i := by
        have := (List.getElem?_eq_some_iff.mp h1).1
        rw [List.length_append] at this
        simp at this
        omega
      subst hk2
      rw [List.getElem?_append_right (by omega), has, Nat.sub_self] at h1
      cases h1
      rw [hi3] at h2
      cases h2
      exact ⟨hp0, Ne.symm hpD, by rw [upd_ne (Ne.symm hpD)]; exact upd_same⟩
  · obtain ⟨_, e, as, has, hDl, hk⟩ := p
    exact q D as H' hD e hDl (by rw [has, hl]) hk
/-! ### the machine's making -/
def spCheck (K : PySem.W.Frag) : Sp := fun vs H Q _ => ∃ (L : Str) (r e : Addr) (R : List (List Step)) (E : List (Option Str)), vs = [.str L, .ref r, .ref e] ∧ MachOk L.length R E ∧ Lts L ∧ Dp K H (.ref r) (dRows R) ∧ Dp K H (.ref e) (dEnds E) ∧ Q .non H
theorem ok_check_machine {ad : Ad} (T : Txt K mg ad) : FnOk P w K mg base CX0 1 ad.a_check_machine ad.d_check_machine ["letters", "rows", "ends"] (spCheck K) := by
  refine T.F_check_machine.ok sc_check_machine (fun vs H Q E h => ?_) (fun cdv A outer s H vs Q E hr h => ?_)
  · obtain ⟨L, r, e, R, E, rfl, ok, hL, hr0, he, k⟩ := h
    rfl
  · obtain ⟨L, r, e, R, E, rfl, ok, hL, hr0, he, k⟩ := h
    refine ⟨_, (pss_cons (ps_for PassesOwn.never rfl (pi_range1 rfl T.z_range (pa_cons (pe_callB (id := "len") Rd.c_lenS (by rfl) T.z_len (by decide +kernel) (pa_cons (pv 0) pa_nil)) pa_nil)) (pg_name (i := 3) sc_check_machine.nd rfl (Or.inl rfl)) (pss_one (ps_if (pt_cmpR op_ne (pe_m1 PySem.F.slot_str_find PySem.F.type_str_find Rd.mt_fd (pv 0) (pe_ix ix_str (pv 0) (pv 3) (fun _ _ => rfl))) (pv 3) (nomark _)) (pss_one ps_never) pss_nil)))
      (pss_cons (ps_if (PW.pt (pw_or (pt_cmpR op_eq (pe_callB (id := "len") Rd.c_len (by rfl) T.z_len (by decide +kernel) (pa_cons (pv 1) pa_nil)) pe_int (nomark _)) (pw_or1 (pt_cmpR op_ne (pe_callB (id := "len") Rd.c_len (by rfl) T.z_len (by decide +kernel) (pa_cons (pv 2) pa_nil)) (pe_callB (id := "len") Rd.c_len (by rfl) T.z_len (by decide +kernel) (pa_cons (pv 1) pa_nil)) (nomark _))))) (pss_one ps_never) pss_nil)
      (pss_one (ps_for PassesOwn.never rfl (pi_list (pv 1)) (pg_name (i := 4) sc_check_machine.nd rfl (Or.inl rfl)) (pss_cons (ps_if (pt_cmpR op_ne (pe_callB (id := "len") Rd.c_len (by rfl) T.z_len (by decide +kernel) (pa_cons (pv 4) pa_nil)) (pe_callB (id := "len") Rd.c_lenS (by rfl) T.z_len (by decide +kernel) (pa_cons (pv 0) pa_nil)) (nomark _)) (pss_one ps_never) pss_nil)
      (pss_one (ps_for PassesOwn.never rfl (pi_list (pv 4)) (pg_name (i := 5) sc_check_machine.nd rfl (Or.inl rfl)) (pss_one (ps_if (PW.pt (pw_and (pt_cmpR op_notN1 (pv 5) pe_non (nomark _)) (pw_and1 (pt_not (pt_chain op_le op_lt pe_int (pe_ix ix_tup (pv 5) pe_int (fun _ _ => rfl)) (pe_callB (id := "len") Rd.c_len (by rfl) T.z_len (by decide +kernel) (pa_cons (pv 1) pa_nil))))))) (pss_one ps_never) pss_nil))))))))), ?_⟩
    try dsimp only [L2.cxOf, L2.Cx.nox, L2.Cx.wish]
    change (_ : TS) _ ([some (.str L), some (.ref r), some (.ref e), none, none, none] : St) _
    have cl_TextMap := T.cl_TextMap
    have n_TextMap_ends := T.n_TextMap_ends
    have n_TextMap_letters := T.n_TextMap_letters
    have n_TextMap_rows := T.n_TextMap_rows
    obtain ⟨r', xs, e0, hs, hA⟩ := Dt.inv_l hr0
    cases e0
    obtain ⟨e', es, e0, hes, hEA⟩ := Dt.inv_l he
    cases e0
    have hLl := hL.len
    have hxl := itLen hA
    have hel := itLen hEA
    have hR1 := ok.len
    have hR0 := ok.pos
    have hRE := ok.ends
    walk_at "rd"
    refine Rd.lenS (by omega) ?_
    walk_at "rd"
    refine Rd.xfr1 ⟨by omega, by omega⟩ (fun i σ H' => ∃ v3 v4 v5, σ = [some (.str L), some (.ref r), some (.ref e), v3, v4, v5] ∧ H = H') ⟨_, _, _, rfl, rfl⟩ ?_ ?_
    · rintro i σ H' hi ⟨v3, v4, v5, rfl, rfl⟩
      have hc : L.cps.toList[i]? = some (L.cps.toList[i]'(by have : L.cps.toList.length = L.length := rfl; omega)) := List.getElem?_eq_getElem _
      generalize L.cps.toList[i]'(by have : L.cps.toList.length = L.length := rfl; omega) = c at hc
      walk_at "rd"
      refine Rd.ixS (by omega) (atI_nat hc) ?_
      walk_at "rd"
      rw [hL.own i c hc]
      walk_at "rd"
      exact ⟨_, _, _, rfl, rfl⟩
    · rintro σ H' ⟨v3, v4, v5, rfl, rfl⟩
      walk_at "rd"
      refine Rd.xfl hs (fun i σ H' => ∃ v3 v4 v5, σ = [some (.str L), some (.ref r), some (.ref e), v3, v4, v5] ∧ H = H') ⟨_, _, _, rfl, rfl⟩ (fun i σ H' _ ⟨_, _, _, _, e⟩ => by rw [← e]; exact hs) ?_ ?_
      · rintro i x σ H' hx ⟨v3, v4, v5, rfl, rfl⟩
        obtain ⟨row, hrow, hd⟩ := itA1 hA hx
        obtain ⟨ra, ys, rfl, hys, hyA⟩ := Dt.inv_l hd
        have hyl := itLen hyA
        have hw := ok.wid row (List.mem_of_getElem? hrow)
        walk_at "rd"
        refine Rd.lenS (by omega) ?_
        walk_at "rd"
        refine Rd.xfl hys (fun i σ H' => ∃ v3 v5, σ = [some (.str L), some (.ref r), some (.ref e), v3, some (.ref ra), v5] ∧ H = H') ⟨_, _, rfl, rfl⟩ (fun i σ H' _ ⟨_, _, _, e⟩ => by rw [← e]; exact hys) ?_ ?_
        · rintro j y σ H' hy ⟨v3, v5, rfl, rfl⟩
          obtain ⟨st, hst, hyd⟩ := itA1 hyA hy
          cases st with
          | none =>
            obtain rfl := dS_none hyd
            walk_at "rd"
            exact ⟨_, _, rfl, rfl⟩
          | some p =>
            obtain ⟨q, w⟩ := p
            obtain ⟨pa, rfl, hpa⟩ := dS_some hyd
            have hq := (ok.tgt row (List.mem_of_getElem? hrow) q w (List.mem_of_getElem? hst)).1
            walk_at "rd"
            exact ⟨_, _, rfl, rfl⟩
        · rintro σ H' ⟨v3, v5, rfl, rfl⟩
          exact ⟨_, _, _, rfl, rfl⟩
      · rintro σ H' ⟨v3, v4, v5, rfl, rfl⟩
        exact k
/-- a text map that was made; its lists are new -/
structure TNew (K : PySem.W.Frag) (G H : Hp) (x C dx : Addr) (L : Str) (R : List (List Step)) (E : List (Option Str)) (ra ea : Addr) (as : List Addr) : Prop where
  at_ : H x = some (.ins C dx (fs_TextMap (.str L) (.ref ra) (.ref ea)))
  rr : H ra = some (.lst (as.map V.ref))
  nr : G ra = none
  ee : H ea = some (.lst (E.map eV))
  ne : G ea = none
  bl : Bld K G H as R
/-- a text map -/
def TMap (K : PySem.W.Frag) (C : Addr) (H : Hp) (x : Addr) (L : Str) (R : List (List Step)) (E : List (Option Str)) : Prop := ∃ (dx ra ea : Addr), H x = some (.ins C dx (fs_TextMap (.str L) (.ref ra) (.ref ea))) ∧ Dp K H (.ref ra) (dRows R) ∧ Dp K H (.ref ea) (dEnds E)
theorem TMap.mono {C : Addr} {H H' : Hp} {x : Addr} {L : Str} {R : List (List Step)} {E : List (Option Str)} (h : TMap K C H x L R E) (e : Evl.Ex H H') : TMap K C H' x L R E := by
  obtain ⟨dx, ra, ea, h1, h2, h3⟩ := h
  exact ⟨dx, ra, ea, e _ _ h1, Dt.mn h2 e, Dt.mn h3 e⟩
theorem TNew.map {C dx : Addr} {G H : Hp} {x ra ea : Addr} {L : Str} {R : List (List Step)} {E : List (Option Str)} {as : List Addr} (h : TNew K G H x C dx L R E ra ea as) : TMap K C H x L R E := ⟨dx, ra, ea, h.at_, h.bl.dp h.rr, Dt.ofL h.ee (endsA E)⟩
theorem TNew.upd {C dx : Addr} {G H : Hp} {x ra ea l : Addr} {L : Str} {R : List (List Step)} {E : List (Option Str)} {as : List Addr} {ws : List V} {o u : HO} (h : TNew K G H x C dx L R E ra ea as) (g : G l = some u) (hl : H l = some (.lst ws)) : TNew K G (upd H l o) x C dx L R E ra ea as where
  at_ := (upd_ne (ne_of h.at_ hl (by intro z; cases z))).trans h.at_
  rr := (upd_ne (fun z => by have n := h.nr; rw [z, g] at n; cases n)).trans h.rr
  nr := h.nr
  ee := (upd_ne (fun z => by have n := h.ne; rw [z, g] at n; cases n)).trans h.ee
  ne := h.ne
  bl := h.bl.upd g hl
def spTInit (C : Addr) (K : PySem.W.Frag) : Sp := fun vs H Q _ => ∃ (x dx : Addr) (L : Str) (R : List (List Step)) (E : List (Option Str)) (r e : Addr), vs = [.ref x, .str L, .ref r, .ref e] ∧ H x = some (.ins C dx []) ∧ MachOk L.length R E ∧ Lts L ∧ Dp K H (.ref r) (dRows R) ∧ Dp K H (.ref e) (dEnds E) ∧
  ∀ H' ra ea as, (∀ b o, b ≠ x → H b = some o → H' b = some o) → TNew K H H' x C dx L R E ra ea as → Q .non H'
theorem ok_TextMap_init_ {ad : Ad} (T : Txt K mg ad) : FnOk P w K mg base CX0 2 ad.a_TextMap_init_ ad.d_TextMap_init_ ["self", "letters", "rows", "ends"] (spTInit ad.c_TextMap K) := by
  refine T.F_TextMap_init_.ok sc_TextMap_init_ (fun vs H Q E h => ?_) (fun cdv A outer s H vs Q E hr h => ?_)
  · obtain ⟨x, dx, L, R, E, r, e, rfl, hx, ok, hL, hr0, he, k⟩ := h
    rfl
  · obtain ⟨x, dx, L, R, E, r, e, rfl, hx, ok, hL, hr0, he, k⟩ := h
    refine ⟨_, (pss_cons (ps_expr (pe_call (ok_check_machine T) (hr.mono (by decide)) rfl T.m_check_machine T.F_check_machine.kp T.b_check_machine .nil pass0 (pa_cons (pv 1) (pa_cons (pv 2) (pa_cons (pv 3) pa_nil)))))
      (pss_cons (ps_fld (pv 0) (pv 1) rfl)
      (pss_cons (ps_fld (pv 0) (pe_lc (own := [("row", 4)]) (g := gName 4) (tt := tYes) rfl sc_TextMap_init_.nd (pi_list (pv 2)) (blkOk_by (N := ["self", "letters", "rows", "ends", "row"]) (sc := defScope s_TextMap_init_) (by decide +kernel)) (fun _ _ _ _ _ => (pg_name (i := 4) sc_TextMap_init_.nd rfl (Or.inl rfl))) (fun _ _ _ _ _ => pts_nil) (fun _ _ _ _ _ => (pe_callTy (T := "list") (Rd.c_list : CallR _ _ (Rd.rListOf K)) (by rfl) T.z_list (by decide +kernel) (pa_cons (pv 4) pa_nil)))) rfl)
      (pss_one (ps_fld (pv 0) (pe_callTy (T := "list") Rd.c_list (by rfl) T.z_list (by decide +kernel) (pa_cons (pv 3) pa_nil)) rfl))))), ?_⟩
    try dsimp only [L2.cxOf, L2.Cx.nox, L2.Cx.wish]
    change (_ : TS) _ ([some (.ref x), some (.str L), some (.ref r), some (.ref e), none] : St) _
    have cl_TextMap := T.cl_TextMap
    have n_TextMap_ends := T.n_TextMap_ends
    have n_TextMap_letters := T.n_TextMap_letters
    have n_TextMap_rows := T.n_TextMap_rows
    walk_at "rd"
    refine ⟨L, r, e, R, E, rfl, ok, hL, hr0, he, ?_⟩
    obtain ⟨r', xs, e0, hs, hA⟩ := Dt.inv_l hr0
    cases e0
    obtain ⟨e', es, e0, hes, hEA⟩ := Dt.inv_l he
    cases e0
    obtain ⟨vss, hvl, hv⟩ := rows_of R xs hA
    have hxl := itLen hA
    have hR1 := ok.len
    have hes0 : es = E.map eV := by
      refine List.ext_getElem? fun i => ?_
      rw [List.getElem?_map]
      by_cases hi : i < es.length
      · obtain ⟨o, ho, hd⟩ := itA1 hEA (List.getElem?_eq_getElem hi)
        rw [List.getElem?_eq_getElem hi, ho, dE_inv hd]; rfl
      · rw [List.getElem?_eq_none (by omega), List.getElem?_eq_none (by rw [← itLen hEA]; omega)]; rfl
    subst hes0
    walk_at "rd"
    refine xlcCopy (rows := vss) (Dt.sql_ins hx hs) (by omega) (fun i y r h1 h2 => ?_) (by omega) (fun _ => rfl) (fun _ => rfl) fun ra as H2 nra e2 hra has hcp => ?_
    · obtain ⟨a, st, h3, h4, _⟩ := hv i y r h1 h2
      exact ⟨a, h3, Dt.sql_ins hx h4⟩
    have hx2 := e2 _ _ (upd_same (H := H))
    have rx : ra ≠ x := fun z => by rw [z, upd_same] at nra; cases nra
    walk_at "rd"
    refine Rd.listOf (Dt.sql_ins hx2 (Evl.ex_l e2 (Dt.sql_ins hx hes))) fun ea H4 nea e4 hea => ?_
    have hx4 := e4 _ _ (upd_same (H := H2))
    have ex : ea ≠ x := fun z => by rw [z, upd_same] at nea; cases nea
    have er : ra ≠ ea := fun z => by rw [← z, upd_ne rx, hra] at nea; cases nea
    walk_at "rd"
    simp only [pf_TextMap_letters, pf_TextMap_rows, pf_TextMap_ends]
    have n2 : ∀ a, (upd H x (.ins ad.c_TextMap dx (putF "letters" (.str L) []))) a = none → a ≠ x ∧ H a = none := fun a h => by
      have ne : a ≠ x := fun z => by rw [z, upd_same] at h; cases h
      rw [upd_ne ne] at h
      exact ⟨ne, h⟩
    refine k _ ra ea as (fun b o hb hbo => ?_) ⟨upd_same, ?_, (n2 _ nra).2, ?_, ?_, ?_⟩
    · exact (upd_ne hb).trans (e4 _ _ ((upd_ne hb).trans (e2 _ _ ((upd_ne hb).trans hbo))))
    · exact (upd_ne rx).trans (e4 _ _ ((upd_ne rx).trans hra))
    · exact (upd_ne ex).trans hea
    · have z := nea
      rw [upd_ne ex] at z
      exact (n2 _ (Evl.fresh_back e2 z)).2
    · refine ⟨by rw [has, hvl], fun kk a st h1 h2 => ?_⟩
      have h3 : vss[kk]? = some (vss[kk]'(by have := (List.getElem?_eq_some_iff.mp h2).1; omega)) := List.getElem?_eq_getElem _
      obtain ⟨g1, g2, g3⟩ := hcp kk a _ h1 h3
      obtain ⟨ax, a0⟩ := n2 _ g1
      have h4 : xs[kk]? = some (xs[kk]'(by have := (List.getElem?_eq_some_iff.mp h2).1; omega)) := List.getElem?_eq_getElem _
      obtain ⟨_, st', _, _, h5, h6⟩ := hv kk _ _ h4 h3
      rw [h2] at h5
      cases h5
      exact ⟨a0, _, (upd_ne ax).trans (e4 _ _ ((upd_ne ax).trans g3)), Dt.updIA hx4 _ _ (Dt.mnA (Dt.updIA hx2 _ _ (Dt.mnA (Dt.updIA hx _ _ h6) e2)) e4)⟩
theorem x_TextMap {C : Addr} {H : Hp} {Q : VK} {E0 : XK} {L : Str} {R : List (List Step)} {E : List (Option Str)} {r e : Addr} (ok : MachOk L.length R E) (hL : Lts L) (hr : Dp K H (.ref r) (dRows R)) (he : Dp K H (.ref e) (dEnds E))
    (q : ∀ x dx H' ra ea as, H x = none → Evl.Ex H H' → TNew K H H' x C dx L R E ra ea as → Q (.ref x) H') : Rd.xMk C (fun x H2 Q2 => spTInit C K (x :: ([.str L, .ref r, .ref e] ++ [])) H2 Q2 E0) H Q := Rd.xmk fun x dx H' e1 n hx =>
  ⟨x, dx, L, R, E, r, e, rfl, hx, ok, hL, Dt.mn hr e1, Dt.mn he e1, fun H2 ra ea as kp t => ⟨rfl, q x dx H2 ra ea as n (Rd.exBut e1 n kp) ⟨t.at_, t.rr, Evl.fresh_back e1 t.nr, t.ee, Evl.fresh_back e1 t.ne, t.bl.low fun a h => Evl.fresh_back e1 h⟩⟩⟩
/-! ### a text map's step, walk, image -/
def spTStep (C : Addr) (K : PySem.W.Frag) : Sp := fun vs H Q _ => ∃ (x : Addr) (s c : Nat) (L : Str) (R : List (List Step)) (E : List (Option Str)), vs = [.ref x, .int s, .str ⟨#[c]⟩] ∧ TMap K C H x L R E ∧ MachOk L.length R E ∧ s < R.length ∧ ∀ y, Dp K H y (dS (tstep L R s c)) → Q y H
theorem ok_TextMap_step {ad : Ad} (T : Txt K mg ad) : FnOk P w K mg base CX0 1 ad.a_TextMap_step ad.d_TextMap_step ["self", "state", "letter"] (spTStep ad.c_TextMap K) := by
  refine T.F_TextMap_step.ok sc_TextMap_step (fun vs H Q E h => ?_) (fun cdv A outer s H vs Q E hr h => ?_)
  · obtain ⟨x, st, c, L, R, E, rfl, ⟨dx, ra, ea, hx, hr0, he⟩, ok, hs, k⟩ := h
    rfl
  · obtain ⟨x, st, c, L, R, E, rfl, ⟨dx, ra, ea, hx, hr0, he⟩, ok, hs, k⟩ := h
    refine ⟨_, (pss_cons (ps_set (i := 3) sc_TextMap_step.nd rfl (Or.inl rfl) (pe_m1 PySem.F.slot_str_find PySem.F.type_str_find Rd.mt_fd (pe_fld (pv 0) rfl) (pv 2)))
      (pss_cons (ps_if (pt_cmpR op_lt (pv 3) pe_int (nomark _)) (pss_one (ps_ret pe_non)) pss_nil)
      (pss_one (ps_ret (pe_ix ix_list (pe_ix ix_list (pe_fld (pv 0) rfl) (pv 1) (fun _ _ => rfl)) (pv 3) (fun _ _ => rfl)))))), ?_⟩
    try dsimp only [L2.cxOf, L2.Cx.nox, L2.Cx.wish]
    change (_ : TS) _ ([some (.ref x), some (.int st), some (.str ⟨#[c]⟩), none] : St) _
    have cl_TextMap := T.cl_TextMap
    have n_TextMap_ends := T.n_TextMap_ends
    have n_TextMap_letters := T.n_TextMap_letters
    have n_TextMap_rows := T.n_TextMap_rows
    walk_at "rd"
    rcases find_le L c with h | ⟨kk, h, hk⟩
    · refine Rd.ifT h ?_
      walk_at "rd"
      exact k _ (by rw [tstep_neg h]; exact .non)
    · rw [h]
      walk_at "rd"
      obtain ⟨row, h1, h2⟩ := tstep_at ok hs h hk
      obtain ⟨_, xs, e0, hsx, hA⟩ := Dt.inv_l hr0
      cases e0
      obtain ⟨y, hy, hyd⟩ := itA2 hA h1
      obtain ⟨ya, ys, rfl, hys, hyA⟩ := Dt.inv_l hyd
      obtain ⟨z, hz, hzd⟩ := itA2 hyA h2
      refine Rd.ixL hsx (atI_nat hy) ?_
      walk_at "rd"
      refine Rd.ixL hys (atI_nat hz) ?_
      walk_at "rd"
      exact k _ hzd
def spTWalk (C : Addr) (K : PySem.W.Frag) : Sp := fun vs H Q _ => ∃ (x : Addr) (s : Nat) (z L : Str) (R : List (List Step)) (E : List (Option Str)), vs = [.ref x, .int s, .str z] ∧ TMap K C H x L R E ∧ MachOk L.length R E ∧ s < R.length ∧ z.length ≤ 1000 ∧ ∀ y H', Evl.Ex H H' → Dp K H' y (dS (twalk L R s z)) → Q y H'
theorem ok_TextMap_walk {ad : Ad} (T : Txt K mg ad) : FnOk P w K mg base CX0 2 ad.a_TextMap_walk ad.d_TextMap_walk ["self", "state", "text"] (spTWalk ad.c_TextMap K) := by
  refine T.F_TextMap_walk.ok sc_TextMap_walk (fun vs H Q E h => ?_) (fun cdv A outer s H vs Q E hr h => ?_)
  · obtain ⟨x, st, z, L, R, E, rfl, hT, ok, hs, hz, k⟩ := h
    rfl
  · obtain ⟨x, st, z, L, R, E, rfl, hT, ok, hs, hz, k⟩ := h
    refine ⟨_, (pss_cons (ps_set (i := 3) sc_TextMap_walk.nd rfl (Or.inl rfl) (pe_lst pa_nil))
      (pss_cons (ps_for PassesOwn.never rfl (pi_str (pv 2)) (pg_name (i := 4) sc_TextMap_walk.nd rfl (Or.inl rfl)) (pss_cons (ps_set (i := 5) sc_TextMap_walk.nd rfl (Or.inl rfl) (pe_meth (pv 0) T.cl_TextMap T.me_TextMap_step (ok_TextMap_step T) (hr.mono (by decide)) T.b_TextMap_step .nil pass0 (pa_cons (pv 1) (pa_cons (pv 4) pa_nil))))
      (pss_cons (ps_if (pt_cmpR op_isN1 (pv 5) pe_non (nomark _)) (pss_one (ps_ret pe_non)) pss_nil)
      (pss_cons (ps_set (i := 1) sc_TextMap_walk.nd rfl (Or.inl rfl) (pe_ix ix_tup (pv 5) pe_int (fun _ _ => rfl)))
      (pss_one (ps_expr (pe_bm PySem.F.plainAttrs_list PySem.F.slot_list_append PySem.F.type_list_append mt_append (pv 3) (pa_cons (pe_ix ix_tup (pv 5) pe_int (fun _ _ => rfl)) pa_nil))))))))
      (pss_one (ps_ret (pe_tup (pa_cons (pv 1) (pa_cons (pe_m1 PySem.F.slot_str_join PySem.F.type_str_join Rd.mt_jn pe_str (pv 3)) pa_nil))))))), ?_⟩
    try dsimp only [L2.cxOf, L2.Cx.nox, L2.Cx.wish]
    change (_ : TS) _ ([some (.ref x), some (.int st), some (.str z), none, none, none] : St) _
    have cl_TextMap := T.cl_TextMap
    have n_TextMap_ends := T.n_TextMap_ends
    have n_TextMap_letters := T.n_TextMap_letters
    have n_TextMap_rows := T.n_TextMap_rows
    walk_at "rd"
    refine Rd.xlst rfl fun l H1 n1 e1 hl => ?_
    walk_at "rd"
    have hzl : z.cps.toList.length = z.length := rfl
    refine Rd.xfs (fun i σ H' => ∃ (e : Nat) (ws : List Str) (v4 v5 : Option V), trun L R st (z.cps.toList.take i) = some (e, ws) ∧ σ = [some (.ref x), some (.int e), some (.str z), some (.ref l), v4, v5] ∧ H' l = some (.lst (ws.map V.str)) ∧ Evl.Ex H H')
      ⟨st, [], _, _, rfl, rfl, hl, e1⟩ ?_ ?_
    · rintro i c σ H' hc ⟨e, ws, v4, v5, hrun, rfl, hl2, e2⟩
      have hT2 := hT.mono e2
      obtain ⟨he, hwl, hwb⟩ := trun_ok ok hs _ _ rfl e ws hrun
      have hc2 : z.cps.toList[i]? = some c := by rw [Array.getElem?_toList]; exact hc
      have hi : i < z.cps.toList.length := (List.getElem?_eq_some_iff.mp hc2).1
      have hstep := trun_step (L := L) (R := R) (s := st) hc2
      rw [hrun] at hstep
      have hat := hT2
      obtain ⟨dx, ra, ea, hx, _, _⟩ := hat
      walk_at "rd"
      refine ⟨x, e, c, L, R, E, rfl, hT2, ok, he, fun y hy => ?_⟩
      cases hst : tstep L R e c with
      | none =>
        rw [hst] at hy
        obtain rfl := dS_none hy
        walk_at "rd"
        have hn : trun L R st (z.cps.toList.take (i + 1)) = none := by rw [hstep]; unfold tnext; rw [Option.bind_some]; dsimp only; rw [hst]; rfl
        refine k _ _ e2 ?_
        unfold twalk
        rw [trun_take hn]
        exact .non
      | some p =>
        obtain ⟨q, w⟩ := p
        rw [hst] at hy
        obtain ⟨pa, rfl, hpa⟩ := dS_some hy
        walk_at "rd"
        rw [List.length_take] at hwl
        refine Rd.append hl2 (by rw [List.length_map]; omega) ?_
        walk_at "rd"
        refine ⟨q, ws ++ [w], _, _, ?_, rfl, by rw [List.map_append]; exact upd_same, Evl.Ex.mut e2 (Evl.fresh_back (Evl.Ex.refl H) n1)⟩
        rw [hstep]; unfold tnext; rw [Option.bind_some]; dsimp only; rw [hst]; rfl
    · rintro σ H' ⟨e, ws, v4, v5, hrun, rfl, hl2, e2⟩
      have hrun2 : trun L R st z.cps.toList = some (e, ws) := by
        rw [← hrun, List.take_of_length_le (show z.cps.toList.length ≤ z.cps.size from Nat.le_refl _)]
      obtain ⟨he, hwl, hwb⟩ := trun_ok ok hs _ _ rfl e ws hrun2
      have hsum : ∀ ws : List Str, (∀ w ∈ ws, w.length ≤ 1000) → (ws.map (·.length)).sum ≤ 1000 * ws.length := by
        intro ws
        induction ws with
        | nil => intro _; exact Nat.zero_le _
        | cons w ws ih =>
          intro h
          have a1 := h w List.mem_cons_self
          have a2 := ih fun x hx => h x (List.mem_cons_of_mem _ hx)
          simp only [List.map_cons, List.sum_cons, List.length_cons]
          omega
      have hs1 := hsum ws fun w hw => (hwb w hw).1
      walk_at "rd"
      refine Rd.join (SqL.of hl2) (by have : (Str.ofString "").length = 0 := rfl; show _ + ws.length * 0 ≤ _; omega) ?_
      walk_at "rd"
      refine Rd.xtup rfl fun p H3 n3 e3 hp => ?_
      refine k _ _ (e2.trans e3) ?_
      unfold twalk
      rw [hrun2]
      have ej : Txt.join (Str.ofString "") ws = jn ws := join_jn ws
      rw [ej] at hp
      exact Dt.ofT hp (.cons (.int _) (.cons (.str _) .nil))
def spTImg (C : Addr) (K : PySem.W.Frag) : Sp := fun vs H Q _ => ∃ (x : Addr) (z L : Str) (R : List (List Step)) (E : List (Option Str)), vs = [.ref x, .str z] ∧ TMap K C H x L R E ∧ MachOk L.length R E ∧ z.length ≤ 1000 ∧ ∀ H', Evl.Ex H H' → Q (eV (timg L R E z)) H'
theorem ok_TextMap_image {ad : Ad} (T : Txt K mg ad) : FnOk P w K mg base CX0 3 ad.a_TextMap_image ad.d_TextMap_image ["self", "text"] (spTImg ad.c_TextMap K) := by
  refine T.F_TextMap_image.ok sc_TextMap_image (fun vs H Q E h => ?_) (fun cdv A outer s H vs Q E hr h => ?_)
  · obtain ⟨x, z, L, R, E, rfl, hT, ok, hz, k⟩ := h
    rfl
  · obtain ⟨x, z, L, R, E, rfl, hT, ok, hz, k⟩ := h
    refine ⟨_, (pss_cons (ps_set (i := 2) sc_TextMap_image.nd rfl (Or.inl rfl) (pe_meth (pv 0) T.cl_TextMap T.me_TextMap_walk (ok_TextMap_walk T) (hr.mono (by decide)) T.b_TextMap_walk .nil pass0 (pa_cons pe_int (pa_cons (pv 1) pa_nil))))
      (pss_cons (ps_if (PW.pt (pw_or (pt_cmpR op_isN1 (pv 2) pe_non (nomark _)) (pw_or1 (pt_cmpR op_isN1 (pe_ix ix_list (pe_fld (pv 0) rfl) (pe_ix ix_tup (pv 2) pe_int (fun _ _ => rfl)) (fun _ _ => rfl)) pe_non (nomark _))))) (pss_one (ps_ret pe_non)) pss_nil)
      (pss_one (ps_ret (pe_op Rd.op_addS (pe_ix ix_tup (pv 2) pe_int (fun _ _ => rfl)) (pe_ix ix_list (pe_fld (pv 0) rfl) (pe_ix ix_tup (pv 2) pe_int (fun _ _ => rfl)) (fun _ _ => rfl))))))), ?_⟩
    try dsimp only [L2.cxOf, L2.Cx.nox, L2.Cx.wish]
    change (_ : TS) _ ([some (.ref x), some (.str z), none] : St) _
    have cl_TextMap := T.cl_TextMap
    have n_TextMap_ends := T.n_TextMap_ends
    have n_TextMap_letters := T.n_TextMap_letters
    have n_TextMap_rows := T.n_TextMap_rows
    have hat := hT
    obtain ⟨dx, ra, ea, hx, _, he⟩ := hat
    walk_at "rd"
    refine ⟨x, 0, z, L, R, E, rfl, hT, ok, ok.pos, hz, fun y H1 e1 hy => ?_⟩
    have hx1 := e1 _ _ hx
    obtain ⟨_, es, e0, hes, hEA⟩ := Dt.inv_l (Dt.mn he e1)
    cases e0
    cases hst : twalk L R 0 z with
    | none =>
      rw [hst] at hy
      obtain rfl := dS_none hy
      walk_at "rd"
      have e0 : timg L R E z = none := by unfold timg; rw [hst]; rfl
      rw [e0] at k
      exact k _ e1
    | some p =>
      obtain ⟨q, w⟩ := p
      rw [hst] at hy
      obtain ⟨pa, rfl, hpa⟩ := dS_some hy
      obtain ⟨hq, hwl, hwo⟩ := twalk_ok ok ok.pos hst
      have hqe : E[q]? = some (E[q]'(by rw [ok.ends]; exact hq)) := List.getElem?_eq_getElem _
      obtain ⟨y2, hy2, hyd2⟩ := itA2 hEA hqe
      have hyv := dE_inv hyd2
      subst hyv
      have e0 : timg L R E z = (E[q]'(by rw [ok.ends]; exact hq)).map fun w2 => w ++ w2 := by
        unfold timg; rw [hst, Option.bind_some]; dsimp only; rw [List.getD_eq_getElem?_getD, hqe]; rfl
      rw [e0] at k
      cases ho : (E[q]'(by rw [ok.ends]; exact hq)) with
      | none =>
        rw [ho] at k hy2
        change _ = some V.non at hy2
        walk_at "rd"
        refine Rd.ixL hes (atI_nat hy2) ?_
        walk_at "rd"
        exact k _ e1
      | some w2 =>
        rw [ho] at k hy2
        change _ = some (V.str w2) at hy2
        have h2 := (ok.enw w2 (by rw [← ho]; exact List.getElem_mem _)).1
        walk_at "rd"
        refine Rd.ixL hes (atI_nat hy2) ?_
        walk_at "rd"
        refine Rd.ixL hes (atI_nat hy2) ?_
        walk_at "rd"
        refine ⟨w, w2, rfl, rfl, ?_, k _ e1⟩
        rw [sizeLine_eq]
        have : 1000 * z.length ≤ 1000000 := by omega
        omega

/-! split -/
/-! ### the law's own machines -/
theorem ok_one {z : Str} {k c : Nat} (h : PyData.strOk z = true) (e : z.cps.toList[k]? = some c) : PyData.strOk ⟨#[c]⟩ = true := by
  have h2 : z.cps.all (· < 0x110000) = true := h
  have h3 := Array.all_eq_true'.mp h2 c (by rw [← Array.mem_toList_iff]; exact List.mem_of_getElem? e)
  show (#[c] : Array Nat).all (· < 0x110000) = true
  simp only [Array.all_eq_true', List.mem_toArray, List.mem_singleton]
  intro x hx
  have hx2 : x = c := by simpa using hx
  rw [hx2]; exact h3
def spWord : Sp := fun vs H Q _ => ∃ (dk : Addr) (sg : Str) (m : Int), vs = [.ref dk, .str sg, .int m] ∧ H dk = some (Dk.DkO dk) ∧ 0 ≤ m ∧ m ≤ 10 ∧ 1 ≤ sg.length ∧ sg.length ≤ 100 ∧ PyData.strOk sg = true ∧ ∀ w : Str, (w.length : Int) ≤ m → PyData.strOk w = true → Q (.str w) H
theorem ok_law_word {ad : Ad} (T : Txt K mg ad) : FnOk P w K mg base CX0 2 ad.a_law_word ad.d_law_word ["deck", "signs", "most"] (spWord) := by
  refine T.F_law_word.ok sc_law_word (fun vs H Q E h => ?_) (fun cdv A outer s H vs Q E hr h => ?_)
  · obtain ⟨dk, sg, m, rfl, hD, hm0, hm1, hs1, hs2, hso, k⟩ := h
    rfl
  · obtain ⟨dk, sg, m, rfl, hD, hm0, hm1, hs1, hs2, hso, k⟩ := h
    refine ⟨_, (pss_cons (ps_set (i := 3) sc_law_word.nd rfl (Or.inl rfl) pe_str)
      (pss_cons (ps_for PassesOwn.never rfl (pi_range1 rfl T.z_range (pa_cons (pe_call (ok_law_take T) (hr.mono (by decide)) rfl T.m_law_take T.F_law_take.kp T.b_law_take .nil pass0 (pa_cons (pv 0) (pa_cons (pe_op op_add (pv 2) pe_int) pa_nil))) pa_nil)) (pg_name (i := 4) sc_law_word.nd rfl (Or.inl rfl)) (pss_one (ps_set (i := 3) sc_law_word.nd rfl (Or.inl rfl) (pe_op Rd.op_addS (pv 3) (pe_ix ix_str (pv 1) (pe_call (ok_law_take T) (hr.mono (by decide)) rfl T.m_law_take T.F_law_take.kp T.b_law_take .nil pass0 (pa_cons (pv 0) (pa_cons (pe_callB (id := "len") Rd.c_lenS (by rfl) T.z_len (by decide +kernel) (pa_cons (pv 1) pa_nil)) pa_nil))) (fun _ _ => rfl))))))
      (pss_one (ps_ret (pv 3))))), ?_⟩
    try dsimp only [L2.cxOf, L2.Cx.nox, L2.Cx.wish]
    change (_ : TS) _ ([some (.ref dk), some (.str sg), some (.int m), none, none] : St) _
    walk_at "rd"
    intro n n0 n1
    walk_at "rd"
    refine Rd.xfr1 ⟨by omega, by omega⟩ (fun i σ H' => ∃ (w : Str) (v4 : Option V), w.length ≤ i ∧ PyData.strOk w = true ∧ σ = [some (.ref dk), some (.str sg), some (.int m), some (.str w), v4] ∧ H = H')
      ⟨_, _, Nat.le_refl _, by decide +kernel, rfl, rfl⟩ ?_ ?_
    · rintro i σ H' hi ⟨w, v4, hwl, hwo, rfl, rfl⟩
      walk_at "rd"
      refine Rd.lenS (by omega) ?_
      walk_at "rd"
      intro t t0 t1
      have hc : sg.cps.toList[t.toNat]? = some (sg.cps.toList[t.toNat]'(by have : sg.cps.toList.length = sg.length := rfl; omega)) := List.getElem?_eq_getElem _
      generalize sg.cps.toList[t.toNat]'(by have : sg.cps.toList.length = sg.length := rfl; omega) = c at hc
      refine Rd.ixS (by omega) (Rd.atI_i t0 hc) ?_
      have e1 : (⟨#[c]⟩ : Str).length = 1 := rfl
      refine Rd.catS (by omega) ?_
      walk_at "rd"
      exact ⟨w ++ ⟨#[c]⟩, _, by rw [len_app]; omega, ok_app hwo (ok_one hso hc), rfl, rfl⟩
    · rintro σ H' ⟨w, v4, hwl, hwo, rfl, rfl⟩
      walk_at "rd"
      exact k w (by omega) hwo
/-- letters, lists of steps and ends in a tuple -/
def PartsAt (K : PySem.W.Frag) (H : Hp) (p : Addr) (L : Str) (R : List (List Step)) (E : List (Option Str)) : Prop := ∃ r e : Addr, SqT K H p [.str L, .ref r, .ref e] ∧ Dp K H (.ref r) (dRows R) ∧ Dp K H (.ref e) (dEnds E)
theorem PartsAt.mono {H H' : Hp} {p : Addr} {L : Str} {R : List (List Step)} {E : List (Option Str)} (h : PartsAt K H p L R E) (e : Evl.Ex H H') : PartsAt K H' p L R E := by
  obtain ⟨r, a, h1, h2, h3⟩ := h
  exact ⟨r, a, Evl.ex_t e h1, Dt.mn h2 e, Dt.mn h3 e⟩
/-- rows and ends under way -/
structure MkM (K : PySem.W.Frag) (G H : Hp) (rl el : Addr) (n S i : Nat) (as : List Addr) (R : List (List Step)) (E : List (Option Str)) : Prop where
  bl : Bld K G H as R
  at_r : H rl = some (.lst (as.map V.ref))
  at_e : H el = some (.lst (E.map eV))
  g_r : ∃ u, G rl = some u
  g_e : ∃ u, G el = some u
  low : ∀ b, H b = none → G b = none
  lr : R.length = i
  le : E.length = i
  wid : ∀ r ∈ R, r.length = n
  tgt : ∀ r ∈ R, ∀ q w, some (q, w) ∈ r → q < S ∧ w.length ≤ 3 ∧ PyData.strOk w = true
  enw : ∀ w, some w ∈ E → w.length ≤ 2 ∧ PyData.strOk w = true
/-- a row under way -/
structure MkR (K : PySem.W.Frag) (G H4 H : Hp) (ro : Addr) (S j : Nat) (vs : List V) (st : List Step) : Prop where
  at_ : H ro = some (.lst vs)
  dp : DpAll K H vs (st.map dS)
  len : st.length = j
  tgt : ∀ q w, some (q, w) ∈ st → q < S ∧ w.length ≤ 3 ∧ PyData.strOk w = true
  kp : ∀ b o, b ≠ ro → H4 b = some o → H b = some o
  low : ∀ b, H b = none → G b = none
theorem noL_all (st : List Step) : ∀ d ∈ st.map dS, Dt.noL d = true := fun d hd => by
  obtain ⟨s, _, rfl⟩ := List.mem_map.mp hd
  exact noL_dS s
theorem Bld.but {G H4 H : Hp} {ro : Addr} {vs0 vs : List V} {as : List Addr} {R : List (List Step)} (b : Bld K G H4 as R) (h4 : H4 ro = some (.lst vs0)) (h : H ro = some (.lst vs)) (g : G ro = none) (ne : ∀ a ∈ as, a ≠ ro) (kp : ∀ b o, b ≠ ro → H4 b = some o → H b = some o) : Bld K G H as R := ⟨b.len, fun k a s h1 h2 => by
  obtain ⟨g, ws, h3, d⟩ := b.rw k a s h1 h2
  refine ⟨g, ws, kp _ _ (ne a (List.mem_of_getElem? h1)) h3, ?_⟩
  have z := Dt.updLA (K := K) (o := .lst vs) h4 _ ws (noL_all s) d
  refine Dt.mnA z fun b o hb => ?_
  by_cases hbr : b = ro
  · rw [hbr, upd_same] at hb; rw [hbr, h]; exact hb
  · rw [upd_ne hbr] at hb; exact kp b o hbr hb⟩
theorem Bld.neq {G H H' : Hp} {ro : Addr} {as : List Addr} {R : List (List Step)} (b : Bld K G H as R) (n : H ro = none) : ∀ a ∈ as, a ≠ ro := fun a ha => by
  obtain ⟨k, hk⟩ := List.getElem?_of_mem ha
  obtain ⟨st, hst⟩ : ∃ st, R[k]? = some st := ⟨_, List.getElem?_eq_getElem (by rw [← b.len]; exact (List.getElem?_eq_some_iff.mp hk).1)⟩
  obtain ⟨_, vs, h, _⟩ := b.rw k a st hk hst
  exact ne_of_none h n
def spMachine (K : PySem.W.Frag) : Sp := fun vs H Q _ => ∃ (dk : Addr) (L sg : Str) (m : Int), vs = [.ref dk, .str L, .str sg, .int m] ∧ H dk = some (Dk.DkO dk) ∧ L.length ≤ 100 ∧ 1 ≤ m ∧ m ≤ 10 ∧ 1 ≤ sg.length ∧ sg.length ≤ 100 ∧ PyData.strOk sg = true ∧
  ∀ p R E H', Evl.Ex H H' → MachOk L.length R E → (∀ r ∈ R, ∀ q w, some (q, w) ∈ r → w.length ≤ 3) → (∀ w, some w ∈ E → w.length ≤ 2) → R.length ≤ m.toNat → PartsAt K H' p L R E → Q (.ref p) H'
theorem ok_law_machine {ad : Ad} (T : Txt K mg ad) : FnOk P w K mg base CX0 3 ad.a_law_machine ad.d_law_machine ["deck", "letters", "signs", "most"] (spMachine K) := by
  refine T.F_law_machine.ok sc_law_machine (fun vs H Q E h => ?_) (fun cdv A outer s H vs Q E hr h => ?_)
  · obtain ⟨dk, L, sg, m, rfl, hD, hL, hm0, hm1, hs1, hs2, hso, k⟩ := h
    rfl
  · obtain ⟨dk, L, sg, m, rfl, hD, hL, hm0, hm1, hs1, hs2, hso, k⟩ := h
    refine ⟨_, (pss_cons (ps_set (i := 4) sc_law_machine.nd rfl (Or.inl rfl) (pe_op op_add pe_int (pe_call (ok_law_take T) (hr.mono (by decide)) rfl T.m_law_take T.F_law_take.kp T.b_law_take .nil pass0 (pa_cons (pv 0) (pa_cons (pv 3) pa_nil)))))
      (pss_cons (ps_set (i := 5) sc_law_machine.nd rfl (Or.inl rfl) (pe_lst pa_nil))
      (pss_cons (ps_set (i := 6) sc_law_machine.nd rfl (Or.inl rfl) (pe_lst pa_nil))
      (pss_cons (ps_for PassesOwn.never rfl (pi_range1 rfl T.z_range (pa_cons (pv 4) pa_nil)) (pg_name (i := 7) sc_law_machine.nd rfl (Or.inl rfl)) (pss_cons (ps_set (i := 8) sc_law_machine.nd rfl (Or.inl rfl) (pe_lst pa_nil))
      (pss_cons (ps_for PassesOwn.never rfl (pi_str (pv 1)) (pg_name (i := 9) sc_law_machine.nd rfl (Or.inl rfl)) (pss_cons (ps_set (i := 10) sc_law_machine.nd rfl (Or.inl rfl) pe_non)
      (Evl.pss_cut (ps_if (pt_cmpR op_gt (pe_call (ok_law_take T) (hr.mono (by decide)) rfl T.m_law_take T.F_law_take.kp T.b_law_take .nil pass0 (pa_cons (pv 0) (pa_cons pe_int pa_nil))) pe_int (nomark _)) (pss_one (ps_set (i := 10) sc_law_machine.nd rfl (Or.inl rfl) (pe_tup (pa_cons (pe_call (ok_law_take T) (hr.mono (by decide)) rfl T.m_law_take T.F_law_take.kp T.b_law_take .nil pass0 (pa_cons (pv 0) (pa_cons (pv 4) pa_nil))) (pa_cons (pe_call (ok_law_word T) (hr.mono (by decide)) rfl T.m_law_word T.F_law_word.kp T.b_law_word .nil pass0 (pa_cons (pv 0) (pa_cons (pv 2) (pa_cons pe_int pa_nil)))) pa_nil))))) pss_nil)
      (pss_one (ps_expr (pe_bm PySem.F.plainAttrs_list PySem.F.slot_list_append PySem.F.type_list_append mt_append (pv 8) (pa_cons (pv 10) pa_nil)))))))
      (pss_cons (ps_expr (pe_bm PySem.F.plainAttrs_list PySem.F.slot_list_append PySem.F.type_list_append mt_append (pv 5) (pa_cons (pv 8) pa_nil)))
      (pss_cons (ps_set (i := 11) sc_law_machine.nd rfl (Or.inl rfl) pe_non)
      (Evl.pss_cut (ps_if (pt_cmpR op_gt (pe_call (ok_law_take T) (hr.mono (by decide)) rfl T.m_law_take T.F_law_take.kp T.b_law_take .nil pass0 (pa_cons (pv 0) (pa_cons pe_int pa_nil))) pe_int (nomark _)) (pss_one (ps_set (i := 11) sc_law_machine.nd rfl (Or.inl rfl) (pe_call (ok_law_word T) (hr.mono (by decide)) rfl T.m_law_word T.F_law_word.kp T.b_law_word .nil pass0 (pa_cons (pv 0) (pa_cons (pv 2) (pa_cons pe_int pa_nil)))))) pss_nil)
      (pss_one (ps_expr (pe_bm PySem.F.plainAttrs_list PySem.F.slot_list_append PySem.F.type_list_append mt_append (pv 6) (pa_cons (pv 11) pa_nil))))))))))
      (pss_one (ps_ret (pe_tup (pa_cons (pv 1) (pa_cons (pv 5) (pa_cons (pv 6) pa_nil)))))))))), ?_⟩
    try dsimp only [L2.cxOf, L2.Cx.nox, L2.Cx.wish]
    change (_ : TS) _ ([some (.ref dk), some (.str L), some (.str sg), some (.int m), none, none, none, none, none, none, none, none] : St) _
    have cl_TextMap := T.cl_TextMap
    have n_TextMap_ends := T.n_TextMap_ends
    have n_TextMap_letters := T.n_TextMap_letters
    have n_TextMap_rows := T.n_TextMap_rows
    walk_at "rd"
    intro s0 s00 s01
    obtain ⟨S, hS⟩ : ∃ S : Nat, (1 + s0 : Int) = (S : Int) := ⟨(1 + s0).toNat, by omega⟩
    have hSm : S ≤ m.toNat := by omega
    have hS1 : 1 ≤ S := by omega
    walk_at "rd"
    rw [hS]
    refine Rd.xlst rfl fun rl H1 n1 e1 hrl => ?_
    walk_at "rd"
    refine Rd.xlst rfl fun el H2 n2 e2 hel => ?_
    have hrl2 := e2 _ _ hrl
    have e02 := e1.trans e2
    have nel0 : H el = none := Evl.fresh_back e1 n2
    clear hS s00 s01
    walk_at "rd"
    refine Rd.xfr1 ⟨by omega, by omega⟩ (fun i σ H' => ∃ (as : List Addr) (R : List (List Step)) (E : List (Option Str)) (v7 v8 v9 v10 v11 : Option V), σ = [some (.ref dk), some (.str L), some (.str sg), some (.int m), some (.int S), some (.ref rl), some (.ref el), v7, v8, v9, v10, v11] ∧
        MkM K H2 H' rl el L.length S i as R E ∧ Evl.Ex H H')
      ⟨[], [], [], _, _, _, _, _, rfl, ⟨.nil, hrl2, hel, ⟨_, hrl2⟩, ⟨_, hel⟩, fun b h => h, rfl, rfl, fun r h => (by cases h), fun r h => (by cases h), fun w h => (by cases h)⟩, e02⟩ ?_ ?_
    · rintro i σ H3 hi ⟨as, R, E, v7, v8, v9, v10, v11, rfl, hM, e3⟩
      have hD3 := e3 _ _ hD
      walk_at "rd"
      refine Rd.xlst rfl fun ro H4 n4 e4 hro => ?_
      have hB4 := hM.bl.ex e4
      have hrl4 := e4 _ _ hM.at_r
      have hel4 := e4 _ _ hM.at_e
      have nr0 : H ro = none := Evl.fresh_back e3 n4
      have nr2 : ro ≠ rl := Ne.symm (ne_of_none hM.at_r n4)
      have nr3 : ro ≠ el := Ne.symm (ne_of_none hM.at_e n4)
      have nr4 := hM.bl.neq (H' := H4) n4
      have g20 := hM.low _ n4
      walk_at "rd"
      refine Rd.xfs (fun j σ H' => ∃ (vs : List V) (st : List Step) (v9 v10 v11 : Option V), σ = [some (.ref dk), some (.str L), some (.str sg), some (.int m), some (.int S), some (.ref rl), some (.ref el), some (.int (i : Int)), some (.ref ro), v9, v10, v11] ∧
          MkR K H2 H4 H' ro S j vs st ∧ Evl.Ex H H')
        ⟨[], [], _, _, _, rfl, ⟨hro, .nil, rfl, fun q w h => (by cases h), fun b o _ h => h, fun b h => hM.low b (Evl.fresh_back e4 h)⟩, e3.trans e4⟩ ?_ ?_
      · rintro j c σ H5 hc ⟨vs, st, v9, v10, v11, rfl, hR, e5⟩
        have hD5 := e5 _ _ hD
        have hj : j < 100 := by
          have : j < L.cps.size := (Array.getElem?_eq_some_iff.mp hc).1
          have : L.cps.size = L.length := rfl
          omega
        walk_at "rd"
        refine ⟨fun σ H' => ∃ (y : V) (s : Step) (v9 : Option V), σ = [some (.ref dk), some (.str L), some (.str sg), some (.int m), some (.int S), some (.ref rl), some (.ref el), some (.int (i : Int)), some (.ref ro), v9, some y, v11] ∧ Evl.Ex H5 H' ∧ Dp K H' y (dS s) ∧ (∀ q w, s = some (q, w) → q < S ∧ w.length ≤ 3 ∧ PyData.strOk w = true), ?_, ?_⟩
        · walk_at "rd"
          intro t t0 t1
          walk_at "rd"
          refine Rd.ifd (fun c0 => ?_) (fun c0 => ?_)
          · walk_at "rd"
            intro u u0 u1
            walk_at "rd"
            refine ⟨dk, sg, 3, rfl, hD5, by decide, by decide, hs1, hs2, hso, fun w hw hwo => ?_⟩
            walk_at "rd"
            refine Rd.xtup rfl fun tp H6 n6 e6 htp => ?_
            walk_at "rd"
            have hu : (u.toNat : Int) = u := Int.toNat_of_nonneg u0
            exact ⟨_, some (u.toNat, w), _, rfl, e6, Dt.ofT htp (.cons (by rw [hu]; exact .int _) (.cons (.str _) .nil)), fun q w' h => by cases h; exact ⟨by omega, by omega, hwo⟩⟩
          · walk_at "rd"
            exact ⟨_, none, _, rfl, Evl.Ex.refl _, .non, fun q w h => by cases h⟩
        · rintro σ H6 ⟨y, s, v9', rfl, e6, hy, hsok⟩
          have hro6 := e6 _ _ hR.at_
          walk_at "rd"
          refine Rd.append hro6 (by rw [itLen hR.dp, hR.len]; omega) ?_
          walk_at "rd"
          refine ⟨vs ++ [y], st ++ [s], _, _, _, rfl, ⟨upd_same, ?_, by rw [List.length_append, hR.len]; rfl, fun q w h => ?_, fun b o hb hbo => (upd_ne hb).trans (e6 _ _ (hR.kp b o hb hbo)), fun b h => ?_⟩, Evl.Ex.mut (e5.trans e6) nr0⟩
          · rw [List.map_append]
            exact Dt.appA (stA_upd hro6 (Dt.mnA hR.dp e6)) (stA_upd (st := [s]) hro6 (Dt.oneA hy))
          · rcases List.mem_append.mp h with h | h
            · exact hR.tgt q w h
            · exact hsok q w (List.mem_singleton.mp h).symm
          · have hb : b ≠ ro := fun z => by rw [z, upd_same] at h; cases h
            rw [upd_ne hb] at h
            exact hR.low b (Evl.fresh_back e6 h)
      · rintro σ H5 ⟨vs, st, v9', v10', v11', rfl, hR, e5⟩
        have hrl5 := hR.kp _ _ (Ne.symm nr2) hrl4
        have hel5 := hR.kp _ _ (Ne.symm nr3) hel4
        have hB5 := hB4.but hro hR.at_ g20 nr4 hR.kp
        obtain ⟨ur, gr⟩ := hM.g_r
        obtain ⟨ue, ge⟩ := hM.g_e
        have nre : rl ≠ el := fun z => by rw [z, n2] at hrl; cases hrl
        have hD5 := e5 _ _ hD
        have hasl := hB5.len
        have hRl := hM.lr
        walk_at "rd"
        refine Rd.append hrl5 (by rw [List.length_map, hasl, hRl]; omega) ?_
        have hB6 := (hB5.snoc g20 hR.at_ hR.dp).upd (o := .lst (as.map V.ref ++ [V.ref ro])) gr hrl5
        have hel6 : (upd H5 rl (.lst (as.map V.ref ++ [V.ref ro]))) el = some (.lst (E.map eV)) := (upd_ne (Ne.symm nre)).trans hel5
        have hrl6 : (upd H5 rl (.lst (as.map V.ref ++ [V.ref ro]))) rl = some (.lst ((as ++ [ro]).map V.ref)) := by rw [List.map_append]; exact upd_same
        have hD6 : (upd H5 rl (.lst (as.map V.ref ++ [V.ref ro]))) dk = some (Dk.DkO dk) := (upd_ne (fun z => by rw [z, n1] at hD; cases hD)).trans hD5
        have low6 : ∀ b, (upd H5 rl (.lst (as.map V.ref ++ [V.ref ro]))) b = none → H2 b = none := fun b h => by
          have hb : b ≠ rl := fun z => by rw [z, upd_same] at h; cases h
          rw [upd_ne hb] at h
          exact hR.low b h
        have e6 : Evl.Ex H (upd H5 rl (.lst (as.map V.ref ++ [V.ref ro]))) := Evl.Ex.mut e5 n1
        have hwid := hR.len
        have hLs : st.length = L.length := hwid.trans rfl
        generalize upd H5 rl (.lst (as.map V.ref ++ [V.ref ro])) = H6 at *
        walk_at "rd"
        refine ⟨fun σ H' => ∃ (o : Option Str), σ = [some (.ref dk), some (.str L), some (.str sg), some (.int m), some (.int S), some (.ref rl), some (.ref el), some (.int (i : Int)), some (.ref ro), v9', v10', some (eV o)] ∧ H6 = H' ∧ (∀ w, o = some w → w.length ≤ 2 ∧ PyData.strOk w = true), ?_, ?_⟩
        · walk_at "rd"
          intro t t0 t1
          walk_at "rd"
          refine Rd.ifd (fun c0 => ?_) (fun c0 => ?_)
          · walk_at "rd"
            refine ⟨dk, sg, 2, rfl, hD6, by decide, by decide, hs1, hs2, hso, fun w hw hwo => ?_⟩
            walk_at "rd"
            exact ⟨some w, rfl, rfl, fun w' h => by cases h; exact ⟨by omega, hwo⟩⟩
          · walk_at "rd"
            exact ⟨none, rfl, rfl, fun w h => by cases h⟩
        · rintro σ H7 ⟨o, rfl, rfl, ho⟩
          walk_at "rd"
          refine Rd.append hel6 (by rw [List.length_map, hM.le]; omega) ?_
          walk_at "rd"
          refine ⟨as ++ [ro], R ++ [st], E ++ [o], _, _, _, _, _, rfl, ⟨hB6.upd ge hel6, (upd_ne nre).trans hrl6, by rw [List.map_append]; exact upd_same, ⟨_, gr⟩, ⟨_, ge⟩, fun b h => ?_, by rw [List.length_append, hRl]; rfl, by rw [List.length_append, hM.le]; rfl, fun r h => ?_, fun r h => ?_, fun w h => ?_⟩, Evl.Ex.mut e6 nel0⟩
          · have hb : b ≠ el := fun z => by rw [z, upd_same] at h; cases h
            rw [upd_ne hb] at h
            exact low6 b h
          · rcases List.mem_append.mp h with h | h
            · exact hM.wid r h
            · cases List.mem_singleton.mp h; exact hLs
          · rcases List.mem_append.mp h with h | h
            · exact hM.tgt r h
            · cases List.mem_singleton.mp h; exact hR.tgt
          · rcases List.mem_append.mp h with h | h
            · exact hM.enw w h
            · exact ho w (List.mem_singleton.mp h).symm
    · rintro σ H3 ⟨as, R, E, v7, v8, v9, v10, v11, rfl, hM, e3⟩
      walk_at "rd"
      refine Rd.xtup rfl fun p H4 np e4 hp => ?_
      have hRl : R.length = S := hM.lr
      have hEl : E.length = S := hM.le
      refine k p R E H4 (e3.trans e4) ⟨by omega, by omega, by omega, hM.wid, fun r hr q w h => ?_, fun w h => ?_⟩ (fun r hr q w h => (hM.tgt r hr q w h).2.1) (fun w h => (hM.enw w h).1) (by omega) ⟨rl, el, SqT.of hp, Dt.mn (hM.bl.dp hM.at_r) e4, Dt.mn (Dt.ofL hM.at_e (endsA E)) e4⟩
      · obtain ⟨a, b, c⟩ := hM.tgt r hr q w h
        exact ⟨by omega, by omega, c⟩
      · obtain ⟨a, b⟩ := hM.enw w h
        exact ⟨by omega, b⟩
def spLWalk (K : PySem.W.Frag) : Sp := fun vs H Q _ => ∃ (p : Addr) (s : Nat) (z L : Str) (R : List (List Step)) (E : List (Option Str)), vs = [.ref p, .int s, .str z] ∧ PartsAt K H p L R E ∧ MachOk L.length R E ∧ s < R.length ∧ z.length ≤ 1000 ∧ ∀ y H', Evl.Ex H H' → Dp K H' y (dS (twalk L R s z)) → Q y H'
theorem ok_law_walk {ad : Ad} (T : Txt K mg ad) : FnOk P w K mg base CX0 1 ad.a_law_walk ad.d_law_walk ["parts", "state", "text"] (spLWalk K) := by
  refine T.F_law_walk.ok sc_law_walk (fun vs H Q E h => ?_) (fun cdv A outer s H vs Q E hr h => ?_)
  · obtain ⟨p, st, z, L, R, E, rfl, ⟨r, e, hp, hr0, he⟩, ok, hs, hz, k⟩ := h
    rfl
  · obtain ⟨p, st, z, L, R, E, rfl, ⟨r, e, hp, hr0, he⟩, ok, hs, hz, k⟩ := h
    refine ⟨_, (pss_cons (ps_asg (pv 0) (pg_tup rfl (pgs_cons (pg_name (i := 3) sc_law_walk.nd rfl (Or.inl rfl)) (pgs_cons (pg_name (i := 4) sc_law_walk.nd rfl (Or.inl rfl)) (pgs_cons (pg_name (i := 5) sc_law_walk.nd rfl (Or.inl rfl)) pgs_nil)))))
      (pss_cons (ps_set (i := 6) sc_law_walk.nd rfl (Or.inl rfl) pe_str)
      (pss_cons (ps_for PassesOwn.never rfl (pi_str (pv 2)) (pg_name (i := 7) sc_law_walk.nd rfl (Or.inl rfl)) (pss_cons (ps_set (i := 8) sc_law_walk.nd rfl (Or.inl rfl) (pe_m1 PySem.F.slot_str_find PySem.F.type_str_find Rd.mt_fd (pv 3) (pv 7)))
      (pss_cons (ps_if (PW.pt (pw_or (pt_cmpR op_lt (pv 8) pe_int (nomark _)) (pw_or1 (pt_cmpR op_isN1 (pe_ix ix_list (pe_ix ix_list (pv 4) (pv 1) (fun _ _ => rfl)) (pv 8) (fun _ _ => rfl)) pe_non (nomark _))))) (pss_one (ps_ret pe_non)) pss_nil)
      (pss_cons (ps_set (i := 6) sc_law_walk.nd rfl (Or.inl rfl) (pe_op Rd.op_addS (pv 6) (pe_ix ix_tup (pe_ix ix_list (pe_ix ix_list (pv 4) (pv 1) (fun _ _ => rfl)) (pv 8) (fun _ _ => rfl)) pe_int (fun _ _ => rfl))))
      (pss_one (ps_set (i := 1) sc_law_walk.nd rfl (Or.inl rfl) (pe_ix ix_tup (pe_ix ix_list (pe_ix ix_list (pv 4) (pv 1) (fun _ _ => rfl)) (pv 8) (fun _ _ => rfl)) pe_int (fun _ _ => rfl))))))))
      (pss_one (ps_ret (pe_tup (pa_cons (pv 1) (pa_cons (pv 6) pa_nil)))))))), ?_⟩
    try dsimp only [L2.cxOf, L2.Cx.nox, L2.Cx.wish]
    change (_ : TS) _ ([some (.ref p), some (.int st), some (.str z), none, none, none, none, none, none] : St) _
    have cl_TextMap := T.cl_TextMap
    have n_TextMap_ends := T.n_TextMap_ends
    have n_TextMap_letters := T.n_TextMap_letters
    have n_TextMap_rows := T.n_TextMap_rows
    obtain ⟨_, xs, e0, hsx, hA⟩ := Dt.inv_l hr0
    cases e0
    walk_at "rd"
    have hzl : z.cps.toList.length = z.length := rfl
    refine Rd.xfs (fun i σ H' => ∃ (q : Nat) (ws : List Str) (v7 v8 : Option V), trun L R st (z.cps.toList.take i) = some (q, ws) ∧ σ = [some (.ref p), some (.int q), some (.str z), some (.str L), some (.ref r), some (.ref e), some (.str (jn ws)), v7, v8] ∧ H = H')
      ⟨st, [], _, _, rfl, rfl, rfl⟩ ?_ ?_
    · rintro i c σ H' hc ⟨q, ws, v7, v8, hrun, rfl, rfl⟩
      obtain ⟨hq, hwl, hwb⟩ := trun_ok ok hs _ _ rfl q ws hrun
      have hc2 : z.cps.toList[i]? = some c := by rw [Array.getElem?_toList]; exact hc
      have hi : i < z.cps.toList.length := (List.getElem?_eq_some_iff.mp hc2).1
      have hstep := trun_step (L := L) (R := R) (s := st) hc2
      rw [hrun] at hstep
      have hnone : tstep L R q c = none → Q .non H := fun hst => by
        have hn : trun L R st (z.cps.toList.take (i + 1)) = none := by rw [hstep]; unfold tnext; rw [Option.bind_some]; dsimp only; rw [hst]; rfl
        refine k _ _ (Evl.Ex.refl _) ?_
        unfold twalk
        rw [trun_take hn]
        exact .non
      rw [List.length_take] at hwl
      walk_at "rd"
      rcases find_le L c with h | ⟨kk, h, hk⟩
      · refine Rd.ifT h ?_
        walk_at "rd"
        exact hnone (tstep_neg h)
      · rw [h]
        walk_at "rd"
        obtain ⟨row, h1, h2⟩ := tstep_at ok hq h hk
        obtain ⟨y, hy, hyd⟩ := itA2 hA h1
        obtain ⟨ya, ys, rfl, hys, hyA⟩ := Dt.inv_l hyd
        obtain ⟨y2, hz2, hzd⟩ := itA2 hyA h2
        refine Rd.ixL hsx (atI_nat hy) ?_
        walk_at "rd"
        refine Rd.ixL hys (atI_nat hz2) ?_
        cases hst : tstep L R q c with
        | none =>
          rw [hst] at hzd
          obtain rfl := dS_none hzd
          walk_at "rd"
          exact hnone hst
        | some pw =>
          obtain ⟨q', w⟩ := pw
          rw [hst] at hzd
          obtain ⟨pa, rfl, hpa⟩ := dS_some hzd
          have hw1 := (tstep_ok ok hq hst).2.1
          have hj := jn_len ws fun w hw => (hwb w hw).1
          walk_at "rd"
          refine Rd.ixL hsx (atI_nat hy) ?_
          walk_at "rd"
          refine Rd.ixL hys (atI_nat hz2) ?_
          walk_at "rd"
          refine ⟨_, _, rfl, rfl, by rw [sizeLine_eq]; omega, ?_⟩
          walk_at "rd"
          refine Rd.ixL hsx (atI_nat hy) ?_
          walk_at "rd"
          refine Rd.ixL hys (atI_nat hz2) ?_
          walk_at "rd"
          refine ⟨q', ws ++ [w], _, _, ?_, by rw [jn_snoc]; rfl, rfl⟩
          rw [hstep]; unfold tnext; rw [Option.bind_some]; dsimp only; rw [hst]; rfl
    · rintro σ H' ⟨q, ws, v7, v8, hrun, rfl, rfl⟩
      have hrun2 : trun L R st z.cps.toList = some (q, ws) := by
        rw [← hrun, List.take_of_length_le (show z.cps.toList.length ≤ z.cps.size from Nat.le_refl _)]
      walk_at "rd"
      refine Rd.xtup rfl fun p2 H3 n3 e3 hp3 => ?_
      refine k _ _ e3 ?_
      unfold twalk
      rw [hrun2]
      exact Dt.ofT hp3 (.cons (.int _) (.cons (.str _) .nil))
def spLImg (K : PySem.W.Frag) : Sp := fun vs H Q _ => ∃ (p : Addr) (z L : Str) (R : List (List Step)) (E : List (Option Str)), vs = [.ref p, .str z] ∧ PartsAt K H p L R E ∧ MachOk L.length R E ∧ z.length ≤ 1000 ∧ ∀ H', Evl.Ex H H' → Q (eV (timg L R E z)) H'
theorem ok_law_text_image {ad : Ad} (T : Txt K mg ad) : FnOk P w K mg base CX0 2 ad.a_law_text_image ad.d_law_text_image ["parts", "text"] (spLImg K) := by
  refine T.F_law_text_image.ok sc_law_text_image (fun vs H Q E h => ?_) (fun cdv A outer s H vs Q E hr h => ?_)
  · obtain ⟨p, z, L, R, E, rfl, hP, ok, hz, k⟩ := h
    rfl
  · obtain ⟨p, z, L, R, E, rfl, hP, ok, hz, k⟩ := h
    refine ⟨_, (pss_cons (ps_set (i := 2) sc_law_text_image.nd rfl (Or.inl rfl) (pe_call (ok_law_walk T) (hr.mono (by decide)) rfl T.m_law_walk T.F_law_walk.kp T.b_law_walk .nil pass0 (pa_cons (pv 0) (pa_cons pe_int (pa_cons (pv 1) pa_nil)))))
      (pss_cons (ps_if (PW.pt (pw_or (pt_cmpR op_isN1 (pv 2) pe_non (nomark _)) (pw_or1 (pt_cmpR op_isN1 (pe_ix ix_list (pe_ix ix_tup (pv 0) pe_int (fun _ _ => rfl)) (pe_ix ix_tup (pv 2) pe_int (fun _ _ => rfl)) (fun _ _ => rfl)) pe_non (nomark _))))) (pss_one (ps_ret pe_non)) pss_nil)
      (pss_one (ps_ret (pe_op Rd.op_addS (pe_ix ix_tup (pv 2) pe_int (fun _ _ => rfl)) (pe_ix ix_list (pe_ix ix_tup (pv 0) pe_int (fun _ _ => rfl)) (pe_ix ix_tup (pv 2) pe_int (fun _ _ => rfl)) (fun _ _ => rfl))))))), ?_⟩
    try dsimp only [L2.cxOf, L2.Cx.nox, L2.Cx.wish]
    change (_ : TS) _ ([some (.ref p), some (.str z), none] : St) _
    walk_at "rd"
    refine ⟨p, 0, z, L, R, E, rfl, hP, ok, ok.pos, hz, fun y H1 e1 hy => ?_⟩
    obtain ⟨r, e, hp, hr0, he⟩ := hP.mono e1
    obtain ⟨_, es, e0, hes, hEA⟩ := Dt.inv_l he
    cases e0
    cases hst : twalk L R 0 z with
    | none =>
      rw [hst] at hy
      obtain rfl := dS_none hy
      walk_at "rd"
      have e0 : timg L R E z = none := by unfold timg; rw [hst]; rfl
      rw [e0] at k
      exact k _ e1
    | some pw =>
      obtain ⟨q, w⟩ := pw
      rw [hst] at hy
      obtain ⟨pa, rfl, hpa⟩ := dS_some hy
      obtain ⟨hq, hwl, hwo⟩ := twalk_ok ok ok.pos hst
      have hqe : E[q]? = some (E[q]'(by rw [ok.ends]; exact hq)) := List.getElem?_eq_getElem _
      obtain ⟨y2, hy2, hyd2⟩ := itA2 hEA hqe
      have hyv := dE_inv hyd2
      subst hyv
      have e0 : timg L R E z = (E[q]'(by rw [ok.ends]; exact hq)).map fun w2 => w ++ w2 := by
        unfold timg; rw [hst, Option.bind_some]; dsimp only; rw [List.getD_eq_getElem?_getD, hqe]; rfl
      rw [e0] at k
      cases ho : (E[q]'(by rw [ok.ends]; exact hq)) with
      | none =>
        rw [ho] at k hy2
        change _ = some V.non at hy2
        walk_at "rd"
        refine Rd.ixL hes (atI_nat hy2) ?_
        walk_at "rd"
        exact k _ e1
      | some w2 =>
        rw [ho] at k hy2
        change _ = some (V.str w2) at hy2
        have h2 := (ok.enw w2 (by rw [← ho]; exact List.getElem_mem _)).1
        walk_at "rd"
        refine Rd.ixL hes (atI_nat hy2) ?_
        walk_at "rd"
        refine Rd.ixL hes (atI_nat hy2) ?_
        walk_at "rd"
        refine ⟨w, w2, rfl, rfl, ?_, k _ e1⟩
        rw [sizeLine_eq]
        have : 1000 * z.length ≤ 1000000 := by omega
        omega
def spTSame : Sp := fun vs H Q _ => ∃ o : Option Str, vs = [eV o, eV o] ∧ Q (.bl true) H
theorem ok_law_same {ad : Ad} (T : Txt K mg ad) : FnOk P w K mg base CX0 1 ad.a_law_same ad.d_law_same ["actual", "expected"] (spTSame) := by
  refine T.F_law_same.ok sc_law_same (fun vs H Q E h => ?_) (fun cdv A outer s H vs Q E hr h => ?_)
  · obtain ⟨o, rfl, k⟩ := h
    rfl
  · obtain ⟨o, rfl, k⟩ := h
    refine ⟨_, (pss_cons (ps_if (pt_cmpR op_isN1 (pv 1) pe_non (nomark _)) (pss_one (ps_ret (pe_cmpR op_isN1 (pv 0) pe_non (nomark _)))) pss_nil)
      (pss_one (ps_ret (pe_and (pe_callB (id := "isinstance") call_isi (by rfl) T.z_isinstance (by decide +kernel) (pa_cons (pv 0) (pa_cons (pe_bltn rfl T.z_str (by decide +kernel) (v := .ty "str") rfl) pa_nil))) (pe_one (pe_cmpR op_eq (pv 0) (pv 1) (nomark _))))))), ?_⟩
    try dsimp only [L2.cxOf, L2.Cx.nox, L2.Cx.wish]
    change (_ : TS) _ ([some (eV o), some (eV o)] : St) _
    cases o with
    | none =>
      change Q (.bl true) H at k
      rw [show eV none = V.non from rfl]
      walk_at "rd"
      exact k
    | some w =>
      rw [show eV (some w) = V.str w from rfl]
      walk_at "rd"
      rw [decide_eq_true (rfl : w = w)]
      exact k

/-! split -/
theorem given_at {n : Nat} {f : Nat → Bool} {v : Nat → V} {k : Nat} {y : V} (h : (Evl.given n f v)[k]? = some y) : ∃ i, i < n ∧ f i = true ∧ y = v i := by
  unfold Evl.given at h
  rw [List.getElem?_map] at h
  obtain ⟨i, hi, e⟩ := Option.map_eq_some_iff.mp h
  have m := List.mem_filter.mp (List.mem_of_getElem? hi)
  exact ⟨i, List.mem_range.mp m.1, m.2, e.symm⟩
theorem given_len (n : Nat) (f : Nat → Bool) (v : Nat → V) : (Evl.given n f v).length ≤ n := by
  unfold Evl.given
  rw [List.length_map]
  exact Nat.le_trans (List.length_filter_le ..) (by rw [List.length_range]; exact Nat.le_refl _)
def spLed (K : PySem.W.Frag) : Sp := fun vs H Q _ => ∃ (dk p : Addr) (s : Nat) (n : Int) (L : Str) (R : List (List Step)) (E : List (Option Str)), vs = [.ref dk, .ref p, .int s, .int n] ∧ H dk = some (Dk.DkO dk) ∧ PartsAt K H p L R E ∧ MachOk L.length R E ∧ s < R.length ∧ L.length ≤ 100 ∧ 0 ≤ n ∧ n ≤ 40 ∧ ∀ (z : Str) H', Evl.Ex H H' → (z.length : Int) ≤ n → Q (.str z) H'
theorem ok_law_led {ad : Ad} (T : Txt K mg ad) : FnOk P w K mg base CX0 2 ad.a_law_led ad.d_law_led ["deck", "parts", "state", "size"] (spLed K) := by
  refine T.F_law_led.ok sc_law_led (fun vs H Q E h => ?_) (fun cdv A outer s H vs Q E hr h => ?_)
  · obtain ⟨dk, p, st, n, L, R, E, rfl, hD, hP, ok, hs, hL, hn0, hn1, k⟩ := h
    rfl
  · obtain ⟨dk, p, st, n, L, R, E, rfl, hD, hP, ok, hs, hL, hn0, hn1, k⟩ := h
    refine ⟨_, (pss_cons (ps_asg (pv 1) (pg_tup rfl (pgs_cons (pg_name (i := 4) sc_law_led.nd rfl (Or.inl rfl)) (pgs_cons (pg_name (i := 5) sc_law_led.nd rfl (Or.inr rfl)) (pgs_cons (pg_name (i := 6) sc_law_led.nd rfl (Or.inl rfl)) pgs_nil)))))
      (pss_cons (ps_set (i := 7) sc_law_led.nd rfl (Or.inl rfl) pe_str)
      (pss_cons (ps_for PassesOwn.never rfl (pi_range1 rfl T.z_range (pa_cons (pv 3) pa_nil)) (pg_name (i := 8) sc_law_led.nd rfl (Or.inl rfl)) (pss_cons (ps_setLc (i := 9) (own := [("at", 10)]) (g := gName 10) rfl sc_law_led.nd rfl rfl (sw_true rfl rfl rfl (by decide +kernel)) (pi_range1 rfl T.z_range (pa_cons (pe_callB (id := "len") Rd.c_lenS (by rfl) T.z_len (by decide +kernel) (pa_cons (pv 4) pa_nil)) pa_nil)) (blkOk_by (N := ["deck", "parts", "state", "size", "letters", "rows", "ends", "text", "k", "open_ones", "at"]) (sc := defScope s_law_led) (by decide +kernel)) (fun _ _ _ _ _ => (pg_name (i := 10) sc_law_led.nd rfl (Or.inl rfl))) (fun _ _ _ _ _ => (pts_one (pt_cmpR op_notN1 (pe_ix (ix_list : IxR _ (rIxL K)) (pe_ix (ix_list : IxR _ (rIxL K)) (pv 5) (pv 2) (fun _ _ => rfl)) (pv 10) (fun _ _ => rfl)) pe_non (nomark _)))) (fun _ _ _ _ _ => (pv 10)))
      (pss_one (ps_if (pt_cmpR op_gt (pe_callB (id := "len") Rd.c_len (by rfl) T.z_len (by decide +kernel) (pa_cons (pv 9) pa_nil)) pe_int (nomark _)) (pss_cons (ps_set (i := 10) sc_law_led.nd rfl (Or.inl rfl) (pe_ix ix_list (pv 9) (pe_call (ok_law_take T) (hr.mono (by decide)) rfl T.m_law_take T.F_law_take.kp T.b_law_take .nil pass0 (pa_cons (pv 0) (pa_cons (pe_callB (id := "len") Rd.c_len (by rfl) T.z_len (by decide +kernel) (pa_cons (pv 9) pa_nil)) pa_nil))) (fun _ _ => rfl)))
      (pss_cons (ps_set (i := 7) sc_law_led.nd rfl (Or.inl rfl) (pe_op Rd.op_addS (pv 7) (pe_ix ix_str (pv 4) (pv 10) (fun _ _ => rfl))))
      (pss_one (ps_set (i := 2) sc_law_led.nd rfl (Or.inr rfl) (pe_ix ix_tup (pe_ix ix_list (pe_ix ix_list (pv 5) (pv 2) (fun _ _ => rfl)) (pv 10) (fun _ _ => rfl)) pe_int (fun _ _ => rfl)))))) pss_nil))))
      (pss_one (ps_ret (pv 7)))))), ?_⟩
    try dsimp only [L2.cxOf, L2.Cx.nox, L2.Cx.wish]
    change (_ : TS) _ ([some (.ref dk), some (.ref p), some (.int st), some (.int n), none, none, none, none, none, none, none] : St) _
    have hP0 := hP
    obtain ⟨r, e, hp, hr0, he⟩ := hP0
    walk_at "rd"
    refine Rd.xfr1 ⟨by omega, by omega⟩ (fun i σ H' => ∃ (q : Nat) (z : Str) (v8 v9 v10 : Option V), q < R.length ∧ z.length ≤ i ∧ σ = [some (.ref dk), some (.ref p), some (.int q), some (.int n), some (.str L), some (.ref r), some (.ref e), some (.str z), v8, v9, v10] ∧ Evl.Ex H H')
      ⟨st, _, _, _, _, hs, Nat.le_refl _, rfl, Evl.Ex.refl _⟩ ?_ ?_
    · rintro i σ H1 hi ⟨q, z, v8, v9, v10, hq, hz, rfl, e1⟩
      have hD1 := e1 _ _ hD
      obtain ⟨_, xs, e0, hsx, hA⟩ := Dt.inv_l (Dt.mn hr0 e1)
      cases e0
      have hrq : R[q]? = some (R[q]'hq) := List.getElem?_eq_getElem _
      have hw := ok.wid _ (List.getElem_mem hq)
      have htg := ok.tgt _ (List.getElem_mem hq)
      generalize R[q]'hq = row at hrq hw htg
      obtain ⟨y, hy, hyd⟩ := itA2 hA hrq
      obtain ⟨ya, ys, rfl, hys, hyA⟩ := Dt.inv_l hyd
      walk_at "rd"
      refine Rd.lenS (by omega) ?_
      walk_at "rd"
      refine Rd.xlcR (fun j => (row.getD j none).isSome) (fun j => .int (j : Int)) ⟨by omega, by omega⟩ (fun _ => rfl) ?_ ?_ fun po H2 n2 e2 hpo => ?_
      · intro j Hc ec hj H3 e3 Q4 q4
        have hrj : row[j]? = some (row[j]'(by omega)) := List.getElem?_eq_getElem _
        have hgd : row.getD j none = row[j]'(by omega) := by rw [List.getD_eq_getElem?_getD, hrj]; rfl
        rw [hgd] at q4
        generalize row[j]'(by omega) = sp at hrj q4
        obtain ⟨y2, hz2, hzd⟩ := itA2 hyA hrj
        have e13 := ec.trans e3
        walk_at "rd"
        refine Rd.ixL (Evl.ex_l e13 hsx) (atI_nat hy) ?_
        walk_at "rd"
        refine Rd.ixL (Evl.ex_l e13 hys) (atI_nat hz2) ?_
        cases sp with
        | none =>
          obtain rfl := dS_none hzd
          walk_at "rd"
          exact q4 _ (Evl.Ex.refl _)
        | some pw =>
          obtain ⟨pa, rfl, _⟩ := dS_some hzd
          walk_at "rd"
          exact q4 _ (Evl.Ex.refl _)
      · intro j Hc ec hj _ H3 e3 Q4 q4
        walk_at "rd"
        exact q4 _ (Evl.Ex.refl _)
      have hgl := given_len (Int.toNat L.length) (fun j => (row.getD j none).isSome) (fun j => V.int (j : Int))
      have hga : ∀ {k : Nat} {y : V}, (Evl.given (Int.toNat L.length) (fun j => (row.getD j none).isSome) (fun j => V.int (j : Int)))[k]? = some y → ∃ j, j < L.length ∧ (row.getD j none).isSome = true ∧ y = .int (j : Int) := fun h => by
        obtain ⟨j, a, b, c⟩ := given_at h
        exact ⟨j, by omega, b, c⟩
      generalize Evl.given (Int.toNat L.length) (fun j => (row.getD j none).isSome) (fun j => V.int (j : Int)) = gs at *
      have hD2 := e2 _ _ hD1
      walk_at "rd"
      refine Rd.ifd (fun c0 => ?_) (fun c0 => ?_)
      · walk_at "rd"
        intro t t0 t1
        have hgt : gs[t.toNat]? = some (gs[t.toNat]'(by omega)) := List.getElem?_eq_getElem _
        obtain ⟨j, hj, hjs, hjv⟩ := hga hgt
        rw [hjv] at hgt
        refine Rd.ixL (SqL.of hpo) (Rd.atI_i t0 hgt) ?_
        have hrj : row[j]? = some (row[j]'(by omega)) := List.getElem?_eq_getElem _
        have hgd : row.getD j none = row[j]'(by omega) := by rw [List.getD_eq_getElem?_getD, hrj]; rfl
        rw [hgd] at hjs
        generalize row[j]'(by omega) = sp at hrj hjs
        obtain ⟨y2, hz2, hzd⟩ := itA2 hyA hrj
        cases sp with
        | none => cases hjs
        | some pw =>
          obtain ⟨q', w⟩ := pw
          obtain ⟨pa, rfl, hpa⟩ := dS_some hzd
          have hq' := (htg q' w (List.mem_of_getElem? hrj)).1
          have hc : L.cps.toList[j]? = some (L.cps.toList[j]'(by have : L.cps.toList.length = L.length := rfl; omega)) := List.getElem?_eq_getElem _
          generalize L.cps.toList[j]'(by have : L.cps.toList.length = L.length := rfl; omega) = c at hc
          have hpa2 := Evl.ex_t e2 hpa
          walk_at "rd"
          refine Rd.ixS (by omega) (atI_nat hc) ?_
          have e10 : (⟨#[c]⟩ : Str).length = 1 := rfl
          refine Rd.catS (by omega) ?_
          walk_at "rd"
          refine Rd.ixL (Evl.ex_l e2 hsx) (atI_nat hy) ?_
          walk_at "rd"
          refine Rd.ixL (Evl.ex_l e2 hys) (atI_nat hz2) ?_
          walk_at "rd"
          exact ⟨q', z ++ ⟨#[c]⟩, _, _, _, hq', by rw [len_app]; omega, rfl, e1.trans e2⟩
      · walk_at "rd"
        exact ⟨q, z, _, _, _, hq, by omega, rfl, e1.trans e2⟩
    · rintro σ H1 ⟨q, z, v8, v9, v10, hq, hz, rfl, e1⟩
      walk_at "rd"
      exact k z _ e1 (by omega)
/-! split -/
theorem size_at {k : Int} (h0 : 0 ≤ k) (h1 : k < 7) : ∃ w : Int, atI [V.int 0, .int 1, .int 2, .int 3, .int 5, .int 9, .int 40] k = some (.int w) ∧ 0 ≤ w ∧ w ≤ 40 := by
  rcases (by omega : k = 0 ∨ k = 1 ∨ k = 2 ∨ k = 3 ∨ k = 4 ∨ k = 5 ∨ k = 6) with rfl | rfl | rfl | rfl | rfl | rfl | rfl <;> exact ⟨_, rfl, by decide, by decide⟩
theorem sg_at {s : Str} {k : Int} (h0 : 0 ≤ k) (h1 : k < s.length) : ∃ c, atI s.cps.toList k = some c := by
  have hc : s.cps.toList[k.toNat]? = some (s.cps.toList[k.toNat]'(by have : s.cps.toList.length = s.length := rfl; omega)) := List.getElem?_eq_getElem _
  exact ⟨_, Rd.atI_i h0 hc⟩
theorem ones_of {H : Hp} : ∀ (vs : List V) (ds : List PyData), DpAll K H vs ds → (∀ (i : Nat) d, ds[i]? = some d → ∃ c, d = .str ⟨#[c]⟩) → ∃ zs : List Str, vs = zs.map V.str ∧ (∀ z ∈ zs, z.length ≤ 1) ∧ zs.length = ds.length
  | _, [], h, _ => by
    cases h
    exact ⟨[], rfl, fun z h => (by cases h), rfl⟩
  | _, d :: ds, h, f => by
    cases h with
    | cons h1 h2 =>
      obtain ⟨c, rfl⟩ := f 0 d rfl
      obtain ⟨zs, rfl, g, l⟩ := ones_of _ ds h2 fun i d hd => f (i + 1) d hd
      cases h1
      refine ⟨⟨#[c]⟩ :: zs, rfl, fun z hz => ?_, by rw [List.length_cons, List.length_cons, l]⟩
      rcases List.mem_cons.mp hz with rfl | hz
      · exact Nat.le_refl _
      · exact g z hz
theorem sum_ones : ∀ zs : List Str, (∀ z ∈ zs, z.length ≤ 1) → (zs.map (·.length)).sum ≤ zs.length
  | [], _ => Nat.le_refl _
  | z :: zs, h => by
    have a := h z List.mem_cons_self
    have b := sum_ones zs fun x hx => h x (List.mem_cons_of_mem _ hx)
    simp only [List.map_cons, List.sum_cons, List.length_cons]
    omega
def spText (K : PySem.W.Frag) : Sp := fun vs H Q _ => ∃ (dk p : Addr) (L : Str) (R : List (List Step)) (E : List (Option Str)), vs = [.ref dk, .ref p] ∧ H dk = some (Dk.DkO dk) ∧ PartsAt K H p L R E ∧ MachOk L.length R E ∧ L.length ≤ 100 ∧ ∀ (z : Str) H', Evl.Ex H H' → z.length ≤ 1000 → Q (.str z) H'
theorem ok_law_text {ad : Ad} (T : Txt K mg ad) : FnOk P w K mg base CX0 3 ad.a_law_text ad.d_law_text ["deck", "parts"] (spText K) := by
  refine T.F_law_text.ok sc_law_text (fun vs H Q E h => ?_) (fun cdv A outer s H vs Q E hr h => ?_)
  · obtain ⟨dk, p, L, R, E, rfl, hD, hP, ok, hL, k⟩ := h
    rfl
  · obtain ⟨dk, p, L, R, E, rfl, hD, hP, ok, hL, k⟩ := h
    refine ⟨_, (pss_cons (ps_set (i := 2) sc_law_text.nd rfl (Or.inl rfl) (pe_ix ix_list (pe_lst (pa_cons pe_int (pa_cons pe_int (pa_cons pe_int (pa_cons pe_int (pa_cons pe_int (pa_cons pe_int (pa_cons pe_int pa_nil)))))))) (pe_call (ok_law_take T) (hr.mono (by decide)) rfl T.m_law_take T.F_law_take.kp T.b_law_take .nil pass0 (pa_cons (pv 0) (pa_cons pe_int pa_nil))) (fun _ _ => rfl)))
      (pss_cons (ps_if (pt_cmpR op_eq (pe_call (ok_law_take T) (hr.mono (by decide)) rfl T.m_law_take T.F_law_take.kp T.b_law_take .nil pass0 (pa_cons (pv 0) (pa_cons pe_int pa_nil))) pe_int (nomark _)) (pss_one (ps_ret (pe_m1 PySem.F.slot_str_join PySem.F.type_str_join Rd.mt_jn pe_str (pe_lc (own := [("k", 3)]) (g := gName 3) (tt := tYes) rfl sc_law_text.nd (pi_range1 rfl T.z_range (pa_cons (pe_callB (id := "min") (Rd.c_min2 rfl) (by rfl) T.z_min (by decide +kernel) (pa_cons (pv 2) (pa_cons pe_int pa_nil))) pa_nil)) (blkOk_by (N := ["deck", "parts", "size", "k", "text", "at"]) (sc := defScope s_law_text) (by decide +kernel)) (fun _ _ _ _ _ => (pg_name (i := 3) sc_law_text.nd rfl (Or.inl rfl))) (fun _ _ _ _ _ => pts_nil) (fun _ _ _ _ _ => (pe_ix ix_str pe_str (pe_call (ok_law_take T) (hr.mono (by decide)) rfl T.m_law_take T.F_law_take.kp T.b_law_take .nil pass0 (pa_cons (pv 0) (pa_cons pe_int pa_nil))) (fun _ _ => rfl))))))) pss_nil)
      (pss_cons (ps_set (i := 4) sc_law_text.nd rfl (Or.inl rfl) (pe_call (ok_law_led T) (hr.mono (by decide)) rfl T.m_law_led T.F_law_led.kp T.b_law_led .nil pass0 (pa_cons (pv 0) (pa_cons (pv 1) (pa_cons pe_int (pa_cons (pv 2) pa_nil))))))
      (Evl.pss_cut (ps_if (pt_cmpR op_eq (pe_call (ok_law_take T) (hr.mono (by decide)) rfl T.m_law_take T.F_law_take.kp T.b_law_take .nil pass0 (pa_cons (pv 0) (pa_cons pe_int pa_nil))) pe_int (nomark _)) (pss_cons (ps_set (i := 5) sc_law_text.nd rfl (Or.inl rfl) (pe_call (ok_law_take T) (hr.mono (by decide)) rfl T.m_law_take T.F_law_take.kp T.b_law_take .nil pass0 (pa_cons (pv 0) (pa_cons (pe_op op_add (pe_callB (id := "len") Rd.c_lenS (by rfl) T.z_len (by decide +kernel) (pa_cons (pv 4) pa_nil)) pe_int) pa_nil))))
      (pss_one (ps_set (i := 4) sc_law_text.nd rfl (Or.inl rfl) (pe_op Rd.op_addS (pe_op Rd.op_addS (pe_slice C8.sl_txt (pv 4) po_none (po_some (pv 5))) (pe_ix ix_str pe_str (pe_call (ok_law_take T) (hr.mono (by decide)) rfl T.m_law_take T.F_law_take.kp T.b_law_take .nil pass0 (pa_cons (pv 0) (pa_cons pe_int pa_nil))) (fun _ _ => rfl))) (pe_slice C8.sl_txt (pv 4) (po_some (pv 5)) po_none))))) pss_nil)
      (pss_one (ps_ret (pv 4))))))), ?_⟩
    try dsimp only [L2.cxOf, L2.Cx.nox, L2.Cx.wish]
    change (_ : TS) _ ([some (.ref dk), some (.ref p), none, none, none, none] : St) _
    have cl_TextMap := T.cl_TextMap
    have n_TextMap_ends := T.n_TextMap_ends
    have n_TextMap_letters := T.n_TextMap_letters
    have n_TextMap_rows := T.n_TextMap_rows
    walk_at "rd"
    refine Rd.xlst rfl fun ls H1 n1 e1 hls => ?_
    have hD1 := e1 _ _ hD
    walk_at "rd"
    intro t t0 t1
    obtain ⟨size, hat, hz0, hz1⟩ := size_at t0 t1
    refine Rd.ixL (SqL.of hls) hat ?_
    walk_at "rd"
    intro u u0 u1
    walk_at "rd"
    refine Rd.ifd (fun c0 => ?_) (fun c0 => ?_)
    · walk_at "rd"
      generalize hm : (if (9 : Int) < size then 9 else size) = m
      have hm0 : 0 ≤ m ∧ m ≤ 9 := by split at hm <;> omega
      refine Rd.xlcGR (K := K) (fun _ d => ∃ c, d = .str ⟨#[c]⟩) ⟨by omega, by omega⟩ (fun _ => rfl) ?_ ?_
      · intro j D G H' acc hj hDn eG eH gD hacc Q' q
        have hD3 := eH _ _ (eG _ _ hD1)
        walk_at "rd"
        intro t2 t20 t21
        obtain ⟨c, hc⟩ := sg_at (s := "ab Z0~x") t20 t21
        refine Rd.ixS (by decide) hc ?_
        exact q _ _ G _ (Evl.Ex.refl _) eH gD (Evl.Ex.refl _) (.str _) ⟨c, rfl⟩
      · intro f G' H' ys ds nf e2 e3 gf hf hd hdl hdR
        obtain ⟨zs, rfl, hz, hzl⟩ := ones_of _ _ (Dt.mnA hd e3) hdR
        have hsum := sum_ones zs hz
        refine Rd.join (SqL.of hf) (by have : (Str.ofString "").length = 0 := rfl; rw [this]; omega) ?_
        walk_at "rd"
        have ej : Txt.join (Str.ofString "") zs = jn zs := join_jn zs
        rw [ej]
        have hj := jn_len zs hz
        exact k _ _ (e1.trans (e2.trans e3)) (by omega)
    · walk_at "rd"
      refine ⟨dk, p, 0, size, L, R, E, rfl, hD1, hP.mono e1, ok, ok.pos, hL, hz0, hz1, fun z H2 e2 hz => ?_⟩
      have hD2 := e2 _ _ hD1
      have e02 := e1.trans e2
      walk_at "rd"
      refine ⟨fun σ H' => ∃ (z : Str) (v4 : Option V), σ = [some (.ref dk), some (.ref p), some (.int size), none, some (.str z), v4] ∧ H2 = H' ∧ z.length ≤ 1000, ?_, ?_⟩
      · walk_at "rd"
        intro t2 t20 t21
        walk_at "rd"
        refine Rd.ifd (fun c1 => ?_) (fun c1 => ?_)
        · walk_at "rd"
          refine Rd.lenS (by omega) ?_
          walk_at "rd"
          intro a a0 a1
          walk_at "rd"
          refine Rd.slX (by omega) ?_
          walk_at "rd"
          intro b b0 b1
          obtain ⟨c, hc⟩ := sg_at (s := "xab Z0~") b0 b1
          refine Rd.ixS (by decide) hc ?_
          have hsl := PySem.Txt.slice_le z none (some a)
          have hsl2 := PySem.Txt.slice_le z (some a) none
          have e10 : (⟨#[c]⟩ : Str).length = 1 := rfl
          refine Rd.catS (by omega) ?_
          walk_at "rd"
          refine Rd.slX (by omega) ?_
          refine Rd.catS (by rw [len_app]; omega) ?_
          walk_at "rd"
          exact ⟨_, _, rfl, rfl, by rw [len_app, len_app]; omega⟩
        · walk_at "rd"
          exact ⟨_, _, rfl, rfl, by omega⟩
      · rintro σ H' ⟨z2, v4, rfl, rfl, hz2⟩
        walk_at "rd"
        exact k _ _ e02 hz2
def spWalks (C : Addr) (K : PySem.W.Frag) : Sp := fun vs H Q _ => ∃ (x p : Addr) (z L : Str) (R : List (List Step)) (E : List (Option Str)), vs = [.ref x, .ref p, .str z] ∧ TMap K C H x L R E ∧ PartsAt K H p L R E ∧ MachOk L.length R E ∧ z.length ≤ 1000 ∧ ∀ H', Evl.Ex H H' → Q (.bl true) H'
theorem ok_law_walks_right {ad : Ad} (T : Txt K mg ad) : FnOk P w K mg base CX0 3 ad.a_law_walks_right ad.d_law_walks_right ["made", "parts", "text"] (spWalks ad.c_TextMap K) := by
  refine T.F_law_walks_right.ok sc_law_walks_right (fun vs H Q E h => ?_) (fun cdv A outer s H vs Q E hr h => ?_)
  · obtain ⟨x, p, z, L, R, E, rfl, hT, hP, ok, hz, k⟩ := h
    rfl
  · obtain ⟨x, p, z, L, R, E, rfl, hT, hP, ok, hz, k⟩ := h
    refine ⟨_, (pss_cons (ps_for PassesOwn.never rfl (pi_range1 rfl T.z_range (pa_cons (pe_callB (id := "len") Rd.c_len (by rfl) T.z_len (by decide +kernel) (pa_cons (pe_ix ix_tup (pv 1) pe_int (fun _ _ => rfl)) pa_nil)) pa_nil)) (pg_name (i := 3) sc_law_walks_right.nd rfl (Or.inl rfl)) (pss_cons (ps_set (i := 4) sc_law_walks_right.nd rfl (Or.inl rfl) (pe_meth (pv 0) T.cl_TextMap T.me_TextMap_walk (ok_TextMap_walk T) (hr.mono (by decide)) T.b_TextMap_walk .nil pass0 (pa_cons (pv 3) (pa_cons (pv 2) pa_nil))))
      (pss_cons (ps_set (i := 5) sc_law_walks_right.nd rfl (Or.inl rfl) (pe_call (ok_law_walk T) (hr.mono (by decide)) rfl T.m_law_walk T.F_law_walk.kp T.b_law_walk .nil pass0 (pa_cons (pv 1) (pa_cons (pv 3) (pa_cons (pv 2) pa_nil)))))
      (pss_one (ps_if (pt_cmpR op_isN1 (pv 5) pe_non (nomark _)) (pss_one (ps_if (pt_cmpR op_notN1 (pv 4) pe_non (nomark _)) (pss_one (ps_ret pe_bl)) pss_nil)) (pss_one (ps_if (PW.pt (pw_or (pt_not (pt_val (pe_callB (id := "isinstance") call_isi (by rfl) T.z_isinstance (by decide +kernel) (pa_cons (pv 4) (pa_cons (pe_bltn rfl T.z_tuple (by decide +kernel) (v := .ty "tuple") rfl) pa_nil))))) (pw_or (pt_cmpR op_ne (pe_callB (id := "len") Rd.c_len (by rfl) T.z_len (by decide +kernel) (pa_cons (pv 4) pa_nil)) pe_int (nomark _)) (pw_or1 (pt_val (pe_callB (id := "isinstance") call_isi (by rfl) T.z_isinstance (by decide +kernel) (pa_cons (pe_ix ix_tup (pv 4) pe_int (fun _ _ => rfl)) (pa_cons (pe_bltn rfl T.z_bool (by decide +kernel) (v := .ty "bool") rfl) pa_nil)))))))) (pss_one (ps_ret pe_bl)) (pss_one (ps_if (PW.pt (pw_or (pt_not (pt_val (pe_callB (id := "isinstance") call_isi (by rfl) T.z_isinstance (by decide +kernel) (pa_cons (pe_ix ix_tup (pv 4) pe_int (fun _ _ => rfl)) (pa_cons (pe_bltn rfl T.z_int (by decide +kernel) (v := .ty "int") rfl) pa_nil))))) (pw_or (pt_not (pt_val (pe_callB (id := "isinstance") call_isi (by rfl) T.z_isinstance (by decide +kernel) (pa_cons (pe_ix ix_tup (pv 4) pe_int (fun _ _ => rfl)) (pa_cons (pe_bltn rfl T.z_str (by decide +kernel) (v := .ty "str") rfl) pa_nil))))) (pw_or1 (pt_cmpR (op_neD hr.units) (pv 4) (pv 5) (nomark _)))))) (pss_one (ps_ret pe_bl)) pss_nil)))))))))
      (pss_one (ps_ret pe_bl))), ?_⟩
    try dsimp only [L2.cxOf, L2.Cx.nox, L2.Cx.wish]
    change (_ : TS) _ ([some (.ref x), some (.ref p), some (.str z), none, none, none] : St) _
    have cl_TextMap := T.cl_TextMap
    have n_TextMap_ends := T.n_TextMap_ends
    have n_TextMap_letters := T.n_TextMap_letters
    have n_TextMap_rows := T.n_TextMap_rows
    have hP0 := hP
    obtain ⟨r, e, hp, hr0, he⟩ := hP0
    obtain ⟨_, xs, e0, hsx, hA⟩ := Dt.inv_l hr0
    cases e0
    have hxl := itLen hA
    have hRl := ok.len
    walk_at "rd"
    refine Rd.xfr1 ⟨by omega, by omega⟩ (fun i σ H' => ∃ (v3 v4 v5 : Option V), σ = [some (.ref x), some (.ref p), some (.str z), v3, v4, v5] ∧ Evl.Ex H H')
      ⟨_, _, _, rfl, Evl.Ex.refl _⟩ ?_ ?_
    · rintro i σ H1 hi ⟨v3, v4, v5, rfl, e1⟩
      have hT1 := hT.mono e1
      have hat := hT1
      obtain ⟨dx, ra, ea, hx, _, _⟩ := hat
      walk_at "rd"
      refine ⟨x, i, z, L, R, E, rfl, hT1, ok, by omega, hz, fun y H2 e2 hy => ?_⟩
      walk_at "rd"
      refine ⟨p, i, z, L, R, E, rfl, hP.mono (e1.trans e2), ok, by omega, hz, fun y2 H3 e3 hy2 => ?_⟩
      have hy3 := Dt.mn hy e3
      have e13 := (e1.trans e2).trans e3
      have hsh := shp_dS (st := twalk L R i z) fun q w h => (twalk_ok ok (by omega) h).2.2
      cases hst : twalk L R i z with
      | none =>
        rw [hst] at hy2 hy3
        obtain rfl := dS_none hy2
        obtain rfl := dS_none hy3
        walk_at "rd"
        exact ⟨_, _, _, rfl, e13⟩
      | some pw =>
        obtain ⟨q, w⟩ := pw
        rw [hst] at hy2 hy3 hsh
        obtain ⟨pa, rfl, hpa⟩ := dS_some hy2
        obtain ⟨pb, rfl, hpb⟩ := dS_some hy3
        walk_at "rd"
        refine Rd.neDr hy3 hy2 hsh ?_
        walk_at "rd"
        exact ⟨_, _, _, rfl, e13⟩
    · rintro σ H1 ⟨v3, v4, v5, rfl, e1⟩
      walk_at "rd"
      exact k _ e1
/-! split -/
/-! ### the letters are drawn out of a pool -/
def pools : Nat → List (Str × Str)
  | 0 => [("ab Z0~", ⟨#[]⟩)]
  | n + 1 => (pools n).flatMap fun p => p.1.cps.toList.map fun c => (Txt.replace p.1 ⟨#[c]⟩ ⟨#[]⟩, p.2 ++ ⟨#[c]⟩)
def ltsB (L : Str) : Bool := (List.range L.length).all fun i => Txt.find L ⟨#[L.cps.toList.getD i 0]⟩ == (i : Int)
theorem lts_of {L : Str} (h1 : L.length ≤ 100) (h : ltsB L = true) : Lts L := ⟨h1, fun i c hc => by
  have hi : i < L.length := (List.getElem?_eq_some_iff.mp hc).1
  have h2 := List.all_eq_true.mp h i (List.mem_range.mpr hi)
  rw [List.getD_eq_getElem?_getD, hc] at h2
  exact eq_of_beq h2⟩
theorem pools_ok : ((List.range 5).all fun n => (pools n).all fun p => p.1.length == 6 - n && p.2.length == n && ltsB p.2) = true := by decide +kernel
theorem pools_at {n : Nat} {P L : Str} (hn : n < 5) (h : (P, L) ∈ pools n) : P.length = 6 - n ∧ L.length = n ∧ Lts L := by
  have h1 := List.all_eq_true.mp pools_ok n (List.mem_range.mpr hn)
  have h2 := List.all_eq_true.mp h1 (P, L) h
  simp only [Bool.and_eq_true, beq_iff_eq] at h2
  exact ⟨h2.1.1, h2.1.2, lts_of (by have := h2.1.2; omega) h2.2⟩
theorem pools_next {n c : Nat} {P L : Str} {k : Int} (h : (P, L) ∈ pools n) (hc : atI P.cps.toList k = some c) : (Txt.replace P ⟨#[c]⟩ ⟨#[]⟩, L ++ ⟨#[c]⟩) ∈ pools (n + 1) := by
  obtain ⟨g, _, h2, _, _⟩ := atI_get hc
  exact List.mem_flatMap.mpr ⟨(P, L), h, List.mem_map.mpr ⟨c, List.mem_of_getElem? h2, rfl⟩⟩
theorem TNew.ex {C dx : Addr} {G H H' : Hp} {x ra ea : Addr} {L : Str} {R : List (List Step)} {E : List (Option Str)} {as : List Addr} (h : TNew K G H x C dx L R E ra ea as) (e : Evl.Ex H H') : TNew K G H' x C dx L R E ra ea as where
  at_ := e _ _ h.at_
  rr := e _ _ h.rr
  nr := h.nr
  ee := e _ _ h.ee
  ne := h.ne
  bl := h.bl.ex e
/-- [list(row) for row in rows], rows of steps -/
theorem xlcRows {σ : L2.St} {H : Hp} {Q : VK} {l : Addr} {j : Nat} {vs : List Nat} {R : List (List Step)} (hx : Dp K H (.ref l) (dRows R)) (hz : R.length ≤ 40000) (hw : ∀ x, wipe ((wipe σ vs).set j (some x)) vs = wipe σ vs) (hj : ∀ x, ((wipe σ vs).set j (some x))[j]? = some (some x))
    (q : ∀ (p : Addr) (as : List Addr) (H' : Hp), H p = none → Evl.Ex H H' → H' p = some (.lst (as.map V.ref)) → Bld K H H' as R → (∀ a ∈ as, a ≠ p) → Q (.ref p) H') :
    Rd.xLcL K (gName j) tYes (tCB (Rd.rListOf K) (tCons (tVar j) tNil)) vs σ (.ref l) H Q := by
  obtain ⟨_, xs, e0, hsx, hA⟩ := Dt.inv_l hx
  cases e0
  obtain ⟨vss, hvl, hv⟩ := rows_of R xs hA
  have hxl := itLen hA
  refine xlcCopy (rows := vss) hsx (by omega) (fun i y r h1 h2 => ?_) (by omega) hw hj fun p as H' np e hp has hcp => q p as H' np e hp ⟨by rw [has, hvl], fun kk a st h1 h2 => ?_⟩ ?_
  · obtain ⟨a, st, h3, h4, _⟩ := hv i y r h1 h2
    exact ⟨a, h3, h4⟩
  · have h3 : vss[kk]? = some (vss[kk]'(by have := (List.getElem?_eq_some_iff.mp h2).1; omega)) := List.getElem?_eq_getElem _
    obtain ⟨g1, g2, g3⟩ := hcp kk a _ h1 h3
    have h4 : xs[kk]? = some (xs[kk]'(by have := (List.getElem?_eq_some_iff.mp h2).1; omega)) := List.getElem?_eq_getElem _
    obtain ⟨_, st', _, _, h5, h6⟩ := hv kk _ _ h4 h3
    rw [h2] at h5
    cases h5
    exact ⟨g1, _, g3, Dt.mnA h6 e⟩
  · intro a ha
    obtain ⟨kk, h1⟩ := List.getElem?_of_mem ha
    have h3 : vss[kk]? = some (vss[kk]'(by have := (List.getElem?_eq_some_iff.mp h1).1; omega)) := List.getElem?_eq_getElem _
    exact (hcp kk a _ h1 h3).2.1
theorem strs_of {H : Hp} : ∀ (vs : List V) (ds : List PyData), DpAll K H vs ds → (∀ (i : Nat) d, ds[i]? = some d → ∃ z : Str, d = .str z ∧ z.length ≤ 1000) → ∃ zs : List Str, vs = zs.map V.str ∧ (∀ z ∈ zs, z.length ≤ 1000) ∧ zs.length = ds.length
  | _, [], h, _ => by
    cases h
    exact ⟨[], rfl, fun z h => (by cases h), rfl⟩
  | _, d :: ds, h, f => by
    cases h with
    | cons h1 h2 =>
      obtain ⟨z, rfl, hz⟩ := f 0 d rfl
      obtain ⟨zs, rfl, g, l⟩ := strs_of _ ds h2 fun i d hd => f (i + 1) d hd
      cases h1
      refine ⟨z :: zs, rfl, fun z' hz' => ?_, by rw [List.length_cons, List.length_cons, l]⟩
      rcases List.mem_cons.mp hz' with rfl | hz'
      · exact hz
      · exact g z' hz'
def spLaw (K : PySem.W.Frag) : Sp := fun vs H Q _ => ∃ (a : Addr) (ns : List Int), vs = [.ref a] ∧ SqL K H a (ns.map V.int) ∧ ns.length ≤ 63 ∧ ∀ H', Q (.bl true) H'
theorem ok_law {ad : Ad} (T : Txt K mg ad) : FnOk P w K mg base CX0 4 ad.a_law ad.d_law ["script"] (spLaw K) := by
  refine T.F_law.ok sc_law (fun vs H Q E h => ?_) (fun cdv A outer s H vs Q E hr h => ?_)
  · obtain ⟨a, ns, rfl, hS, hn, k⟩ := h
    rfl
  · obtain ⟨a, ns, rfl, hS, hn, k⟩ := h
    refine ⟨_, (pss_cons (ps_set (i := 1) sc_law.nd rfl (Or.inr rfl) (pe_call (ok_law_deck T) (hr.mono (by decide)) rfl T.m_law_deck T.F_law_deck.kp T.b_law_deck .nil pass0 (pa_cons (pv 0) (pa_cons pe_int (pa_cons pe_int pa_nil)))))
      (pss_cons (ps_set (i := 2) sc_law.nd rfl (Or.inl rfl) pe_str)
      (pss_cons (ps_set (i := 3) sc_law.nd rfl (Or.inl rfl) pe_str)
      (pss_cons (ps_for PassesOwn.never rfl (pi_range1 rfl T.z_range (pa_cons (pe_call (ok_law_take T) (hr.mono (by decide)) rfl T.m_law_take T.F_law_take.kp T.b_law_take .nil pass0 (pa_cons (pv 1) (pa_cons pe_int pa_nil))) pa_nil)) (pg_name (i := 4) sc_law.nd rfl (Or.inl rfl)) (Tk.pss_repl (i := 2) (j := 5) sc_law.nd rfl rfl rfl rfl rfl (Tk.pek_call (ok_law_take T) (hr.mono (by decide)) rfl T.m_law_take T.F_law_take.kp T.b_law_take .nil pass0 (Tk.pak_cons (pv 1) (Tk.pak_one (Tk.pek_len rfl T.z_len (by decide +kernel) (pa_cons (pv 2) pa_nil)))))
      (pss_one (ps_set (i := 3) sc_law.nd rfl (Or.inl rfl) (pe_op Rd.op_addS (pv 3) (pv 5)))) (fun _ _ => rfl) (by decide)))
      (pss_cons (ps_set (i := 6) sc_law.nd rfl (Or.inr rfl) (pe_call (ok_law_machine T) (hr.mono (by decide)) rfl T.m_law_machine T.F_law_machine.kp T.b_law_machine .nil pass0 (pa_cons (pv 1) (pa_cons (pv 3) (pa_cons pe_str (pa_cons pe_int pa_nil))))))
      (pss_cons (ps_setLc (i := 7) (own := [("row", 8)]) (g := gName 8) (tt := tYes) rfl sc_law.nd rfl rfl (sw_true rfl rfl rfl (by decide +kernel)) (pi_list (pe_ix ix_tup (pv 6) pe_int (fun _ _ => rfl))) (blkOk_by (N := ["script", "deck", "pool", "letters", "k", "sign", "parts", "rows", "row", "ends", "made", "texts", "text"]) (sc := defScope s_law) (by decide +kernel)) (fun _ _ _ _ _ => (pg_name (i := 8) sc_law.nd rfl (Or.inl rfl))) (fun _ _ _ _ _ => pts_nil) (fun _ _ _ _ _ => (pe_callTy (T := "list") (Rd.c_list : CallR _ _ (Rd.rListOf K)) (by rfl) T.z_list (by decide +kernel) (pa_cons (pv 8) pa_nil))))
      (pss_cons (ps_set (i := 9) sc_law.nd rfl (Or.inl rfl) (pe_callTy (T := "list") Rd.c_list (by rfl) T.z_list (by decide +kernel) (pa_cons (pe_ix ix_tup (pv 6) pe_int (fun _ _ => rfl)) pa_nil)))
      (pss_cons (ps_set (i := 10) sc_law.nd rfl (Or.inl rfl) (pe_make T.mk_TextMap (ok_TextMap_init_ T) (hr.mono (by decide)) rfl T.mg_TextMap T.b_TextMap_init_ .nil pass0 (pa_cons (pv 3) (pa_cons (pv 7) (pa_cons (pv 9) pa_nil)))))
      (pss_cons (ps_asg pe_str (pg_sub (pv 9) pe_int set_list))
      (pss_cons (ps_expr (pe_bm PySem.F.plainAttrs_list PySem.F.slot_list_append PySem.F.type_list_append mt_append (pv 7) (pa_cons (pe_lst (pa_cons pe_non (pa_cons pe_non pa_nil))) pa_nil)))
      (Evl.pss_cut (ps_if (pt_cmpR op_gt (pe_callB (id := "len") Rd.c_lenS (by rfl) T.z_len (by decide +kernel) (pa_cons (pv 3) pa_nil)) pe_int (nomark _)) (pss_one (ps_asg (pe_tup (pa_cons pe_int (pa_cons pe_str pa_nil))) (pg_sub (pe_ix ix_list (pv 7) pe_int (fun _ _ => rfl)) pe_int set_list))) pss_nil)
      (pss_cons (ps_if (PW.pt (pw_or (pt_cmpR op_ne (pe_fld (pv 10) rfl) (pv 3) (nomark _)) (pw_or (pt_not (pt_val (pe_callB (id := "isinstance") call_isi (by rfl) T.z_isinstance (by decide +kernel) (pa_cons (pe_fld (pv 10) rfl) (pa_cons (pe_bltn rfl T.z_list (by decide +kernel) (v := .ty "list") rfl) pa_nil))))) (pw_or1 (pt_not (pt_val (pe_callB (id := "isinstance") call_isi (by rfl) T.z_isinstance (by decide +kernel) (pa_cons (pe_fld (pv 10) rfl) (pa_cons (pe_bltn rfl T.z_list (by decide +kernel) (v := .ty "list") rfl) pa_nil))))))))) (pss_one (ps_ret pe_bl)) pss_nil)
      (pss_cons (ps_if (PW.pt (pw_or (pt_cmpR (op_neD hr.units) (pe_fld (pv 10) rfl) (pe_ix ix_tup (pv 6) pe_int (fun _ _ => rfl)) (nomark _)) (pw_or1 (pt_cmpR (op_neD hr.units) (pe_lc (own := [("row", 8)]) (g := gName 8) (tt := tYes) rfl sc_law.nd (pi_list (pe_fld (pv 10) rfl)) (blkOk_by (N := ["script", "deck", "pool", "letters", "k", "sign", "parts", "rows", "row", "ends", "made", "texts", "text"]) (sc := defScope s_law) (by decide +kernel)) (fun _ _ _ _ _ => (pg_name (i := 8) sc_law.nd rfl (Or.inl rfl))) (fun _ _ _ _ _ => pts_nil) (fun _ _ _ _ _ => (pe_callTy (T := "list") (Rd.c_list : CallR _ _ (Rd.rListOf K)) (by rfl) T.z_list (by decide +kernel) (pa_cons (pv 8) pa_nil)))) (pe_ix ix_tup (pv 6) pe_int (fun _ _ => rfl)) (nomark _))))) (pss_one (ps_ret pe_bl)) pss_nil)
      (pss_cons (ps_set (i := 11) sc_law.nd rfl (Or.inl rfl) (pe_op op_cat (pe_op op_cat (pe_lst (pa_cons pe_str pa_nil)) (pe_lc (own := [("sign", 5)]) (g := gName 5) (tt := tYes) rfl sc_law.nd (pi_str (pv 3)) (blkOk_by (N := ["script", "deck", "pool", "letters", "k", "sign", "parts", "rows", "row", "ends", "made", "texts", "text"]) (sc := defScope s_law) (by decide +kernel)) (fun _ _ _ _ _ => (pg_name (i := 5) sc_law.nd rfl (Or.inl rfl))) (fun _ _ _ _ _ => pts_nil) (fun _ _ _ _ _ => (pv 5)))) (pe_lc (own := [("k", 4)]) (g := gName 4) (tt := tYes) rfl sc_law.nd (pi_range1 rfl T.z_range (pa_cons pe_int pa_nil)) (blkOk_by (N := ["script", "deck", "pool", "letters", "k", "sign", "parts", "rows", "row", "ends", "made", "texts", "text"]) (sc := defScope s_law) (by decide +kernel)) (fun _ _ _ _ _ => (pg_name (i := 4) sc_law.nd rfl (Or.inl rfl))) (fun _ _ _ _ _ => pts_nil) (fun _ _ _ _ _ => (pe_call (ok_law_text T) (hr.mono (by decide)) rfl T.m_law_text T.F_law_text.kp T.b_law_text .nil pass0 (pa_cons (pv 1) (pa_cons (pv 6) pa_nil)))))))
      (pss_cons (ps_for PassesOwn.never rfl (pi_list (pv 11)) (pg_name (i := 12) sc_law.nd rfl (Or.inl rfl)) (pss_cons (ps_if (pt_not (pt_val (pe_call (ok_law_same T) (hr.mono (by decide)) rfl T.m_law_same T.F_law_same.kp T.b_law_same .nil pass0 (pa_cons (pe_meth (pv 10) T.cl_TextMap T.me_TextMap_image (ok_TextMap_image T) (hr.mono (by decide)) T.b_TextMap_image .nil pass0 (pa_cons (pv 12) pa_nil)) (pa_cons (pe_call (ok_law_text_image T) (hr.mono (by decide)) rfl T.m_law_text_image T.F_law_text_image.kp T.b_law_text_image .nil pass0 (pa_cons (pv 6) (pa_cons (pv 12) pa_nil))) pa_nil))))) (pss_one (ps_ret pe_bl)) pss_nil)
      (pss_one (ps_if (pt_not (pt_val (pe_call (ok_law_walks_right T) (hr.mono (by decide)) rfl T.m_law_walks_right T.F_law_walks_right.kp T.b_law_walks_right .nil pass0 (pa_cons (pv 10) (pa_cons (pv 6) (pa_cons (pv 12) pa_nil)))))) (pss_one (ps_ret pe_bl)) pss_nil))))
      (pss_one (ps_ret (pe_cmpR (op_eqD hr.units) (pe_fld (pv 10) rfl) (pe_ix ix_tup (pv 6) pe_int (fun _ _ => rfl)) (nomark _))))))))))))))))))), ?_⟩
    try dsimp only [L2.cxOf, L2.Cx.nox, L2.Cx.wish]
    change (_ : TS) _ ([some (.ref a), none, none, none, none, none, none, none, none, none, none, none, none] : St) _
    have cl_TextMap := T.cl_TextMap
    have n_TextMap_ends := T.n_TextMap_ends
    have n_TextMap_letters := T.n_TextMap_letters
    have n_TextMap_rows := T.n_TextMap_rows
    walk_at "rd"
    refine ⟨a, ns, 24, 24, rfl, hS, hn, by decide, by decide, by decide, by decide, fun l hl => ?_⟩
    have hD : (upd H l (Dk.DkO l)) l = some (Dk.DkO l) := upd_same
    generalize upd H l (Dk.DkO l) = H0 at *
    walk_at "rd"
    intro n n0 n1
    walk_at "rd"
    refine Rd.xfr1 ⟨by omega, by omega⟩ (fun i σ H' => ∃ (P L : Str) (v4 v5 : Option V), (P, L) ∈ pools i ∧ σ = [some (.ref a), some (.ref l), some (.str P), some (.str L), v4, v5, none, none, none, none, none, none, none] ∧ H0 = H')
      ⟨_, _, _, _, List.mem_singleton.mpr rfl, rfl, rfl⟩ ?_ ?_
    · rintro i σ H' hi ⟨P, L, v4, v5, hp, rfl, rfl⟩
      obtain ⟨hP, hL, hLt⟩ := pools_at (by omega) hp
      refine Tk.repl rfl (by omega) ?_
      walk_at "rd"
      refine Rd.lenS (by omega) ?_
      walk_at "rd"
      intro t t0 t1
      obtain ⟨c, hc⟩ := sg_at t0 t1
      refine ⟨t, c, rfl, hc, ?_⟩
      have e10 : (⟨#[c]⟩ : Str).length = 1 := rfl
      walk_at "rd"
      refine Rd.catS (by omega) ?_
      walk_at "rd"
      exact ⟨_, _, _, _, pools_next hp hc, rfl, rfl⟩
    · rintro σ H' ⟨P, L, v4, v5, hp, rfl, rfl⟩
      obtain ⟨hP, hLl, hLt⟩ := pools_at (by omega) hp
      clear hp hP
      walk_at "rd"
      refine ⟨l, L, "ab Z0~xy", 4, rfl, hD, by omega, by decide, by decide, by decide +kernel, by decide +kernel, by decide +kernel, fun p R E H1 e1 ok hw3 hw2 hRm hP => ?_⟩
      have hP0 := hP
      obtain ⟨r, e, hp, hr0, he0⟩ := hP0
      walk_at "rd"
      have hR1 := ok.len
      have hR0 := ok.pos
      have hRE := ok.ends
      refine xlcRows hr0 (by omega) (fun _ => rfl) (fun _ => rfl) fun rr as H2 nrr e2 hrr hB hne => ?_
      obtain ⟨_, es, ee, hes, hEA⟩ := Dt.inv_l (Dt.mn he0 e2)
      cases ee
      have hp2 := Evl.ex_t e2 hp
      have hel := itLen hEA
      walk_at "rd"
      refine Rd.listOf hes fun en H3 nen e3 hen => ?_
      have hrr3 := e3 _ _ hrr
      have hB3 := hB.ex e3
      walk_at "rd"
      refine x_TextMap ok hLt (hB3.dp hrr3) (Dt.ofL hen (Dt.mnA hEA e3)) fun x dx H4 ra ea as2 nx e4 hT => ?_
      have hen4 := e4 _ _ hen
      walk_at "rd"
      refine Rd.setL hen4 (n := 0) (by rw [show ((0 : Int)) = ((0 : Nat) : Int) from rfl]; exact Evl.ixN_nat (by omega)) ?_
      have hT5 := hT.upd (o := .lst (es.set 0 (.str "spoilt"))) hen hen4
      have ner : rr ≠ en := ne_of_none hrr nen
      have hrr5 : (upd H4 en (.lst (es.set 0 (.str "spoilt")))) rr = some (.lst (as.map V.ref)) := (upd_ne ner).trans (e4 _ _ hrr3)
      have e15 : Evl.Ex H1 (upd H4 en (.lst (es.set 0 (.str "spoilt")))) := Evl.Ex.mut ((e2.trans e3).trans e4) (Evl.fresh_back e2 nen)
      have hB5 : Bld K H1 (upd H4 en (.lst (es.set 0 (.str "spoilt")))) as R := by
        refine ⟨hB3.len, fun kk b st h1 h2 => ?_⟩
        obtain ⟨g, vs, h3, d⟩ := hB3.rw kk b st h1 h2
        have d4 := Dt.mnA d e4
        obtain ⟨_, vs2, h32, _⟩ := hB.rw kk b st h1 h2
        exact ⟨g, vs, (upd_ne (ne_of_none h32 nen)).trans (e4 _ _ h3), stA_upd hen4 d4⟩
      generalize upd H4 en (.lst (es.set 0 (.str "spoilt"))) = H5 at *
      walk_at "rd"
      refine Rd.xlst rfl fun ll H6 n6 e6 hll => ?_
      have hrr6 := e6 _ _ hrr5
      have hasl := hB.len
      walk_at "rd"
      refine Rd.append hrr6 (by rw [List.length_map]; omega) ?_
      have hT7 := (hT5.ex e6).upd (o := .lst (as.map V.ref ++ [.ref ll])) hrr3 hrr6
      have e17 : Evl.Ex H1 (upd H6 rr (.lst (as.map V.ref ++ [.ref ll]))) := Evl.Ex.mut (e15.trans e6) nrr
      have hrr7 : (upd H6 rr (.lst (as.map V.ref ++ [.ref ll]))) rr = some (.lst (as.map V.ref ++ [.ref ll])) := upd_same
      have hB7 : Bld K H1 (upd H6 rr (.lst (as.map V.ref ++ [.ref ll]))) as R := by
        refine ⟨hB5.len, fun kk b st h1 h2 => ?_⟩
        obtain ⟨g, vs, h3, d⟩ := (hB5.ex e6).rw kk b st h1 h2
        exact ⟨g, vs, (upd_ne (hne b (List.mem_of_getElem? h1))).trans h3, stA_upd hrr6 d⟩
      have has3 : ∀ b ∈ as, ∃ u, H3 b = some u := fun b hb => by
        obtain ⟨kk, h1⟩ := List.getElem?_of_mem hb
        have h2 : R[kk]? = some (R[kk]'(by have := (List.getElem?_eq_some_iff.mp h1).1; omega)) := List.getElem?_eq_getElem _
        obtain ⟨_, vs, h3, _⟩ := hB3.rw kk b _ h1 h2
        exact ⟨_, h3⟩
      generalize upd H6 rr (.lst (as.map V.ref ++ [.ref ll])) = H7 at *
      have h0a : as[0]? = some (as[0]'(by omega)) := List.getElem?_eq_getElem _
      have h0R : R[0]? = some (R[0]'(by omega)) := List.getElem?_eq_getElem _
      have hw0 := ok.wid _ (List.getElem_mem (show 0 < R.length by omega))
      have hm0 := List.getElem_mem (show 0 < as.length by omega)
      generalize as[0]'(by omega) = b0 at *
      generalize R[0]'(by omega) = st0 at *
      walk_at "rd"
      refine ⟨fun σ H' => ∃ v4 v5 v8 v11 v12, σ = [some (.ref a), some (.ref l), some (.str P), some (.str L), v4, v5, some (.ref p), some (.ref rr), v8, some (.ref en), some (.ref x), v11, v12] ∧ Evl.Ex H1 H' ∧ TNew K H3 H' x ad.c_TextMap dx L R E ra ea as2, ?_, ?_⟩
      · walk_at "rd"
        refine Rd.lenS (by omega) ?_
        walk_at "rd"
        refine Rd.ifd (fun c0 => ?_) (fun c0 => ?_)
        · walk_at "rd"
          refine Rd.xtup rfl fun tp H8 n8 e8 htp => ?_
          obtain ⟨g0, vs0, hv0, hd0⟩ := (hB7.ex e8).rw 0 b0 st0 h0a h0R
          have hv0l := itLen hd0
          walk_at "rd"
          refine Rd.ixL (SqL.of (e8 _ _ hrr7)) (v := .ref b0) (atI_nat (j := 0) (by rw [List.getElem?_append_left (by rw [List.length_map]; omega), List.getElem?_map, h0a]; rfl)) ?_
          walk_at "rd"
          refine Rd.setL hv0 (n := 0) (by rw [show ((0 : Int)) = ((0 : Nat) : Int) from rfl]; exact Evl.ixN_nat (by omega)) ?_
          obtain ⟨u0, hu0⟩ := has3 b0 hm0
          walk_at "rd"
          exact ⟨_, _, _, _, _, rfl, Evl.Ex.mut (e17.trans e8) g0, (hT7.ex e8).upd hu0 hv0⟩
        · walk_at "rd"
          exact ⟨_, _, _, _, _, rfl, e17, hT7⟩
      · rintro σ H8 ⟨v4, v5, v8, v11, v12, rfl, e18, hT8⟩
        have hM8 := hT8.map
        have hx := hT8.at_
        have hrL := hT8.rr
        have heL := hT8.ee
        have hra := hT8.bl.dp hT8.rr
        have hea : Dp K H8 (.ref ea) (dEnds E) := Dt.ofL hT8.ee (endsA E)
        clear hT8 hT7 hT5 hT hB7 hB5 hB3 hB
        have hP8 := hP.mono e18
        obtain ⟨r', e', hp8, hr8, he8⟩ := id hP8
        have hD8 := e18 _ _ (e1 _ _ hD)
        walk_at "rd"
        refine Rd.neDr hea he8 (shp_ends ok) ?_
        walk_at "rd"
        refine xlcRows hra (by omega) (fun _ => rfl) (fun _ => rfl) fun rr9 as9 H9 n9 e9 hrr9 hB9 _ => ?_
        have hr9 := Dt.mn hr8 e9
        have hp9 := Evl.ex_t e9 hp8
        walk_at "rd"
        refine Rd.neDr (hB9.dp hrr9) hr9 (shp_row ok) ?_
        have hM9 := hM8.mono e9
        have hP9 := hP8.mono e9
        have hD9 := e9 _ _ hD8
        clear hrL heL hM8 hP8 hD8 hr9 hp9 hB9 hrr9 hr8 he8 hp8 hx hra hea
        walk_at "rd"
        refine Rd.xlst rfl fun l1 H10 n10 e10 hl1 => ?_
        walk_at "rd"
        refine Rd.xlcS (fun _ => true) (fun j => .str ⟨#[L.cps.toList.getD j 0]⟩) (by have : L.cps.size = L.length := rfl; omega) (fun _ => rfl) (fun j c Hc _ _ => Rd.evYes) (fun j c Hc _ hc _ H' e' Q' q' => ?_) fun l2 H11 n11 e11 hl2 => ?_
        · have hg : L.cps.toList.getD j 0 = c := by rw [List.getD_eq_getElem?_getD, Array.getElem?_toList, hc]; rfl
          have q2 := q'
          rw [hg] at q2
          walk_at "rd"
          exact q2 _ (Evl.Ex.refl _)
        rw [Rd.given_all] at hl2
        have hl1' := e11 _ _ hl1
        refine Rd.cat hl1' hl2 (by rw [List.length_map, List.length_range]; have : L.cps.size = L.length := rfl; show 1 + _ ≤ _; omega) fun l3 H12 n12 e12 hl3 => ?_
        have e912 := (e10.trans e11).trans e12
        have hM12 := hM9.mono e912
        have hP12 := hP9.mono e912
        have hD12 := e912 _ _ hD9
        walk_at "rd"
        refine Rd.xlcGR (K := K) (fun _ d => ∃ z : Str, d = .str z ∧ z.length ≤ 1000) ⟨by decide, by decide⟩ (fun _ => rfl) ?_ ?_
        · intro j D G H' acc hj hDn eG eH gD hacc Q' q
          have eGH := eG.trans eH
          walk_at "rd"
          refine ⟨l, p, L, R, E, rfl, eGH _ _ hD12, hP12.mono eGH, ok, by omega, fun z H2 e2 hz => ?_⟩
          exact q _ _ G _ (Evl.Ex.refl _) (eH.trans e2) gD e2 (.str _) ⟨z, rfl, hz⟩
        · intro l4 G13 H13 ys ds n13 e13 f13 g13 hl4 hds hdl hdR
          obtain ⟨zs, rfl, hz, hzl⟩ := strs_of _ _ (Dt.mnA hds f13) hdR
          have e1213 := e13.trans f13
          refine Rd.cat (e1213 _ _ hl3) hl4 (by rw [List.length_append, List.length_map, List.length_map, List.length_range, hzl, hdl]; have : L.cps.size = L.length := rfl; show 1 + _ + _ ≤ _; omega) fun lt H14 n14 e14 hlt => ?_
          have hmem : ∀ y ∈ ([V.str ""] ++ (List.range L.cps.size).map (fun j => V.str ⟨#[L.cps.toList.getD j 0]⟩)) ++ zs.map V.str, ∃ z : Str, y = .str z ∧ z.length ≤ 1000 := by
            intro y hy
            rcases List.mem_append.mp hy with hy | hy
            · rcases List.mem_append.mp hy with hy | hy
              · exact ⟨_, List.mem_singleton.mp hy, by decide⟩
              · obtain ⟨j, _, rfl⟩ := List.mem_map.mp hy
                exact ⟨_, rfl, Nat.le_of_ble_eq_true rfl⟩
            · obtain ⟨z, hz1, rfl⟩ := List.mem_map.mp hy
              exact ⟨z, rfl, hz z hz1⟩
          generalize ([V.str ""] ++ (List.range L.cps.size).map (fun j => V.str ⟨#[L.cps.toList.getD j 0]⟩)) ++ zs.map V.str = tl at hmem hlt
          have e1214 := e1213.trans e14
          have hM14 := hM12.mono e1214
          have hP14 := hP12.mono e1214
          clear hl1 hl1' hl2 hl3 hl4 hds hdl hdR
          walk_at "rd"
          refine Rd.xfl (SqL.of hlt) (fun i σ H' => ∃ v12, σ = [some (.ref a), some (.ref l), some (.str P), some (.str L), v4, v5, some (.ref p), some (.ref rr), v8, some (.ref en), some (.ref x), some (.ref lt), v12] ∧ Evl.Ex H14 H') ⟨_, rfl, Evl.Ex.refl _⟩ (fun i σ H' _ ⟨_, _, e⟩ => Evl.ex_l e (SqL.of hlt)) ?_ ?_
          · rintro i y σ H15 hy ⟨v12, rfl, e15⟩
            obtain ⟨z, rfl, hz⟩ := hmem y (List.mem_of_getElem? hy)
            have hM15 := hM14.mono e15
            have hP15 := hP14.mono e15
            obtain ⟨dx', ra', ea', hx15, _, _⟩ := id hM15
            walk_at "rd"
            refine ⟨x, z, L, R, E, rfl, hM15, ok, hz, fun H16 e16 => ?_⟩
            walk_at "rd"
            refine ⟨p, z, L, R, E, rfl, hP15.mono e16, ok, hz, fun H17 e17 => ?_⟩
            walk_at "rd"
            refine ⟨_, rfl, ?_⟩
            have e1517 := e16.trans e17
            walk_at "rd"
            refine ⟨x, p, z, L, R, E, rfl, hM15.mono e1517, hP15.mono e1517, ok, hz, fun H18 e18 => ?_⟩
            walk_at "rd"
            exact ⟨_, rfl, (e15.trans e1517).trans e18⟩
          · rintro σ H15 ⟨v12, rfl, e15⟩
            obtain ⟨dx', ra', ea', hx15, _, hea15⟩ := hM14.mono e15
            obtain ⟨r'', e'', hp15, _, he15⟩ := hP14.mono e15
            walk_at "rd"
            refine Rd.eqDr hea15 he15 (shp_ends ok) ?_
            walk_at "rd"
            exact k _

/-! split -/
end
theorem all_mk {K : PySem.W.Frag} {h : Heap} {mg : Str → Option Value} {fa : Addr} (X : K.In h) (G : h.Ns mainGlobals mg) (hfa : mg "law" = some (.ref fa))
    {c_TextMap : Addr}
    {f_law_take : Addr} {oc_law_take kV_law_take dc_law_take pm_law_take cd_law_take ct_law_take : Value} {od_law_take an_law_take : Option Addr} {sl_law_take : Array (Option Value)}
    {f_law_deck : Addr} {oc_law_deck kV_law_deck dc_law_deck pm_law_deck cd_law_deck ct_law_deck : Value} {od_law_deck an_law_deck : Option Addr} {sl_law_deck : Array (Option Value)}
    {f_check_machine : Addr} {oc_check_machine kV_check_machine dc_check_machine pm_check_machine cd_check_machine ct_check_machine : Value} {od_check_machine an_check_machine : Option Addr} {sl_check_machine : Array (Option Value)}
    {f_TextMap_init_ : Addr} {oc_TextMap_init_ kV_TextMap_init_ dc_TextMap_init_ pm_TextMap_init_ cd_TextMap_init_ ct_TextMap_init_ : Value} {od_TextMap_init_ an_TextMap_init_ : Option Addr} {sl_TextMap_init_ : Array (Option Value)}
    {f_TextMap_step : Addr} {oc_TextMap_step kV_TextMap_step dc_TextMap_step pm_TextMap_step cd_TextMap_step ct_TextMap_step : Value} {od_TextMap_step an_TextMap_step : Option Addr} {sl_TextMap_step : Array (Option Value)}
    {f_TextMap_walk : Addr} {oc_TextMap_walk kV_TextMap_walk dc_TextMap_walk pm_TextMap_walk cd_TextMap_walk ct_TextMap_walk : Value} {od_TextMap_walk an_TextMap_walk : Option Addr} {sl_TextMap_walk : Array (Option Value)}
    {f_TextMap_image : Addr} {oc_TextMap_image kV_TextMap_image dc_TextMap_image pm_TextMap_image cd_TextMap_image ct_TextMap_image : Value} {od_TextMap_image an_TextMap_image : Option Addr} {sl_TextMap_image : Array (Option Value)}
    {f_law_word : Addr} {oc_law_word kV_law_word dc_law_word pm_law_word cd_law_word ct_law_word : Value} {od_law_word an_law_word : Option Addr} {sl_law_word : Array (Option Value)}
    {f_law_machine : Addr} {oc_law_machine kV_law_machine dc_law_machine pm_law_machine cd_law_machine ct_law_machine : Value} {od_law_machine an_law_machine : Option Addr} {sl_law_machine : Array (Option Value)}
    {f_law_walk : Addr} {oc_law_walk kV_law_walk dc_law_walk pm_law_walk cd_law_walk ct_law_walk : Value} {od_law_walk an_law_walk : Option Addr} {sl_law_walk : Array (Option Value)}
    {f_law_text_image : Addr} {oc_law_text_image kV_law_text_image dc_law_text_image pm_law_text_image cd_law_text_image ct_law_text_image : Value} {od_law_text_image an_law_text_image : Option Addr} {sl_law_text_image : Array (Option Value)}
    {f_law_same : Addr} {oc_law_same kV_law_same dc_law_same pm_law_same cd_law_same ct_law_same : Value} {od_law_same an_law_same : Option Addr} {sl_law_same : Array (Option Value)}
    {f_law_led : Addr} {oc_law_led kV_law_led dc_law_led pm_law_led cd_law_led ct_law_led : Value} {od_law_led an_law_led : Option Addr} {sl_law_led : Array (Option Value)}
    {f_law_text : Addr} {oc_law_text kV_law_text dc_law_text pm_law_text cd_law_text ct_law_text : Value} {od_law_text an_law_text : Option Addr} {sl_law_text : Array (Option Value)}
    {f_law_walks_right : Addr} {oc_law_walks_right kV_law_walks_right dc_law_walks_right pm_law_walks_right cd_law_walks_right ct_law_walks_right : Value} {od_law_walks_right an_law_walks_right : Option Addr} {sl_law_walks_right : Array (Option Value)}
    {f_law : Addr} {oc_law kV_law dc_law pm_law cd_law ct_law : Value} {od_law an_law : Option Addr} {sl_law : Array (Option Value)}
    (A_TextMap : PySem.W.nsIn K mainGlobals "TextMap" = some (some (.ref c_TextMap)))
    (a_law_take : PySem.W.nsIn K mainGlobals "_law_take" = some (some (.ref f_law_take)))
    (l_law_take : K.lookup f_law_take = some ⟨oc_law_take, od_law_take, .func (PySem.W.fnOf "_law_take" "_law_take" (defArgs s_law_take) (defBody s_law_take) (defScope s_law_take) .none kV_law_take dc_law_take pm_law_take an_law_take cd_law_take ct_law_take), sl_law_take⟩)
    (c_law_take : PySem.W.codeIn K cd_law_take "_law_take" = true)
    (k_law_take : PySem.W.keepIn K (.ref f_law_take) = true)
    (a_law_deck : PySem.W.nsIn K mainGlobals "_law_deck" = some (some (.ref f_law_deck)))
    (l_law_deck : K.lookup f_law_deck = some ⟨oc_law_deck, od_law_deck, .func (PySem.W.fnOf "_law_deck" "_law_deck" (defArgs s_law_deck) (defBody s_law_deck) (defScope s_law_deck) .none kV_law_deck dc_law_deck pm_law_deck an_law_deck cd_law_deck ct_law_deck), sl_law_deck⟩)
    (c_law_deck : PySem.W.codeIn K cd_law_deck "_law_deck" = true)
    (k_law_deck : PySem.W.keepIn K (.ref f_law_deck) = true)
    (a_check_machine : PySem.W.nsIn K mainGlobals "check_machine" = some (some (.ref f_check_machine)))
    (l_check_machine : K.lookup f_check_machine = some ⟨oc_check_machine, od_check_machine, .func (PySem.W.fnOf "check_machine" "check_machine" (defArgs s_check_machine) (defBody s_check_machine) (defScope s_check_machine) .none kV_check_machine dc_check_machine pm_check_machine an_check_machine cd_check_machine ct_check_machine), sl_check_machine⟩)
    (c_check_machine : PySem.W.codeIn K cd_check_machine "check_machine" = true)
    (k_check_machine : PySem.W.keepIn K (.ref f_check_machine) = true)
    (a_TextMap_init_ : PySem.W.findIn K (.ref c_TextMap) "__init__" = some (some (.ref f_TextMap_init_)))
    (i_TextMap_init_ : PySem.W.isFn K (.ref f_TextMap_init_) = true)
    (l_TextMap_init_ : K.lookup f_TextMap_init_ = some ⟨oc_TextMap_init_, od_TextMap_init_, .func (PySem.W.fnOf "__init__" "TextMap.__init__" (defArgs s_TextMap_init_) (defBody s_TextMap_init_) (defScope s_TextMap_init_) .none kV_TextMap_init_ dc_TextMap_init_ pm_TextMap_init_ an_TextMap_init_ cd_TextMap_init_ ct_TextMap_init_), sl_TextMap_init_⟩)
    (c_TextMap_init_ : PySem.W.codeIn K cd_TextMap_init_ "TextMap.__init__" = true)
    (k_TextMap_init_ : PySem.W.keepIn K (.ref f_TextMap_init_) = true)
    (a_TextMap_step : PySem.W.findIn K (.ref c_TextMap) "step" = some (some (.ref f_TextMap_step)))
    (i_TextMap_step : PySem.W.isFn K (.ref f_TextMap_step) = true)
    (l_TextMap_step : K.lookup f_TextMap_step = some ⟨oc_TextMap_step, od_TextMap_step, .func (PySem.W.fnOf "step" "TextMap.step" (defArgs s_TextMap_step) (defBody s_TextMap_step) (defScope s_TextMap_step) .none kV_TextMap_step dc_TextMap_step pm_TextMap_step an_TextMap_step cd_TextMap_step ct_TextMap_step), sl_TextMap_step⟩)
    (c_TextMap_step : PySem.W.codeIn K cd_TextMap_step "TextMap.step" = true)
    (k_TextMap_step : PySem.W.keepIn K (.ref f_TextMap_step) = true)
    (a_TextMap_walk : PySem.W.findIn K (.ref c_TextMap) "walk" = some (some (.ref f_TextMap_walk)))
    (i_TextMap_walk : PySem.W.isFn K (.ref f_TextMap_walk) = true)
    (l_TextMap_walk : K.lookup f_TextMap_walk = some ⟨oc_TextMap_walk, od_TextMap_walk, .func (PySem.W.fnOf "walk" "TextMap.walk" (defArgs s_TextMap_walk) (defBody s_TextMap_walk) (defScope s_TextMap_walk) .none kV_TextMap_walk dc_TextMap_walk pm_TextMap_walk an_TextMap_walk cd_TextMap_walk ct_TextMap_walk), sl_TextMap_walk⟩)
    (c_TextMap_walk : PySem.W.codeIn K cd_TextMap_walk "TextMap.walk" = true)
    (k_TextMap_walk : PySem.W.keepIn K (.ref f_TextMap_walk) = true)
    (a_TextMap_image : PySem.W.findIn K (.ref c_TextMap) "image" = some (some (.ref f_TextMap_image)))
    (i_TextMap_image : PySem.W.isFn K (.ref f_TextMap_image) = true)
    (l_TextMap_image : K.lookup f_TextMap_image = some ⟨oc_TextMap_image, od_TextMap_image, .func (PySem.W.fnOf "image" "TextMap.image" (defArgs s_TextMap_image) (defBody s_TextMap_image) (defScope s_TextMap_image) .none kV_TextMap_image dc_TextMap_image pm_TextMap_image an_TextMap_image cd_TextMap_image ct_TextMap_image), sl_TextMap_image⟩)
    (c_TextMap_image : PySem.W.codeIn K cd_TextMap_image "TextMap.image" = true)
    (k_TextMap_image : PySem.W.keepIn K (.ref f_TextMap_image) = true)
    (a_law_word : PySem.W.nsIn K mainGlobals "_law_word" = some (some (.ref f_law_word)))
    (l_law_word : K.lookup f_law_word = some ⟨oc_law_word, od_law_word, .func (PySem.W.fnOf "_law_word" "_law_word" (defArgs s_law_word) (defBody s_law_word) (defScope s_law_word) .none kV_law_word dc_law_word pm_law_word an_law_word cd_law_word ct_law_word), sl_law_word⟩)
    (c_law_word : PySem.W.codeIn K cd_law_word "_law_word" = true)
    (k_law_word : PySem.W.keepIn K (.ref f_law_word) = true)
    (a_law_machine : PySem.W.nsIn K mainGlobals "_law_machine" = some (some (.ref f_law_machine)))
    (l_law_machine : K.lookup f_law_machine = some ⟨oc_law_machine, od_law_machine, .func (PySem.W.fnOf "_law_machine" "_law_machine" (defArgs s_law_machine) (defBody s_law_machine) (defScope s_law_machine) .none kV_law_machine dc_law_machine pm_law_machine an_law_machine cd_law_machine ct_law_machine), sl_law_machine⟩)
    (c_law_machine : PySem.W.codeIn K cd_law_machine "_law_machine" = true)
    (k_law_machine : PySem.W.keepIn K (.ref f_law_machine) = true)
    (a_law_walk : PySem.W.nsIn K mainGlobals "_law_walk" = some (some (.ref f_law_walk)))
    (l_law_walk : K.lookup f_law_walk = some ⟨oc_law_walk, od_law_walk, .func (PySem.W.fnOf "_law_walk" "_law_walk" (defArgs s_law_walk) (defBody s_law_walk) (defScope s_law_walk) .none kV_law_walk dc_law_walk pm_law_walk an_law_walk cd_law_walk ct_law_walk), sl_law_walk⟩)
    (c_law_walk : PySem.W.codeIn K cd_law_walk "_law_walk" = true)
    (k_law_walk : PySem.W.keepIn K (.ref f_law_walk) = true)
    (a_law_text_image : PySem.W.nsIn K mainGlobals "_law_text_image" = some (some (.ref f_law_text_image)))
    (l_law_text_image : K.lookup f_law_text_image = some ⟨oc_law_text_image, od_law_text_image, .func (PySem.W.fnOf "_law_text_image" "_law_text_image" (defArgs s_law_text_image) (defBody s_law_text_image) (defScope s_law_text_image) .none kV_law_text_image dc_law_text_image pm_law_text_image an_law_text_image cd_law_text_image ct_law_text_image), sl_law_text_image⟩)
    (c_law_text_image : PySem.W.codeIn K cd_law_text_image "_law_text_image" = true)
    (k_law_text_image : PySem.W.keepIn K (.ref f_law_text_image) = true)
    (a_law_same : PySem.W.nsIn K mainGlobals "_law_same" = some (some (.ref f_law_same)))
    (l_law_same : K.lookup f_law_same = some ⟨oc_law_same, od_law_same, .func (PySem.W.fnOf "_law_same" "_law_same" (defArgs s_law_same) (defBody s_law_same) (defScope s_law_same) .none kV_law_same dc_law_same pm_law_same an_law_same cd_law_same ct_law_same), sl_law_same⟩)
    (c_law_same : PySem.W.codeIn K cd_law_same "_law_same" = true)
    (k_law_same : PySem.W.keepIn K (.ref f_law_same) = true)
    (a_law_led : PySem.W.nsIn K mainGlobals "_law_led" = some (some (.ref f_law_led)))
    (l_law_led : K.lookup f_law_led = some ⟨oc_law_led, od_law_led, .func (PySem.W.fnOf "_law_led" "_law_led" (defArgs s_law_led) (defBody s_law_led) (defScope s_law_led) .none kV_law_led dc_law_led pm_law_led an_law_led cd_law_led ct_law_led), sl_law_led⟩)
    (c_law_led : PySem.W.codeIn K cd_law_led "_law_led" = true)
    (k_law_led : PySem.W.keepIn K (.ref f_law_led) = true)
    (a_law_text : PySem.W.nsIn K mainGlobals "_law_text" = some (some (.ref f_law_text)))
    (l_law_text : K.lookup f_law_text = some ⟨oc_law_text, od_law_text, .func (PySem.W.fnOf "_law_text" "_law_text" (defArgs s_law_text) (defBody s_law_text) (defScope s_law_text) .none kV_law_text dc_law_text pm_law_text an_law_text cd_law_text ct_law_text), sl_law_text⟩)
    (c_law_text : PySem.W.codeIn K cd_law_text "_law_text" = true)
    (k_law_text : PySem.W.keepIn K (.ref f_law_text) = true)
    (a_law_walks_right : PySem.W.nsIn K mainGlobals "_law_walks_right" = some (some (.ref f_law_walks_right)))
    (l_law_walks_right : K.lookup f_law_walks_right = some ⟨oc_law_walks_right, od_law_walks_right, .func (PySem.W.fnOf "_law_walks_right" "_law_walks_right" (defArgs s_law_walks_right) (defBody s_law_walks_right) (defScope s_law_walks_right) .none kV_law_walks_right dc_law_walks_right pm_law_walks_right an_law_walks_right cd_law_walks_right ct_law_walks_right), sl_law_walks_right⟩)
    (c_law_walks_right : PySem.W.codeIn K cd_law_walks_right "_law_walks_right" = true)
    (k_law_walks_right : PySem.W.keepIn K (.ref f_law_walks_right) = true)
    (a_law : PySem.W.nsIn K mainGlobals "law" = some (some (.ref f_law)))
    (l_law : K.lookup f_law = some ⟨oc_law, od_law, .func (PySem.W.fnOf "law" "law" (defArgs s_law) (defBody s_law) (defScope s_law) .none kV_law dc_law pm_law an_law cd_law ct_law), sl_law⟩)
    (c_law : PySem.W.codeIn K cd_law "law" = true)
    (k_law : PySem.W.keepIn K (.ref f_law) = true)
    (pg_TextMap : PySem.W.plainGet K c_TextMap Str.empty = true)
    (hd_TextMap : PySem.W.hasDictIn K c_TextMap = true)
    (po_TextMap : PySem.W.plainOver K c_TextMap = true)
    (sa_TextMap : PySem.W.findIn K (.ref c_TextMap) "__setattr__" = some (some (.builtin "object.__setattr__")))
    (mk_TextMap : PySem.W.makesIn K c_TextMap = true)
    (kc_TextMap : PySem.W.keepIn K (.ref c_TextMap) = true)
    (n_TextMap_ends : PySem.W.findIn K (.ref c_TextMap) "ends" = some none)
    (n_TextMap_letters : PySem.W.findIn K (.ref c_TextMap) "letters" = some none)
    (n_TextMap_rows : PySem.W.findIn K (.ref c_TextMap) "rows" = some none)
    (z_abs : PySem.W.nsIn K mainGlobals "abs" = some none)
    (z_bool : PySem.W.nsIn K mainGlobals "bool" = some none)
    (z_int : PySem.W.nsIn K mainGlobals "int" = some none)
    (z_isinstance : PySem.W.nsIn K mainGlobals "isinstance" = some none)
    (z_len : PySem.W.nsIn K mainGlobals "len" = some none)
    (z_list : PySem.W.nsIn K mainGlobals "list" = some none)
    (z_min : PySem.W.nsIn K mainGlobals "min" = some none)
    (z_range : PySem.W.nsIn K mainGlobals "range" = some none)
    (z_str : PySem.W.nsIn K mainGlobals "str" = some none)
    (z_tuple : PySem.W.nsIn K mainGlobals "tuple" = some none)
    : ∃ ad : Ad, Txt K mg ad ∧ fa = ad.a_law ∧ ∀ (s : Shared) (v : Value), BindsTo s ad.d_law ⟨[v], []⟩ [("script", v)] := by
  have e := hfa.symm.trans (PySem.W.mg_of X G a_law)
  cases e
  have F_law_take := fun_mk (st := s_law_take) l_law_take c_law_take k_law_take
  have b_law_take := F_law_take.binds (ps := ["deck", "many"]) fun _ _ _ _ _ _ us hl => match us, hl with | [_, _], _ => rfl
  have F_law_deck := fun_mk (st := s_law_deck) l_law_deck c_law_deck k_law_deck
  have b_law_deck := F_law_deck.binds (ps := ["script", "cells", "each"]) fun _ _ _ _ _ _ us hl => match us, hl with | [_, _, _], _ => rfl
  have F_check_machine := fun_mk (st := s_check_machine) l_check_machine c_check_machine k_check_machine
  have b_check_machine := F_check_machine.binds (ps := ["letters", "rows", "ends"]) fun _ _ _ _ _ _ us hl => match us, hl with | [_, _, _], _ => rfl
  have F_TextMap_init_ := fun_mk (st := s_TextMap_init_) l_TextMap_init_ c_TextMap_init_ k_TextMap_init_
  have b_TextMap_init_ := F_TextMap_init_.binds (ps := ["self", "letters", "rows", "ends"]) fun _ _ _ _ _ _ us hl => match us, hl with | [_, _, _, _], _ => rfl
  have F_TextMap_step := fun_mk (st := s_TextMap_step) l_TextMap_step c_TextMap_step k_TextMap_step
  have b_TextMap_step := F_TextMap_step.binds (ps := ["self", "state", "letter"]) fun _ _ _ _ _ _ us hl => match us, hl with | [_, _, _], _ => rfl
  have F_TextMap_walk := fun_mk (st := s_TextMap_walk) l_TextMap_walk c_TextMap_walk k_TextMap_walk
  have b_TextMap_walk := F_TextMap_walk.binds (ps := ["self", "state", "text"]) fun _ _ _ _ _ _ us hl => match us, hl with | [_, _, _], _ => rfl
  have F_TextMap_image := fun_mk (st := s_TextMap_image) l_TextMap_image c_TextMap_image k_TextMap_image
  have b_TextMap_image := F_TextMap_image.binds (ps := ["self", "text"]) fun _ _ _ _ _ _ us hl => match us, hl with | [_, _], _ => rfl
  have F_law_word := fun_mk (st := s_law_word) l_law_word c_law_word k_law_word
  have b_law_word := F_law_word.binds (ps := ["deck", "signs", "most"]) fun _ _ _ _ _ _ us hl => match us, hl with | [_, _, _], _ => rfl
  have F_law_machine := fun_mk (st := s_law_machine) l_law_machine c_law_machine k_law_machine
  have b_law_machine := F_law_machine.binds (ps := ["deck", "letters", "signs", "most"]) fun _ _ _ _ _ _ us hl => match us, hl with | [_, _, _, _], _ => rfl
  have F_law_walk := fun_mk (st := s_law_walk) l_law_walk c_law_walk k_law_walk
  have b_law_walk := F_law_walk.binds (ps := ["parts", "state", "text"]) fun _ _ _ _ _ _ us hl => match us, hl with | [_, _, _], _ => rfl
  have F_law_text_image := fun_mk (st := s_law_text_image) l_law_text_image c_law_text_image k_law_text_image
  have b_law_text_image := F_law_text_image.binds (ps := ["parts", "text"]) fun _ _ _ _ _ _ us hl => match us, hl with | [_, _], _ => rfl
  have F_law_same := fun_mk (st := s_law_same) l_law_same c_law_same k_law_same
  have b_law_same := F_law_same.binds (ps := ["actual", "expected"]) fun _ _ _ _ _ _ us hl => match us, hl with | [_, _], _ => rfl
  have F_law_led := fun_mk (st := s_law_led) l_law_led c_law_led k_law_led
  have b_law_led := F_law_led.binds (ps := ["deck", "parts", "state", "size"]) fun _ _ _ _ _ _ us hl => match us, hl with | [_, _, _, _], _ => rfl
  have F_law_text := fun_mk (st := s_law_text) l_law_text c_law_text k_law_text
  have b_law_text := F_law_text.binds (ps := ["deck", "parts"]) fun _ _ _ _ _ _ us hl => match us, hl with | [_, _], _ => rfl
  have F_law_walks_right := fun_mk (st := s_law_walks_right) l_law_walks_right c_law_walks_right k_law_walks_right
  have b_law_walks_right := F_law_walks_right.binds (ps := ["made", "parts", "text"]) fun _ _ _ _ _ _ us hl => match us, hl with | [_, _, _], _ => rfl
  have F_law := fun_mk (st := s_law) l_law c_law k_law
  have b_law := F_law.binds (ps := ["script"]) fun _ _ _ _ _ _ us hl => match us, hl with | [_], _ => rfl
  refine ⟨⟨f_law_take, (PySem.W.fnOf "_law_take" "_law_take" (defArgs s_law_take) (defBody s_law_take) (defScope s_law_take) .none kV_law_take dc_law_take pm_law_take an_law_take cd_law_take ct_law_take), f_law_deck, (PySem.W.fnOf "_law_deck" "_law_deck" (defArgs s_law_deck) (defBody s_law_deck) (defScope s_law_deck) .none kV_law_deck dc_law_deck pm_law_deck an_law_deck cd_law_deck ct_law_deck), f_check_machine, (PySem.W.fnOf "check_machine" "check_machine" (defArgs s_check_machine) (defBody s_check_machine) (defScope s_check_machine) .none kV_check_machine dc_check_machine pm_check_machine an_check_machine cd_check_machine ct_check_machine), f_TextMap_init_, (PySem.W.fnOf "__init__" "TextMap.__init__" (defArgs s_TextMap_init_) (defBody s_TextMap_init_) (defScope s_TextMap_init_) .none kV_TextMap_init_ dc_TextMap_init_ pm_TextMap_init_ an_TextMap_init_ cd_TextMap_init_ ct_TextMap_init_), f_TextMap_step, (PySem.W.fnOf "step" "TextMap.step" (defArgs s_TextMap_step) (defBody s_TextMap_step) (defScope s_TextMap_step) .none kV_TextMap_step dc_TextMap_step pm_TextMap_step an_TextMap_step cd_TextMap_step ct_TextMap_step), f_TextMap_walk, (PySem.W.fnOf "walk" "TextMap.walk" (defArgs s_TextMap_walk) (defBody s_TextMap_walk) (defScope s_TextMap_walk) .none kV_TextMap_walk dc_TextMap_walk pm_TextMap_walk an_TextMap_walk cd_TextMap_walk ct_TextMap_walk), f_TextMap_image, (PySem.W.fnOf "image" "TextMap.image" (defArgs s_TextMap_image) (defBody s_TextMap_image) (defScope s_TextMap_image) .none kV_TextMap_image dc_TextMap_image pm_TextMap_image an_TextMap_image cd_TextMap_image ct_TextMap_image), f_law_word, (PySem.W.fnOf "_law_word" "_law_word" (defArgs s_law_word) (defBody s_law_word) (defScope s_law_word) .none kV_law_word dc_law_word pm_law_word an_law_word cd_law_word ct_law_word), f_law_machine, (PySem.W.fnOf "_law_machine" "_law_machine" (defArgs s_law_machine) (defBody s_law_machine) (defScope s_law_machine) .none kV_law_machine dc_law_machine pm_law_machine an_law_machine cd_law_machine ct_law_machine), f_law_walk, (PySem.W.fnOf "_law_walk" "_law_walk" (defArgs s_law_walk) (defBody s_law_walk) (defScope s_law_walk) .none kV_law_walk dc_law_walk pm_law_walk an_law_walk cd_law_walk ct_law_walk), f_law_text_image, (PySem.W.fnOf "_law_text_image" "_law_text_image" (defArgs s_law_text_image) (defBody s_law_text_image) (defScope s_law_text_image) .none kV_law_text_image dc_law_text_image pm_law_text_image an_law_text_image cd_law_text_image ct_law_text_image), f_law_same, (PySem.W.fnOf "_law_same" "_law_same" (defArgs s_law_same) (defBody s_law_same) (defScope s_law_same) .none kV_law_same dc_law_same pm_law_same an_law_same cd_law_same ct_law_same), f_law_led, (PySem.W.fnOf "_law_led" "_law_led" (defArgs s_law_led) (defBody s_law_led) (defScope s_law_led) .none kV_law_led dc_law_led pm_law_led an_law_led cd_law_led ct_law_led), f_law_text, (PySem.W.fnOf "_law_text" "_law_text" (defArgs s_law_text) (defBody s_law_text) (defScope s_law_text) .none kV_law_text dc_law_text pm_law_text an_law_text cd_law_text ct_law_text), f_law_walks_right, (PySem.W.fnOf "_law_walks_right" "_law_walks_right" (defArgs s_law_walks_right) (defBody s_law_walks_right) (defScope s_law_walks_right) .none kV_law_walks_right dc_law_walks_right pm_law_walks_right an_law_walks_right cd_law_walks_right ct_law_walks_right), fa, (PySem.W.fnOf "law" "law" (defArgs s_law) (defBody s_law) (defScope s_law) .none kV_law dc_law pm_law an_law cd_law ct_law), c_TextMap⟩, ?_, rfl, fun s v => .of_eq rfl⟩
  exact {
    F_law_take := F_law_take
    b_law_take := b_law_take
    m_law_take := PySem.W.mg_of X G a_law_take
    F_law_deck := F_law_deck
    b_law_deck := b_law_deck
    m_law_deck := PySem.W.mg_of X G a_law_deck
    F_check_machine := F_check_machine
    b_check_machine := b_check_machine
    m_check_machine := PySem.W.mg_of X G a_check_machine
    F_TextMap_init_ := F_TextMap_init_
    b_TextMap_init_ := b_TextMap_init_
    F_TextMap_step := F_TextMap_step
    b_TextMap_step := b_TextMap_step
    me_TextMap_step := ⟨a_TextMap_step, i_TextMap_step, k_TextMap_step⟩
    F_TextMap_walk := F_TextMap_walk
    b_TextMap_walk := b_TextMap_walk
    me_TextMap_walk := ⟨a_TextMap_walk, i_TextMap_walk, k_TextMap_walk⟩
    F_TextMap_image := F_TextMap_image
    b_TextMap_image := b_TextMap_image
    me_TextMap_image := ⟨a_TextMap_image, i_TextMap_image, k_TextMap_image⟩
    F_law_word := F_law_word
    b_law_word := b_law_word
    m_law_word := PySem.W.mg_of X G a_law_word
    F_law_machine := F_law_machine
    b_law_machine := b_law_machine
    m_law_machine := PySem.W.mg_of X G a_law_machine
    F_law_walk := F_law_walk
    b_law_walk := b_law_walk
    m_law_walk := PySem.W.mg_of X G a_law_walk
    F_law_text_image := F_law_text_image
    b_law_text_image := b_law_text_image
    m_law_text_image := PySem.W.mg_of X G a_law_text_image
    F_law_same := F_law_same
    b_law_same := b_law_same
    m_law_same := PySem.W.mg_of X G a_law_same
    F_law_led := F_law_led
    b_law_led := b_law_led
    m_law_led := PySem.W.mg_of X G a_law_led
    F_law_text := F_law_text
    b_law_text := b_law_text
    m_law_text := PySem.W.mg_of X G a_law_text
    F_law_walks_right := F_law_walks_right
    b_law_walks_right := b_law_walks_right
    m_law_walks_right := PySem.W.mg_of X G a_law_walks_right
    F_law := F_law
    b_law := b_law
    m_law := PySem.W.mg_of X G a_law
    cl_TextMap := ⟨pg_TextMap, hd_TextMap, po_TextMap, sa_TextMap⟩
    mg_TextMap := PySem.W.mg_of X G A_TextMap
    mk_TextMap := ⟨mk_TextMap, a_TextMap_init_, i_TextMap_init_, kc_TextMap⟩
    n_TextMap_ends := n_TextMap_ends
    n_TextMap_letters := n_TextMap_letters
    n_TextMap_rows := n_TextMap_rows
    z_abs := PySem.W.mg_none_of X G z_abs
    z_bool := PySem.W.mg_none_of X G z_bool
    z_int := PySem.W.mg_none_of X G z_int
    z_isinstance := PySem.W.mg_none_of X G z_isinstance
    z_len := PySem.W.mg_none_of X G z_len
    z_list := PySem.W.mg_none_of X G z_list
    z_min := PySem.W.mg_none_of X G z_min
    z_range := PySem.W.mg_none_of X G z_range
    z_str := PySem.W.mg_none_of X G z_str
    z_tuple := PySem.W.mg_none_of X G z_tuple
  }
theorem walk {l : PySem.W.OpenLaw} {q : Program} {loose : List Str} {XP : (Str → Option Value) → Heap → Prop} {YP : World → Heap → Prop} {d : DefRec} {K : Params → PySem.W.Frag} (hn : l.most = some 63) (hdf : d.params.defaults = [])
    (hY : ∀ (w : World) (h : Heap), YP w h → (K w.params).In h)
    (F : ∀ (w : World) (mg : Str → Option Value) (fa : Addr) (h : Heap), (K w.params).In h → h.Ns mainGlobals mg → mg d.name = some (.ref fa) →
      ∃ ad : Ad, Txt (K w.params) mg ad ∧ fa = ad.a_law ∧ ∀ (s : Shared) (v : Value), BindsTo s ad.d_law ⟨[v], []⟩ [("script", v)]) :
    PySem.W.WalkO q loose XP YP l.row.toRowW d [] (fun f vs => PySem.call f vs) := by
  refine L2.walk_of (n := 63) (k := 4) (x := "script") (CX := fun _ => CX0) (sp := fun w => spLaw (K w.params)) hn (by decide) hdf ⟨rfl, by decide, by decide⟩ hY (fun w mg fa h KX G hmg => ?_) (fun _ _ a ns hl _ hS => ⟨a, ns, rfl, hS, hl, fun _ => rfl⟩) fun _ _ _ _ _ z => z
  obtain ⟨ad, T, rfl, hb⟩ := F w mg fa h KX G hmg
  exact ⟨ad.d_law, hb, fun base _ _ => ok_law T⟩
end Toy
open PySem PySem.W PyProof.Rows
set_option maxRecDepth 100000 in
set_option maxHeartbeats 0 in
theorem PySem.Challenge.cw_surebridge_k05_text_images_holds : PySem.Challenge.rw_surebridge_k05_text_images.Holds := by
  w_on; o_law; k_head; (case hw => w_witness2)
  k_fill
  refine Toy.walk (l := PySem.Challenge.rw_surebridge_k05_text_images) rfl rfl (fun w h Y => PySem.W.kIn_of Y) ?F
  case F =>
    intro w mg fa h KX G hmg
    refine' Toy.all_mk KX G hmg ?A_TextMap ?a_law_take ?l_law_take ?c_law_take ?k_law_take ?a_law_deck ?l_law_deck ?c_law_deck ?k_law_deck ?a_check_machine ?l_check_machine ?c_check_machine ?k_check_machine ?a_TextMap_init_ ?i_TextMap_init_ ?l_TextMap_init_ ?c_TextMap_init_ ?k_TextMap_init_ ?a_TextMap_step ?i_TextMap_step ?l_TextMap_step ?c_TextMap_step ?k_TextMap_step ?a_TextMap_walk ?i_TextMap_walk ?l_TextMap_walk ?c_TextMap_walk ?k_TextMap_walk ?a_TextMap_image ?i_TextMap_image ?l_TextMap_image ?c_TextMap_image ?k_TextMap_image ?a_law_word ?l_law_word ?c_law_word ?k_law_word ?a_law_machine ?l_law_machine ?c_law_machine ?k_law_machine ?a_law_walk ?l_law_walk ?c_law_walk ?k_law_walk ?a_law_text_image ?l_law_text_image ?c_law_text_image ?k_law_text_image ?a_law_same ?l_law_same ?c_law_same ?k_law_same ?a_law_led ?l_law_led ?c_law_led ?k_law_led ?a_law_text ?l_law_text ?c_law_text ?k_law_text ?a_law_walks_right ?l_law_walks_right ?c_law_walks_right ?k_law_walks_right ?a_law ?l_law ?c_law ?k_law ?pg_TextMap ?hd_TextMap ?po_TextMap ?sa_TextMap ?mk_TextMap ?kc_TextMap ?n_TextMap_ends ?n_TextMap_letters ?n_TextMap_rows ?z_abs ?z_bool ?z_int ?z_isinstance ?z_len ?z_list ?z_min ?z_range ?z_str ?z_tuple
    (case A_TextMap => k_is)
    (case a_law_take => k_is)
    (case l_law_take => k_is)
    (case c_law_take => k_is)
    (case k_law_take => k_is)
    (case a_law_deck => k_is)
    (case l_law_deck => k_is)
    (case c_law_deck => k_is)
    (case k_law_deck => k_is)
    (case a_check_machine => k_is)
    (case l_check_machine => k_is)
    (case c_check_machine => k_is)
    (case k_check_machine => k_is)
    (case a_TextMap_init_ => k_is)
    (case i_TextMap_init_ => k_is)
    (case l_TextMap_init_ => k_is)
    (case c_TextMap_init_ => k_is)
    (case k_TextMap_init_ => k_is)
    (case a_TextMap_step => k_is)
    (case i_TextMap_step => k_is)
    (case l_TextMap_step => k_is)
    (case c_TextMap_step => k_is)
    (case k_TextMap_step => k_is)
    (case a_TextMap_walk => k_is)
    (case i_TextMap_walk => k_is)
    (case l_TextMap_walk => k_is)
    (case c_TextMap_walk => k_is)
    (case k_TextMap_walk => k_is)
    (case a_TextMap_image => k_is)
    (case i_TextMap_image => k_is)
    (case l_TextMap_image => k_is)
    (case c_TextMap_image => k_is)
    (case k_TextMap_image => k_is)
    (case a_law_word => k_is)
    (case l_law_word => k_is)
    (case c_law_word => k_is)
    (case k_law_word => k_is)
    (case a_law_machine => k_is)
    (case l_law_machine => k_is)
    (case c_law_machine => k_is)
    (case k_law_machine => k_is)
    (case a_law_walk => k_is)
    (case l_law_walk => k_is)
    (case c_law_walk => k_is)
    (case k_law_walk => k_is)
    (case a_law_text_image => k_is)
    (case l_law_text_image => k_is)
    (case c_law_text_image => k_is)
    (case k_law_text_image => k_is)
    (case a_law_same => k_is)
    (case l_law_same => k_is)
    (case c_law_same => k_is)
    (case k_law_same => k_is)
    (case a_law_led => k_is)
    (case l_law_led => k_is)
    (case c_law_led => k_is)
    (case k_law_led => k_is)
    (case a_law_text => k_is)
    (case l_law_text => k_is)
    (case c_law_text => k_is)
    (case k_law_text => k_is)
    (case a_law_walks_right => k_is)
    (case l_law_walks_right => k_is)
    (case c_law_walks_right => k_is)
    (case k_law_walks_right => k_is)
    (case a_law => k_is)
    (case l_law => k_is)
    (case c_law => k_is)
    (case k_law => k_is)
    (case pg_TextMap => k_is)
    (case hd_TextMap => k_is)
    (case po_TextMap => k_is)
    (case sa_TextMap => k_is)
    (case mk_TextMap => k_is)
    (case kc_TextMap => k_is)
    (case n_TextMap_ends => k_is)
    (case n_TextMap_letters => k_is)
    (case n_TextMap_rows => k_is)
    (case z_abs => k_is)
    (case z_bool => k_is)
    (case z_int => k_is)
    (case z_isinstance => k_is)
    (case z_len => k_is)
    (case z_list => k_is)
    (case z_min => k_is)
    (case z_range => k_is)
    (case z_str => k_is)
    (case z_tuple => k_is)
#print axioms PySem.Challenge.cw_surebridge_k05_text_images_holds

