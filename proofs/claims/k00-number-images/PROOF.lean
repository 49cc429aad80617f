import PyProof.Rows.All
import Wide.All
import OpenK.AllK
import Wide.FinOn
import HandS.ForMost
import HandS.Wide
import HandS.Evl
import HandS.IsInst
import HandS.Steps
import HandS.Flow
import HandS.Conv
import HandS.Codes

import PySem.Challenge.RW_surebridge_k00_number_images
set_option Elab.async false
set_option linter.all false
set_option maxRecDepth 100000
set_option maxHeartbeats 4000000
/-! a list of ints whose content is not told: the law's deck -/
namespace Dk
open PySem PySem.Spec PyProof.Rows L2

def Ints (l : Addr) (h : Heap) : Prop := ∃ ns : List Int, ns.length ≤ 100000 ∧ ∃ (its : List Value) (n : Nat), Vals (ns.map V.int) its ∧ h.get? l = some { cls := .type "list", data := .seq its.toArray n }
def DkO (l : Addr) : HO := .ext (Ints l)
theorem sz5 {n : Nat} (h : n ≤ 100000) : n ≤ sizeLine := Nat.le_trans h (by decide)
section
variable {P : Program} {w : World} {H H' : Hp} {h h' : Heap} {l : Addr} {o o' : HO} {fs ex : List Addr}
/-- another word for what stands at x -/
theorem retag (ok : HOk P w H h) (hx : H l = some o) (n1 : ∀ y, o ≠ .own y) (n2 : ∀ xs, o ≠ .tup xs) (new : ObjOk P w (upd H l o') h l o') : HOk P w (upd H l o') h := fun b u e => by
  by_cases hb : b = l
  · subst hb; rw [upd_same] at e; cases e; exact new
  · rw [upd_ne hb] at e
    refine (ok b u e).stay (fun c v _ q => q) (fun c q => ?_) fun c xs q => ?_
    · rw [upd_ne (fun z => by subst z; rw [hx] at q; exact n1 _ (Option.some.inj q))]; exact q
    · rw [upd_ne (fun z => by subst z; rw [hx] at q; exact n2 _ (Option.some.inj q))]; exact q
theorem upd_id (hx : H l = some o) : upd H l o = H := by
  funext b
  by_cases hb : b = l
  · rw [hb, upd_same, hx]
  · rw [upd_ne hb]
theorem dk_open (ok : HOk P w H h) (hx : H l = some (DkO l)) : ∃ ns : List Int, ns.length ≤ 100000 ∧ HOk P w (upd H l (.lst (ns.map V.int))) h := by
  have x : ObjOk P w H h l (.ext (Ints l)) := ok l _ hx
  obtain ⟨⟨ns, hn, its, n, r, e⟩, _, _⟩ := x
  refine ⟨ns, hn, retag ok hx (fun y z => by cases z) (fun y z => by cases z) ?_⟩
  exact ⟨by rw [List.length_map]; exact sz5 hn, its, n, r, e⟩
theorem dk_close {ns : List Int} (ok : HOk P w H h) (hx : H l = some (.lst (ns.map V.int))) (hn : ns.length ≤ 100000) : HOk P w (upd H l (DkO l)) h := by
  have x : ObjOk P w H h l (.lst (ns.map V.int)) := ok l _ hx
  obtain ⟨_, its, n, r, e⟩ := x
  refine retag ok hx (fun y z => by cases z) (fun y z => by cases z) ?_
  exact ⟨⟨ns, hn, its, n, r, e⟩, ⟨_, e⟩, fun h1 h2 z k => by
    obtain ⟨ms, hm, its', n', r', e'⟩ := z
    exact ⟨ms, hm, its', n', r', k _ e'⟩⟩
/-- untouched: another word at l on either side -/
theorem un_left {o1 : HO} (u : Un fs ex (upd H l o1) H' h h') (hx : H l = some o) (n2 : ∀ xs, o ≠ .tup xs) (n3 : ∀ o' v, o ≠ .frz o' v) (n4 : ∀ ps, o ≠ .tbl ps) : Un fs ex H H' h h' where
  keep := fun b q e n hb he => u.keep b q e (by rw [upd_ne (fun z => by subst z; rw [hx] at n; cases n)]; exact n) hb he
  slot := fun b q e n hb he => u.slot b q e (by rw [upd_ne (fun z => by subst z; rw [hx] at n; cases n)]; exact n) hb he
  free := fun b q e n he => u.free b q e (by rw [upd_ne (fun z => by subst z; rw [hx] at n; cases n)]; exact n) he
  there := u.there
  tups := fun b xs q => u.tups b xs (by rw [upd_ne (fun z => by subst z; rw [hx] at q; exact n2 _ (Option.some.inj q))]; exact q)
  frzs := fun b o v q => u.frzs b o v (by rw [upd_ne (fun z => by subst z; rw [hx] at q; exact n3 _ _ (Option.some.inj q))]; exact q)
  tbls := fun b ps q => u.tbls b ps (by rw [upd_ne (fun z => by subst z; rw [hx] at q; exact n4 _ (Option.some.inj q))]; exact q)
theorem un_right {o1 : HO} (u : Un fs ex H H' h h') (hx : H' l = some o) (n2 : ∀ xs, o ≠ .tup xs) (n3 : ∀ o' v, o ≠ .frz o' v) (n4 : ∀ ps, o ≠ .tbl ps) : Un fs ex H (upd H' l o1) h h' where
  keep := u.keep
  slot := u.slot
  free := fun b q e n he => by
    have z := u.free b q e n he
    rw [upd_ne (fun y => by subst y; rw [hx] at z; cases z)]; exact z
  there := u.there
  tups := fun b xs q => by
    have z := u.tups b xs q
    rw [upd_ne (fun y => by subst y; rw [hx] at z; exact n2 _ (Option.some.inj z))]; exact z
  frzs := fun b o v q => by
    have z := u.frzs b o v q
    rw [upd_ne (fun y => by subst y; rw [hx] at z; exact n3 _ _ (Option.some.inj z))]; exact z
  tbls := fun b ps q => by
    obtain ⟨m, z⟩ := u.tbls b ps q
    exact ⟨m, by rw [upd_ne (fun y => by subst y; rw [hx] at z; exact n4 _ (Option.some.inj z))]; exact z⟩
end
/-- take(deck, many), told of the list | of a deck -/
def spTakeC : Sp := fun vs H Q _ => ∃ (l : Addr) (ns : List Int) (m : Int), vs = [.ref l, .int m] ∧ H l = some (.lst (ns.map V.int)) ∧ ns.length ≤ 100000 ∧ 0 < m ∧
  ∀ (k : Int) (ns' : List Int), 0 ≤ k → k < m → ns'.length ≤ 100000 → Q (.int k) (upd H l (.lst (ns'.map V.int)))
def spTake : Sp := fun vs H Q _ => ∃ (l : Addr) (m : Int), vs = [.ref l, .int m] ∧ H l = some (DkO l) ∧ 0 < m ∧ ∀ k : Int, 0 ≤ k → k < m → Q (.int k) H
/-- deck(script, cells, each), told of the list | of a deck -/
def spDeckC (K : PySem.W.Frag) : Sp := fun vs H Q _ => ∃ (a : Addr) (ns : List Int) (c e : Int), vs = [.ref a, .int c, .int e] ∧ SqL K H a (ns.map V.int) ∧ ns.length ≤ 63 ∧ 0 ≤ c ∧ 0 ≤ e ∧ c ≤ 64 ∧ e ≤ 64 ∧
  ∀ (l : Addr) (ms : List Int) (H' : Hp), H l = none → H' = upd H l (.lst (ms.map V.int)) → ms.length ≤ 100000 → Q (.ref l) H'
def spDeck (K : PySem.W.Frag) : Sp := fun vs H Q _ => ∃ (a : Addr) (ns : List Int) (c e : Int), vs = [.ref a, .int c, .int e] ∧ SqL K H a (ns.map V.int) ∧ ns.length ≤ 63 ∧ 0 ≤ c ∧ 0 ≤ e ∧ c ≤ 64 ∧ e ≤ 64 ∧
  ∀ (l : Addr), H l = none → Q (.ref l) (upd H l (DkO l))
section
variable {P : Program} {w : World} {K : PySem.W.Frag} {mg : Str → Option Value} {base : Heap} {k : Nat} {f : Addr} {fd : FuncData} {ps : List Str}
theorem dk_tup {l : Addr} (xs : List V) : DkO l ≠ .tup xs := fun z => by
  have z' : HO.ext _ = HO.tup xs := z
  cases z'
theorem dk_frz {l : Addr} (o : Obj) (v : HO) : DkO l ≠ .frz o v := fun z => by
  have z' : HO.ext _ = HO.frz o v := z
  cases z'
theorem dk_tbl {l : Addr} (xs : Array Value) : DkO l ≠ .tbl xs := fun z => by
  have z' : HO.ext _ = HO.tbl xs := z
  cases z'
theorem ok_take (F : FnOk P w K mg base CX0 k f fd ps spTakeC) : FnOk P w K mg base CX0 k f fd ps spTake where
  len := fun vs H Q E h => by
    obtain ⟨l, m, e, h1, h2, h3⟩ := h
    exact F.len vs (upd H l (.lst (([] : List Int).map V.int))) (fun _ _ => True) E ⟨l, [], m, e, upd_same, by decide, h2, fun _ _ _ _ _ => trivial⟩
  run := fun A outer s H args us vs Q E hr he hb hv h => by
    obtain ⟨l, m, e, h1, h2, h3⟩ := h
    obtain ⟨ns, hn, ok⟩ := dk_open he.hok h1
    have nb : ∀ b, H b = none → b ≠ l := fun b n z => by rw [z, h1] at n; cases n
    have he1 : Env0 P w K mg base A outer s (upd H l (.lst (ns.map V.int))) := ⟨he.frames, he.mod, fun b o q => ⟨(he.bs b o q).1, by rw [upd_ne (nb b (he.bs b o q).2)]; exact (he.bs b o q).2⟩, he.bsz, he.funs, fun b q => by rw [upd_ne (nb b (he.frf b q))]; exact he.frf b q, ok, he.bare⟩
    refine codeAny_mono (F.run A outer s _ args us vs (fun v H1 => ∃ ns' : List Int, ns'.length ≤ 100000 ∧ H1 = upd H l (.lst (ns'.map V.int)) ∧ Q v H) E hr he1 hb hv ⟨l, ns, m, e, upd_same, hn, h2, fun k ns' k0 k1 hl => ⟨ns', hl, by rw [upd_upd], h3 k k0 k1⟩⟩) fun r s' q => ?_
    cases r with
    | error e => exact q
    | ok fl =>
      cases fl with
      | ret u =>
        obtain ⟨v, H1, os, bare, un, hok, rv, ns', hl, e1, q⟩ := q
        subst e1
        have g : upd (upd H l (.lst (ns'.map V.int))) l (DkO l) = H := by rw [upd_upd]; exact upd_id h1
        have hok' := dk_close hok upd_same hl
        have un1 := un_left un h1 dk_tup dk_frz dk_tbl
        have un2 := un_right (o1 := DkO l) un1 upd_same (fun _ z => by cases z) (fun _ _ z => by cases z) (fun _ z => by cases z)
        rw [g] at hok' un2
        exact ⟨v, H, os, bare, un2, hok', rv, q⟩
      | next => exact q
      | brk => exact q
      | cont => exact q
theorem ok_deck (F : FnOk P w K mg base CX0 k f fd ps (spDeckC K)) : FnOk P w K mg base CX0 k f fd ps (spDeck K) where
  len := fun vs H Q E h => by
    obtain ⟨a, ns, c, e, h1, h2, h3, h4, h5, h6, h7, h8⟩ := h
    exact F.len vs H (fun _ _ => True) E ⟨a, ns, c, e, h1, h2, h3, h4, h5, h6, h7, fun _ _ _ _ _ _ => trivial⟩
  run := fun A outer s H args us vs Q E hr he hb hv h => by
    obtain ⟨a, ns, c, e, h1, h2, h3, h4, h5, h6, h7, h8⟩ := h
    refine codeAny_mono (F.run A outer s _ args us vs (fun v H1 => ∃ (l : Addr) (ms : List Int), ms.length ≤ 100000 ∧ H l = none ∧ H1 = upd H l (.lst (ms.map V.int)) ∧ v = .ref l) E hr he hb hv ⟨a, ns, c, e, h1, h2, h3, h4, h5, h6, h7, fun l ms H' n e q => ⟨l, ms, q, n, e, rfl⟩⟩) fun r s' q => ?_
    cases r with
    | error e => exact q
    | ok fl =>
      cases fl with
      | ret u =>
        obtain ⟨v, H1, os, bare, un, hok, rv, l, ms, hl, n, e1, ev⟩ := q
        subst e1
        subst ev
        have hok' := dk_close hok upd_same hl
        have un2 := un_right (o1 := DkO l) un upd_same (fun _ z => by cases z) (fun _ _ z => by cases z) (fun _ z => by cases z)
        rw [upd_upd] at hok' un2
        exact ⟨.ref l, _, os, bare, un2, hok', rv, h8 l n⟩
      | next => exact q
      | brk => exact q
      | cont => exact q
end
end Dk

/-! readings, one rule a construct, for a walk by `first` -/
namespace Rd
open PySem PySem.Spec PyProof.Rows L2 Evl Dk
section
variable {σ σ' : L2.St} {H H' H1 : Hp} {Q : VK} {v x y z : V} {ta tb te tc : TE} {K : PySem.W.Frag} {i j : Int} {D : Ends} {t u : TS} {ct cu : TT} {QB : Bool → Hp → Prop} {QA : List V → Hp → Prop} {al bl : TA} {xs ys : List V} {a l C dx : Addr} {fs : List (Str × V)} {A B : Prop} {r : R2}
theorem var {n : Nat} (h : σ[n]? = some (some v)) (q : Q v H) : tVar n σ H Q := ⟨v, h, q⟩
theorem c (q : Q v H) : tC v σ H Q := q
theorem op (h : ta σ H fun x H1 => tb σ H1 fun y H2 => r x y H2 Q) : tOp r ta tb σ H Q := h
theorem un {r : V → Hp → VK → Prop} (h : ta σ H fun x H1 => r x H1 Q) : tUn r ta σ H Q := h
theorem i0 {g : Int → Int → V} (q : Q (g i j) H) : rI0 g (.int i) (.int j) H Q := ⟨i, j, rfl, rfl, q⟩
theorem i1 {C : Int → Int → Prop} {g : Int → Int → V} (c : C i j) (q : Q (g i j) H) : rI C g (.int i) (.int j) H Q := ⟨i, j, rfl, rfl, c, q⟩
theorem u0 {g : Int → V} (q : Q (g i) H) : rU g (.int i) H Q := ⟨i, rfl, q⟩
theorem dI : decide (V.int i = V.int j) = decide (i = j) := decide_eq_decide.mpr ⟨V.int.inj, congrArg V.int⟩
theorem dS {s t : Str} : decide (V.str s = V.str t) = decide (s = t) := decide_eq_decide.mpr ⟨V.str.inj, congrArg V.str⟩
theorem dB {s t : Bool} : decide (V.bl s = V.bl t) = decide (s = t) := decide_eq_decide.mpr ⟨V.bl.inj, congrArg V.bl⟩
theorem eqI (q : Q (.bl (decide (i = j))) H) : rEq (.int i) (.int j) H Q := ⟨rfl, by rw [dI]; exact q⟩
theorem neI (q : Q (.bl (!decide (i = j))) H) : rNe (.int i) (.int j) H Q := ⟨rfl, by rw [dI]; exact q⟩
theorem eqS {s t : Str} (q : Q (.bl (decide (s = t))) H) : rEq (.str s) (.str t) H Q := ⟨rfl, by rw [dS]; exact q⟩
theorem neS {s t : Str} (q : Q (.bl (!decide (s = t))) H) : rNe (.str s) (.str t) H Q := ⟨rfl, by rw [dS]; exact q⟩
theorem eqX (h : scal x y = true) (q : Q (.bl (decide (x = y))) H) : rEq x y H Q := ⟨h, q⟩
theorem neX (h : scal x y = true) (q : Q (.bl (!decide (x = y))) H) : rNe x y H Q := ⟨h, q⟩
theorem isN (q : Q (.bl (decide (x = .non))) H) : rIsN x .non H Q := ⟨rfl, q⟩
theorem notN (q : Q (.bl (!decide (x = .non))) H) : rNotN x .non H Q := ⟨rfl, q⟩
theorem isN_non (q : Q (.bl true) H) : rIsN .non .non H Q := ⟨rfl, q⟩
theorem notN_non (q : Q (.bl false) H) : rNotN .non .non H Q := ⟨rfl, q⟩
theorem isN_int (q : Q (.bl false) H) : rIsN (.int i) .non H Q := ⟨rfl, q⟩
theorem notN_int (q : Q (.bl true) H) : rNotN (.int i) .non H Q := ⟨rfl, q⟩
theorem isN_ref (q : Q (.bl false) H) : rIsN (.ref a) .non H Q := ⟨rfl, q⟩
theorem notN_ref (q : Q (.bl true) H) : rNotN (.ref a) .non H Q := ⟨rfl, q⟩
theorem isN_str {s : Str} (q : Q (.bl false) H) : rIsN (.str s) .non H Q := ⟨rfl, q⟩
theorem notN_str {s : Str} (q : Q (.bl true) H) : rNotN (.str s) .non H Q := ⟨rfl, q⟩
/-- a value that must be a truth value -/
def xT (x : V) (H : Hp) (Q : Bool → Hp → Prop) : Prop := ∃ k, x = .bl k ∧ Q k H
theorem xt {b : Bool} (q : QB b H) : xT (.bl b) H QB := ⟨b, rfl, q⟩
theorem test (h : te σ H fun x H' => xT x H' QB) : tTest te σ H QB := h
theorem tbv (h : te σ H fun x H' => xT x H' QB) : tB te σ H QB := h
theorem andT (h : ct σ H fun c H1 => if c = true then cu σ H1 QB else QB false H1) : tAnd ct cu σ H QB := h
theorem orT (h : ct σ H fun c H1 => if c = true then QB true H1 else cu σ H1 QB) : tOr ct cu σ H QB := h
theorem notT (h : ct σ H fun c H1 => QB (!c) H1) : tNot ct σ H QB := h
theorem andV (h : ta σ H fun x H1 => xT x H1 fun c H1 => if c = true then te σ H1 Q else Q (.bl false) H1) : tAndV ta te σ H Q := h
theorem orV (h : ta σ H fun x H1 => xT x H1 fun c H1 => if c = true then Q (.bl true) H1 else te σ H1 Q) : tOrV ta te σ H Q := h
theorem notV (h : ta σ H fun x H1 => xT x H1 fun c H1 => Q (.bl (!c)) H1) : tNotV ta σ H Q := h
theorem ifE (h : ct σ H fun c H1 => if c = true then ta σ H1 Q else tb σ H1 Q) : tIf ct ta tb σ H Q := h
theorem chain {r r' : R2} (h : ta σ H fun x H1 => tb σ H1 fun y H2 => r x y H2 fun z H3 => xT z H3 fun k H3 => if k = true then tc σ H3 fun w H4 => r' y w H4 Q else Q (.bl false) H3) : tChain r r' ta tb tc σ H Q := h
theorem ifT {p : Prop} [Decidable p] (hp : p) (h : A) : if decide p = true then A else B := by rw [if_pos (decide_eq_true hp)]; exact h
theorem ifF {p : Prop} [Decidable p] (hp : ¬ p) (h : B) : if decide p = true then A else B := by rw [decide_eq_false hp, if_neg Bool.false_ne_true]; exact h
theorem ifd {p : Prop} [Decidable p] (h1 : p → A) (h2 : ¬ p → B) : if decide p = true then A else B := by
  by_cases hp : p
  · exact ifT hp (h1 hp)
  · exact ifF hp (h2 hp)
theorem ifNT {p : Prop} [Decidable p] (hp : ¬ p) (h : A) : if (!decide p) = true then A else B := by rw [decide_eq_false hp]; exact iteT h
theorem ifNF {p : Prop} [Decidable p] (hp : p) (h : B) : if (!decide p) = true then A else B := by rw [decide_eq_true hp]; exact iteF h
theorem ifNd {p : Prop} [Decidable p] (h1 : ¬ p → A) (h2 : p → B) : if (!decide p) = true then A else B := by
  by_cases hp : p
  · exact ifNF hp (h2 hp)
  · exact ifNT hp (h1 hp)
theorem ifTT (h : A) : if true = true then A else B := iteT h
theorem ifFF (h : B) : if false = true then A else B := iteF h
theorem ifNTT (h : A) : if (!false) = true then A else B := iteT h
theorem ifNFF (h : B) : if (!true) = true then A else B := iteF h
theorem ifNN {b : Bool} (h : if b = true then A else B) : if (!!b) = true then A else B := by rw [Bool.not_not]; exact h
theorem ifb {b : Bool} (h1 : b = true → A) (h2 : b = false → B) : if b = true then A else B := by
  cases b with
  | true => exact iteT (h1 rfl)
  | false => exact iteF (h2 rfl)
theorem ifbT {b : Bool} (hb : b = true) (h : A) : if b = true then A else B := by rw [hb]; exact iteT h
theorem ifbF {b : Bool} (hb : b = false) (h : B) : if b = true then A else B := by rw [hb]; exact iteF h
theorem ifNbT {b : Bool} (hb : b = false) (h : A) : if (!b) = true then A else B := by rw [hb]; exact iteT h
theorem ifNbF {b : Bool} (hb : b = true) (h : B) : if (!b) = true then A else B := by rw [hb]; exact iteF h
-- statements
theorem seq (h : t { D with nx := u D } σ H) : tSeq t u D σ H := h
theorem ifS (h : ct σ H fun b H1 => if b = true then t D σ H1 else u D σ H1) : tIfS ct t u D σ H := h
theorem asg {g : TG} (h : te σ H fun x H1 => g x σ H1 D.nx) : tAsg te g D σ H := h
theorem gnm {n : Nat} {Q : L2.St → Hp → Prop} (h : Q (σ.set n (some v)) H) : gName n v σ H Q := h
theorem ret (h : te σ H D.rt) : tRet te D σ H := h
theorem retN (h : D.rt .non H) : tRetN D σ H := h
theorem drop (h : te σ H fun _ H1 => D.nx σ H1) : tDrop te D σ H := h
theorem nxt (h : D.nx σ H) : tNext D σ H := h
theorem brk (h : D.bk σ H) : tBreak D σ H := h
theorem cnt (h : D.ct σ H) : tCont D σ H := h
theorem aug {n : Nat} {ti : TIp} (hx : σ[n]? = some (some x)) (h : te σ H fun y H1 => ti x y H1 fun z H2 => D.nx (σ.set n (some z)) H2) : tAug n te ti D σ H := ⟨x, hx, h⟩
theorem ipi {f : Int → Int → Int} (q : Q (.int (f i j)) H) : ipI f (.int i) (.int j) H Q := ⟨i, j, rfl, rfl, q⟩
theorem par {n m : Nat} (h : al σ H fun vs H1 => ∃ v w, vs = [v, w] ∧ D.nx ((σ.set n (some v)).set m (some w)) H1) : tPar n m al D σ H := h
theorem par2 {N : V → V → Prop} {w : V} (h : N v w) : ∃ v' w', [v, w] = [v', w'] ∧ N v' w' := ⟨v, w, rfl, h⟩
/-- targets: a tuple to names -/
theorem gtup {n : Nat} {g : TGs} {Q : L2.St → Hp → Prop} (h : SqT K H a xs) (hn : xs.length = n) (q : g xs σ H Q) : gTup K n g (.ref a) σ H Q := ⟨a, xs, rfl, h, hn, q⟩
theorem gcons {g : TG} {gs : TGs} {Q : L2.St → Hp → Prop} (q : g v σ H fun σ' H' => gs xs σ' H' Q) : gCons g gs (v :: xs) σ H Q := ⟨v, xs, rfl, q⟩
theorem gnil {Q : L2.St → Hp → Prop} (q : Q σ H) : gNil [] σ H Q := ⟨rfl, q⟩
theorem gsub {te2 : TE} {ts : TSet} {Q : L2.St → Hp → Prop} (h : te σ H fun o H1 => te2 σ H1 fun i H2 => ts o i v H2 fun H3 => Q σ H3) : gSub te te2 ts v σ H Q := h
theorem setL {R : Hp → Prop} {n : Nat} (h : H l = some (.lst xs)) (hi : ixN xs.length i = some n) (q : R (upd H l (.lst (xs.set n v)))) : rSetL (.ref l) (.int i) v H R := ⟨l, xs, i, n, rfl, rfl, h, hi, q⟩
-- arguments
theorem nil (q : QA [] H) : tNil σ H QA := q
theorem cons (h : ta σ H fun x H1 => al σ H1 fun xs H2 => QA (x :: xs) H2) : tCons ta al σ H QA := h
theorem cb {r : List V → Hp → VK → Prop} (h : al σ H fun vs H1 => r vs H1 Q) : tCB r al σ H Q := h
theorem call {sp : Sp} {dvs : List V} {E : XK} (h : al σ H fun vs H1 => sp (vs ++ dvs) H1 Q E) : tCall sp dvs E al σ H Q := h
-- displays
def xTup (xs : List V) (H : Hp) (Q : VK) : Prop := xs.length ≤ sizeLine ∧ ∀ p, H p = none → Q (.ref p) (upd H p (.tup xs))
def xLst (xs : List V) (H : Hp) (Q : VK) : Prop := xs.length ≤ sizeLine ∧ ∀ p, H p = none → Q (.ref p) (upd H p (.lst xs))
theorem tup (h : al σ H fun xs H1 => xTup xs H1 Q) : tTup al σ H Q := h
theorem lst (h : al σ H fun xs H1 => xLst xs H1 Q) : tLst al σ H Q := h
theorem sz_le {n : Nat} (h : Nat.ble n 100000 = true) : n ≤ sizeLine := Dk.sz5 (Nat.le_of_ble_eq_true h)
theorem xtup (n : Nat.ble xs.length 100000 = true) (q : ∀ p H', H p = none → Ex H H' → H' p = some (.tup xs) → Q (.ref p) H') : xTup xs H Q := ⟨sz_le n, fun p hp => q p _ hp (Ex.new hp) upd_same⟩
theorem xlst (n : Nat.ble xs.length 100000 = true) (q : ∀ p H', H p = none → Ex H H' → H' p = some (.lst xs) → Q (.ref p) H') : xLst xs H Q := ⟨sz_le n, fun p hp => q p _ hp (Ex.new hp) upd_same⟩
theorem xlstU (n : Nat.ble xs.length 100000 = true) (q : ∀ p, H p = none → Q (.ref p) (upd H p (.lst xs))) : xLst xs H Q := ⟨sz_le n, q⟩
-- subscripts
theorem ixL (h : SqL K H l xs) (ha : atI xs i = some v) (q : Q v H) : rIxL K (.ref l) (.int i) H Q := ⟨l, xs, i, v, rfl, rfl, h, ha, q⟩
theorem ixT (h : SqT K H l xs) (ha : atI xs i = some v) (q : Q v H) : rIxT K (.ref l) (.int i) H Q := ⟨l, xs, i, v, rfl, rfl, h, ha, q⟩
-- fields
def rFld (K : PySem.W.Frag) (f : Str) (x : V) (H : Hp) (Q : VK) : Prop := ∃ a C dx fs v, x = .ref a ∧ H a = some (.ins C dx fs) ∧ Cls K C ∧ NoAttr K C f ∧ fs.lookup f = some v ∧ Q v H
theorem fld {f : Str} (h : ta σ H fun x H1 => rFld K f x H1 Q) : tFld K ta f σ H Q := h
theorem rfld {f : Str} (h : H a = some (.ins C dx fs)) (c : Cls K C) (n : NoAttr K C f) (lk : fs.lookup f = some v) (q : Q v H) : rFld K f (.ref a) H Q := ⟨a, C, dx, fs, v, rfl, h, c, n, lk, q⟩
def rSt (K : PySem.W.Frag) (f : Str) (v x : V) (H : Hp) (N : Hp → Prop) : Prop := ∃ a C dx fs, x = .ref a ∧ H a = some (.ins C dx fs) ∧ Cls K C ∧ NoAttr K C f ∧ fs.length < 1000 ∧ N (upd H a (.ins C dx (putF f v fs)))
-- methods
def xMeth (C : Addr) (m : Str) (x : V) (H : Hp) (P : Prop) : Prop := ∃ a dx fs, x = .ref a ∧ H a = some (.ins C dx fs) ∧ fs.lookup m = none ∧ P
theorem meth {m : Str} {sp : Sp} {dvs : List V} {E : XK} (h : ta σ H fun x H1 => xMeth C m x H1 (al σ H1 fun vs H2 => sp (x :: (vs ++ dvs)) H2 Q E)) : tMeth C m sp dvs E ta al σ H Q :=
  h
def xTy (K : PySem.W.Frag) (T : String) (x : V) (H : Hp) (P : Prop) : Prop := tyV K T x H ∧ P
theorem bm {T : String} {r : V → List V → Hp → VK → Prop} (h : te σ H fun x H1 => xTy K T x H1 (al σ H1 fun xs H2 => r x xs H2 Q)) : tBM K T r te al σ H Q := h
theorem bm0 {T : String} {r : V → List V → Hp → VK → Prop} (h : te σ H fun x H1 => xTy K T x H1 (r x [] H1 Q)) : tBM0 K T r te σ H Q := h
theorem xtyL {P : Prop} (h : SqL K H l xs) (p : P) : xTy K "list" (.ref l) H P := ⟨.inl ⟨rfl, _, h⟩, p⟩
theorem append (h : H l = some (.lst xs)) (n : xs.length < 100000) (q : Q .non (upd H l (.lst (xs ++ [v])))) : rAppend (.ref l) [v] H Q := ⟨l, xs, v, rfl, rfl, h, sz_lt n, q⟩
theorem reverse (h : H l = some (.lst xs)) (q : Q .non (upd H l (.lst xs.reverse))) : rReverse (.ref l) [] H Q := ⟨l, xs, rfl, rfl, h, q⟩
theorem pop (h : H l = some (.lst xs)) (hl : xs[xs.length - 1]? = some y) (q : Q y (upd H l (.lst xs.dropLast))) : rPop (.ref l) [] H Q := ⟨l, xs, y, rfl, rfl, h, hl, q⟩
end
end Rd
namespace L2
open PySem PySem.Spec PyProof.Rows
section
variable {X : Cx}
def rLen (K : PySem.W.Frag) : List V → Hp → VK → Prop := fun xs H Q => ∃ p ys, xs = [.ref p] ∧ (SqL K H p ys ∨ SqT K H p ys) ∧ Q (.int ys.length) H
theorem c_len : CallR X (.builtin "len") (rLen X.K) := call_len_seq
def rLenStr : List V → Hp → VK → Prop := fun xs H Q => ∃ z, xs = [.str z] ∧ z.length ≤ sizeLine ∧ Q (.int z.length) H
theorem c_lenS : CallR X (.builtin "len") rLenStr := call_len_str
def rAbs : List V → Hp → VK → Prop := fun xs H Q => ∃ i, xs = [.int i] ∧ Q (.int (if i < 0 then -i else i)) H
theorem c_abs : CallR X (.builtin "abs") rAbs := call_abs
def rInt1 : List V → Hp → VK → Prop := fun xs H Q => (∃ i, xs = [.int i] ∧ Q (.int i) H) ∨ ∃ k, xs = [.bl k] ∧ Q (.int (if k then 1 else 0)) H
theorem c_int : CallR X (.type "int") rInt1 := call_int1
def rListOf (K : PySem.W.Frag) : List V → Hp → VK → Prop := fun xs H Q => ∃ p ys, xs = [.ref p] ∧ (SqL K H p ys ∨ SqT K H p ys) ∧ ∀ l, H l = none → Q (.ref l) (upd H l (.lst ys))
theorem c_list : CallR X (.type "list") (rListOf X.K) := call_list_of
def rMax2 : List V → Hp → VK → Prop := fun xs H Q => ∃ i j, xs = [.int i, .int j] ∧ Q (.int (if j > i then j else i)) H
theorem c_max2 (hc : X.calm = true) : CallR X (.builtin "max") rMax2 := call_max2 hc
def rMin2 : List V → Hp → VK → Prop := fun xs H Q => ∃ i j, xs = [.int i, .int j] ∧ Q (.int (if j < i then j else i)) H
theorem c_min2 (hc : X.calm = true) : CallR X (.builtin "min") rMin2 := call_min2 hc
end
end L2
namespace Rd
open PySem PySem.Spec PyProof.Rows L2 Evl Dk
section
variable {σ : L2.St} {H : Hp} {Q : VK} {x : V} {K : PySem.W.Frag} {i j : Int} {xs : List V} {l : Addr}
theorem len (h : SqL K H l xs) (q : Q (.int xs.length) H) : L2.rLen K [.ref l] H Q := ⟨l, xs, rfl, .inl h, q⟩
theorem lenT (h : SqT K H l xs) (q : Q (.int xs.length) H) : L2.rLen K [.ref l] H Q := ⟨l, xs, rfl, .inr h, q⟩
theorem lenS {s : Str} (h : s.length ≤ 100000) (q : Q (.int s.length) H) : L2.rLenStr [.str s] H Q := ⟨s, rfl, sz_of h, q⟩
theorem abs (q : Q (.int (if i < 0 then -i else i)) H) : rAbs [.int i] H Q := ⟨i, rfl, q⟩
theorem int (q : Q (.int i) H) : rInt1 [.int i] H Q := .inl ⟨i, rfl, q⟩
theorem intB {k : Bool} (q : Q (.int (if k then 1 else 0)) H) : rInt1 [.bl k] H Q := .inr ⟨k, rfl, q⟩
theorem listOf (h : SqL K H l xs) (q : ∀ p H', H p = none → Ex H H' → H' p = some (.lst xs) → Q (.ref p) H') : rListOf K [.ref l] H Q := ⟨l, xs, rfl, .inl h, fun p hp => q p _ hp (Ex.new hp) upd_same⟩
theorem listOfU (h : SqL K H l xs) (q : ∀ p, H p = none → Q (.ref p) (upd H p (.lst xs))) : rListOf K [.ref l] H Q := ⟨l, xs, rfl, .inl h, q⟩
theorem max2 (q : Q (.int (if j > i then j else i)) H) : L2.rMax2 [.int i, .int j] H Q := ⟨i, j, rfl, q⟩
theorem min2 (q : Q (.int (if j < i then j else i)) H) : L2.rMin2 [.int i, .int j] H Q := ⟨i, j, rfl, q⟩
theorem take {m : Int} {E : XK} (h : H l = some (DkO l)) (hm : 0 < m) (q : ∀ k : Int, 0 ≤ k → k < m → Q (.int k) H) : spTake ([.ref l, .int m] ++ []) H Q E := ⟨l, m, rfl, h, hm, q⟩
end
end Rd
/-! ### data of any depth: what it is made of, and that it stays -/
namespace Dt
open PySem PySem.Spec PyProof.Rows L2 Evl
section
variable {K : PySem.W.Frag} {H H' : Hp} {v : V} {xs vs : List V} {d : PyData} {ds : List PyData} {a : Addr}
mutual
theorem mono (e : Ex H H') : ∀ (d : PyData) (v : V), Dp K H v d → Dp K H' v d
  | .none, _, h => by cases h; exact .non
  | .bool b, _, h => by cases h; exact .bl b
  | .int i, _, h => by cases h; exact .int i
  | .str x, _, h => by cases h; exact .str x
  | .list ds, _, h => by
    cases h with
    | lst hs ha => exact .lst (ex_l e hs) (monoAll e ds _ ha)
  | .tuple ds, _, h => by
    cases h with
    | tup hs ha => exact .tup (ex_t e hs) (monoAll e ds _ ha)
  | .dict _, _, h => by cases h
theorem monoAll (e : Ex H H') : ∀ (ds : List PyData) (vs : List V), DpAll K H vs ds → DpAll K H' vs ds
  | [], _, h => by cases h; exact .nil
  | d :: ds, _, h => by
    cases h with
    | cons h1 h2 => exact .cons (mono e d _ h1) (monoAll e ds _ h2)
end
theorem mn (h : Dp K H v d) (e : Ex H H') : Dp K H' v d := mono e d v h
theorem mnA (h : DpAll K H vs ds) (e : Ex H H') : DpAll K H' vs ds := monoAll e ds vs h
theorem inv_l (h : Dp K H v (.list ds)) : ∃ a xs, v = .ref a ∧ SqL K H a xs ∧ DpAll K H xs ds := by
  cases h with
  | lst hs ha => exact ⟨_, _, rfl, hs, ha⟩
theorem inv_t (h : Dp K H v (.tuple ds)) : ∃ a xs, v = .ref a ∧ SqT K H a xs ∧ DpAll K H xs ds := by
  cases h with
  | tup hs ha => exact ⟨_, _, rfl, hs, ha⟩
theorem inv_i {i : Int} (h : Dp K H v (.int i)) : v = .int i := by cases h; rfl
theorem inv_s {s : Str} (h : Dp K H v (.str s)) : v = .str s := by cases h; rfl
theorem inv_b {b : Bool} (h : Dp K H v (.bool b)) : v = .bl b := by cases h; rfl
theorem inv_n (h : Dp K H v .none) : v = .non := by cases h; rfl
theorem lenA : ∀ {vs : List V} {ds : List PyData}, DpAll K H vs ds → vs.length = ds.length
  | _, [], h => by cases h; rfl
  | _, d :: ds, h => by
    cases h with
    | cons _ h2 => simp [lenA h2]
theorem getA : ∀ {vs : List V} {ds : List PyData} {i : Nat} {v : V} {d : PyData}, DpAll K H vs ds → vs[i]? = some v → ds[i]? = some d → Dp K H v d
  | _, [], _, _, _, h, _, e => by simp at e
  | _, d :: ds, 0, _, _, h, e1, e2 => by
    cases h with
    | cons h1 _ =>
      simp at e1 e2
      rw [← e1, ← e2]
      exact h1
  | _, d :: ds, i + 1, _, _, h, e1, e2 => by
    cases h with
    | cons _ h2 => exact getA (i := i) h2 (by simpa using e1) (by simpa using e2)
theorem getA1 {i : Nat} (h : DpAll K H vs ds) (e : vs[i]? = some v) : ∃ d, ds[i]? = some d ∧ Dp K H v d := by
  have hl := lenA h
  have hi : i < vs.length := (List.getElem?_eq_some_iff.mp e).1
  exact ⟨ds[i]'(by omega), List.getElem?_eq_getElem (by omega), getA h e (List.getElem?_eq_getElem (by omega))⟩
theorem getA2 {i : Nat} (h : DpAll K H vs ds) (e : ds[i]? = some d) : ∃ v, vs[i]? = some v ∧ Dp K H v d := by
  have hl := lenA h
  have hi : i < ds.length := (List.getElem?_eq_some_iff.mp e).1
  exact ⟨vs[i]'(by omega), List.getElem?_eq_getElem (by omega), getA h (List.getElem?_eq_getElem (by omega)) e⟩
theorem consA (h : Dp K H v d) (hs : DpAll K H vs ds) : DpAll K H (v :: vs) (d :: ds) := .cons h hs
theorem appA : ∀ {vs ws : List V} {ds es : List PyData}, DpAll K H vs ds → DpAll K H ws es → DpAll K H (vs ++ ws) (ds ++ es)
  | _, _, [], _, h, g => by cases h; exact g
  | _, _, d :: ds, _, h, g => by
    cases h with
    | cons h1 h2 => exact .cons h1 (appA h2 g)
theorem oneA (h : Dp K H v d) : DpAll K H [v] [d] := .cons h .nil
theorem snocA (hs : DpAll K H vs ds) (h : Dp K H v d) : DpAll K H (vs ++ [v]) (ds ++ [d]) := appA hs (oneA h)
theorem takeA : ∀ {vs : List V} {ds : List PyData} (n : Nat), DpAll K H vs ds → DpAll K H (vs.take n) (ds.take n)
  | _, _, 0, _ => .nil
  | _, [], n + 1, h => by cases h; exact .nil
  | _, d :: ds, n + 1, h => by
    cases h with
    | cons h1 h2 => exact .cons h1 (takeA n h2)
theorem intsA : ∀ (ns : List Int), DpAll K H (ns.map V.int) (ns.map PyData.int)
  | [] => .nil
  | n :: ns => .cons (.int n) (intsA ns)
theorem strsA : ∀ (ns : List Str), DpAll K H (ns.map V.str) (ns.map PyData.str)
  | [] => .nil
  | n :: ns => .cons (.str n) (strsA ns)
/-- list and tuple made -/
theorem ofL (h : H a = some (.lst vs)) (hs : DpAll K H vs ds) : Dp K H (.ref a) (.list ds) := .lst (SqL.of h) hs
theorem ofT (h : H a = some (.tup vs)) (hs : DpAll K H vs ds) : Dp K H (.ref a) (.tuple ds) := .tup (SqT.of h) hs
end
end Dt
namespace Rd
open PySem PySem.Spec PyProof.Rows L2 Evl Dk
section
variable {σ σ' : L2.St} {H H' : Hp} {Q : VK} {v x y z : V} {te : TE} {K : PySem.W.Frag} {i j lo n : Int} {D : Ends} {tb : TS} {al : TA} {xs ys : List V} {a l C dx : Addr} {d e : PyData} {g : TG}
theorem eqD (h1 : Dp K H x d) (h2 : Dp K H y e) (s1 : SeqAt.shaped d = true) (s2 : SeqAt.shaped e = true) (q : Q (.bl (PyData.eqv d e)) H) : rEqD K x y H Q := ⟨d, e, h1, h2, s1, s2, q⟩
theorem neD (h1 : Dp K H x d) (h2 : Dp K H y e) (s1 : SeqAt.shaped d = true) (s2 : SeqAt.shaped e = true) (q : Q (.bl (!PyData.eqv d e)) H) : rNeD K x y H Q := ⟨d, e, h1, h2, s1, s2, q⟩
theorem eqvRefl (s : SeqAt.shaped d = true) : PyData.eqv d d = true := SeqAt.eqv_refl d (SeqAt.canLay_of_shaped s)
theorem eqDr (h1 : Dp K H x d) (h2 : Dp K H y d) (s1 : SeqAt.shaped d = true) (q : Q (.bl true) H) : rEqD K x y H Q := ⟨d, d, h1, h2, s1, s1, by rw [eqvRefl s1]; exact q⟩
theorem neDr (h1 : Dp K H x d) (h2 : Dp K H y d) (s1 : SeqAt.shaped d = true) (q : Q (.bl false) H) : rNeD K x y H Q := ⟨d, d, h1, h2, s1, s1, by rw [eqvRefl s1]; exact q⟩
/-! isinstance -/
theorem isiTy {t T : String} {b : Bool} (h : TyOf K H x (.type t)) (k : kitB t T = some b) (q : Q (.bl b) H) : rIsi K [x, .ty T] H Q := ⟨x, .ty T, .type t, .type T, b, rfl, .ty T, .base h, kit_ty k, q⟩
theorem isiInt {T : String} {b : Bool} (k : kitB "int" T = some b) (q : Q (.bl b) H) : rIsi K [.int i, .ty T] H Q := isiTy (.int i) k q
theorem isiBl {T : String} {b c : Bool} (k : kitB "bool" T = some b) (q : Q (.bl b) H) : rIsi K [.bl c, .ty T] H Q := isiTy (.bl c) k q
theorem isiStr {T : String} {b : Bool} {s : Str} (k : kitB "str" T = some b) (q : Q (.bl b) H) : rIsi K [.str s, .ty T] H Q := isiTy (.str s) k q
theorem isiNon {T : String} {b : Bool} (k : kitB "NoneType" T = some b) (q : Q (.bl b) H) : rIsi K [.non, .ty T] H Q := isiTy .non k q
theorem isiLst {T : String} {b : Bool} (h : H a = some (.lst xs)) (k : kitB "list" T = some b) (q : Q (.bl b) H) : rIsi K [.ref a, .ty T] H Q := isiTy (.lst h) k q
theorem isiTup {T : String} {b : Bool} (h : H a = some (.tup xs)) (k : kitB "tuple" T = some b) (q : Q (.bl b) H) : rIsi K [.ref a, .ty T] H Q := isiTy (.tup h) k q
/-! loops -/
def xFR1 (g : TG) (tb : TS) (D : Ends) (σ : L2.St) (vs : List V) (H1 : Hp) : Prop := ∃ j : Int, vs = [.int j] ∧ -(2 ^ 62) ≤ j ∧ j < 2 ^ 62 ∧ ∃ W : Nat → Nat → L2.St → Hp → Prop, (∃ m, W 0 m σ H1) ∧ ∀ i m σ H, W i m σ H →
      ((Itr 0 j.toNat).stop i H ∧ D.nx σ H) ∨ ((Itr 0 j.toNat).go i H ∧ ∃ N : L2.St → Hp → Prop, (∀ σ' H', N σ' H' → ∃ m', m' < m ∧ W (i + 1) m' σ' H') ∧ ∀ x H', (Itr 0 j.toNat).yld i H x H' → g x σ H' fun σ2 H2 => tb { D with nx := N, ct := N, bk := D.nx } σ2 H2)
theorem forR1 (h : al σ H fun vs H1 => xFR1 g tb D σ vs H1) : tFor (iRng1 al) g tb D σ H := h
theorem xfr1 {k : Nat} (hb : -(2 ^ 62) ≤ n ∧ n < 2 ^ 62) (Pv : Nat → L2.St → Hp → Prop) (h0 : Pv 0 σ H)
    (hs : ∀ (i : Nat) σ' H', (i : Int) < n → Pv i σ' H' → tb { D with nx := Pv (i + 1), ct := Pv (i + 1), bk := D.nx } (σ'.set k (some (.int (i : Int)))) H') (hd : ∀ σ' H', Pv n.toNat σ' H' → D.nx σ' H') : xFR1 (gName k) tb D σ [.int n] H :=
  ⟨n, rfl, hb.1, hb.2, for_range (lo := 0) (n := n.toNat) Pv h0 (fun i σ' H' hi p => by
    have e0 : (0 : Int) + (i : Int) = (i : Int) := Int.zero_add _
    show tb { D with nx := Pv (i + 1), ct := Pv (i + 1), bk := D.nx } (σ'.set k (some (.int ((0 : Int) + (i : Int))))) H'
    rw [e0]
    exact hs i σ' H' (by omega) p) hd⟩
def xFR2 (g : TG) (tb : TS) (D : Ends) (σ : L2.St) (vs : List V) (H1 : Hp) : Prop := ∃ i0 j : Int, vs = [.int i0, .int j] ∧ (-(2 ^ 62) ≤ i0 ∧ i0 < 2 ^ 62 ∧ -(2 ^ 62) ≤ j ∧ j < 2 ^ 62) ∧ ∃ W : Nat → Nat → L2.St → Hp → Prop, (∃ m, W 0 m σ H1) ∧ ∀ i m σ H, W i m σ H →
      ((Itr i0 (j - i0).toNat).stop i H ∧ D.nx σ H) ∨ ((Itr i0 (j - i0).toNat).go i H ∧ ∃ N : L2.St → Hp → Prop, (∀ σ' H', N σ' H' → ∃ m', m' < m ∧ W (i + 1) m' σ' H') ∧ ∀ x H', (Itr i0 (j - i0).toNat).yld i H x H' → g x σ H' fun σ2 H2 => tb { D with nx := N, ct := N, bk := D.nx } σ2 H2)
theorem forR2 (h : al σ H fun vs H1 => xFR2 g tb D σ vs H1) : tFor (iRng2 al) g tb D σ H := h
theorem xfr2 {k : Nat} (hb : -(2 ^ 62) ≤ lo ∧ lo < 2 ^ 62 ∧ -(2 ^ 62) ≤ n ∧ n < 2 ^ 62) (Pv : Nat → L2.St → Hp → Prop) (h0 : Pv 0 σ H)
    (hs : ∀ (i : Nat) σ' H', lo + (i : Int) < n → Pv i σ' H' → tb { D with nx := Pv (i + 1), ct := Pv (i + 1), bk := D.nx } (σ'.set k (some (.int (lo + (i : Int))))) H') (hd : ∀ σ' H', Pv (n - lo).toNat σ' H' → D.nx σ' H') : xFR2 (gName k) tb D σ [.int lo, .int n] H :=
  ⟨lo, n, rfl, hb, for_range (lo := lo) (n := (n - lo).toNat) Pv h0 (fun i σ' H' hi p => hs i σ' H' (by omega) p) hd⟩
def xFL (K : PySem.W.Frag) (g : TG) (tb : TS) (D : Ends) (σ : L2.St) (x : V) (H1 : Hp) : Prop := ∃ a, x = .ref a ∧ (∃ xs, SqL K H1 a xs) ∧ ∃ W : Nat → Nat → L2.St → Hp → Prop, (∃ m, W 0 m σ H1) ∧ ∀ i m σ H, W i m σ H →
      ((Itl K a).stop i H ∧ D.nx σ H) ∨ ((Itl K a).go i H ∧ ∃ N : L2.St → Hp → Prop, (∀ σ' H', N σ' H' → ∃ m', m' < m ∧ W (i + 1) m' σ' H') ∧ ∀ x H', (Itl K a).yld i H x H' → g x σ H' fun σ2 H2 => tb { D with nx := N, ct := N, bk := D.nx } σ2 H2)
theorem forL (h : te σ H fun x H1 => xFL K g tb D σ x H1) : tFor (iList K te) g tb D σ H := h
theorem xfl (hx : SqL K H a xs) (Pv : Nat → L2.St → Hp → Prop) (h0 : Pv 0 σ H) (hl : ∀ i σ' H', i ≤ xs.length → Pv i σ' H' → SqL K H' a xs)
    (hs : ∀ i x σ' H', xs[i]? = some x → Pv i σ' H' → g x σ' H' fun σ2 H2 => tb { D with nx := Pv (i + 1), ct := Pv (i + 1), bk := D.nx } σ2 H2) (hd : ∀ σ' H', Pv xs.length σ' H' → D.nx σ' H') : xFL K g tb D σ (.ref a) H :=
  ⟨a, rfl, ⟨xs, hx⟩, for_list Pv h0 hl hs hd⟩
def xFT (K : PySem.W.Frag) (g : TG) (tb : TS) (D : Ends) (σ : L2.St) (x : V) (H1 : Hp) : Prop := ∃ a, x = .ref a ∧ (∃ xs, SqT K H1 a xs) ∧ ∃ W : Nat → Nat → L2.St → Hp → Prop, (∃ m, W 0 m σ H1) ∧ ∀ i m σ H, W i m σ H →
      ((Itt K a).stop i H ∧ D.nx σ H) ∨ ((Itt K a).go i H ∧ ∃ N : L2.St → Hp → Prop, (∀ σ' H', N σ' H' → ∃ m', m' < m ∧ W (i + 1) m' σ' H') ∧ ∀ x H', (Itt K a).yld i H x H' → g x σ H' fun σ2 H2 => tb { D with nx := N, ct := N, bk := D.nx } σ2 H2)
theorem forT (h : te σ H fun x H1 => xFT K g tb D σ x H1) : tFor (iTup K te) g tb D σ H := h
theorem xft (hx : SqT K H a xs) (Pv : Nat → L2.St → Hp → Prop) (h0 : Pv 0 σ H) (hl : ∀ i σ' H', i ≤ xs.length → Pv i σ' H' → SqT K H' a xs)
    (hs : ∀ i x σ' H', xs[i]? = some x → Pv i σ' H' → g x σ' H' fun σ2 H2 => tb { D with nx := Pv (i + 1), ct := Pv (i + 1), bk := D.nx } σ2 H2) (hd : ∀ σ' H', Pv xs.length σ' H' → D.nx σ' H') : xFT K g tb D σ (.ref a) H :=
  ⟨a, rfl, ⟨xs, hx⟩, for_tup Pv h0 hl hs hd⟩
/-- powers of written numbers -/
theorem pw {m : Int} (c : CPow i j) (h : i ^ j.toNat = m) (q : Q (.int m) H) : rI CPow (fun i j => .int (i ^ j.toNat)) (.int i) (.int j) H Q := i1 c (by rw [h]; exact q)
theorem atI_i {α : Type} {xs : List α} {i : Int} {v : α} (h0 : 0 ≤ i) (h : xs[i.toNat]? = some v) : atI xs i = some v := by
  have e : ((i.toNat : Nat) : Int) = i := Int.toNat_of_nonneg h0
  rw [← e]
  exact atI_nat h
end
end Rd
namespace Rd
open PySem PySem.Spec PyProof.Rows L2 Evl Dk
section
variable {σ : L2.St} {H : Hp} {v x : V} {K : PySem.W.Frag} {D : Ends} {ta te : TE} {a C dx : Addr} {fs : List (Str × V)} {f : Str}
def xSt (K : PySem.W.Frag) (f : Str) (y x : V) (H2 : Hp) (N : Hp → Prop) : Prop := ∃ a C dx fs, x = .ref a ∧ H2 a = some (.ins C dx fs) ∧ Cls K C ∧ NoAttr K C f ∧ fs.length < 1000 ∧ N (upd H2 a (.ins C dx (putF f y fs)))
theorem sfld (h : te σ H fun y H1 => ta σ H1 fun x H2 => xSt K f y x H2 fun H3 => D.nx σ H3) : sFld K ta te f D σ H := h
theorem xst {N : Hp → Prop} (h : H a = some (.ins C dx fs)) (c : Cls K C) (n : NoAttr K C f) (l : Nat.blt fs.length 1000 = true) (q : N (upd H a (.ins C dx (putF f v fs)))) : xSt K f v (.ref a) H N := ⟨a, C, dx, fs, rfl, h, c, n, Nat.le_of_ble_eq_true l, q⟩
def xMk (C : Addr) (sp : V → Hp → VK → Prop) (H : Hp) (Q : VK) : Prop := ∀ x dx, H x = none → H dx = none → dx ≠ x → sp (.ref x) (upd (upd H dx (.own x)) x (.ins C dx [])) (fun v H2 => v = .non ∧ Q (.ref x) H2)
theorem make {C : Addr} {sp : Sp} {dvs : List V} {E : XK} {al : TA} {Q : VK} (h : al σ H fun vs H1 => xMk C (fun x H2 Q2 => sp (x :: (vs ++ dvs)) H2 Q2 E) H1 Q) : tMake C sp dvs E al σ H Q := h
/-- a new instance, told by one fact -/
theorem xmk {C : Addr} {sp : V → Hp → VK → Prop} {H : Hp} {Q : VK} (h : ∀ x dx H', Ex H H' → H x = none → H' x = some (.ins C dx []) → sp (.ref x) H' (fun v H2 => v = .non ∧ Q (.ref x) H2)) : xMk C sp H Q := fun x dx nx nd ne =>
  h x dx _ (fun b o e => by rw [upd_ne (ne_of_none e nx), upd_ne (ne_of_none e nd)]; exact e) nx upd_same
theorem xmeth {m : Str} {P : Prop} (h : H a = some (.ins C dx fs)) (l : fs.lookup m = none) (p : P) : xMeth C m (.ref a) H P := ⟨a, dx, fs, rfl, h, l, p⟩
end
end Rd
namespace Dt
open PySem PySem.Spec PyProof.Rows L2 Evl
/-- no list within -/
def noL : PyData → Bool
  | .list _ => false
  | .tuple ds => ds.attach.all fun ⟨d, _⟩ => noL d
  | _ => true
section
variable {K : PySem.W.Frag} {H : Hp} {l : Addr} {ws : List V} {o : HO}
theorem sqt_upd {a : Addr} {xs : List V} (h : H l = some (.lst ws)) (s : SqT K H a xs) : SqT K (upd H l o) a xs := by
  rcases s with (s | ⟨ob, s⟩) | s
  · refine .inl (.inl ?_)
    rw [upd_ne (fun z => by subst z; rw [h] at s; cases s)]; exact s
  · refine .inl (.inr ⟨ob, ?_⟩)
    rw [upd_ne (fun z => by subst z; rw [h] at s; cases s)]; exact s
  · exact .inr s
mutual
theorem updL (h : H l = some (.lst ws)) : ∀ (d : PyData) (v : V), noL d = true → Dp K H v d → Dp K (upd H l o) v d
  | .none, _, _, h1 => by cases h1; exact .non
  | .bool b, _, _, h1 => by cases h1; exact .bl b
  | .int i, _, _, h1 => by cases h1; exact .int i
  | .str x, _, _, h1 => by cases h1; exact .str x
  | .list _, _, n, _ => by simp [noL] at n
  | .tuple ds, _, n, h1 => by
    cases h1 with
    | tup hs ha => exact .tup (sqt_upd h hs) (updLA h ds _ (by simpa [noL] using n) ha)
  | .dict _, _, _, h1 => by cases h1
theorem updLA (h : H l = some (.lst ws)) : ∀ (ds : List PyData) (vs : List V), (∀ d ∈ ds, noL d = true) → DpAll K H vs ds → DpAll K (upd H l o) vs ds
  | [], _, _, h1 => by cases h1; exact .nil
  | d :: ds, _, n, h1 => by
    cases h1 with
    | cons h2 h3 => exact .cons (updL h d _ (n d List.mem_cons_self) h2) (updLA h ds _ (fun d hd => n d (List.mem_cons_of_mem _ hd)) h3)
end
end
end Dt
namespace Rd
open PySem PySem.Spec PyProof.Rows L2 Evl Dk
/-- only x has changed, which was not there -/
theorem exBut {H H2 H' : Hp} {x : Addr} (e : Ex H H2) (n : H x = none) (s : ∀ b o, b ≠ x → H2 b = some o → H' b = some o) : Ex H H' := fun b o h => s b o (ne_of_none h n) (e b o h)
end Rd


local macro_rules | `(tactic| walk_at "hp") => `(tactic| first
  | assumption | exact L2.upd_same | (refine (by assumption : Evl.Ex _ _) _ _ ?_; walk_at "hp")
  | (refine (L2.upd_ne (by assumption)).trans ?_; walk_at "hp") | (refine (L2.upd_ne (Ne.symm (by assumption))).trans ?_; walk_at "hp") | (refine (L2.upd_ne (L2.ne_of (by assumption) (by assumption) (by intro z; cases z))).trans ?_; walk_at "hp"))
local macro_rules | `(tactic| walk_at "sq") => `(tactic| first | assumption | exact L2.SqL.of (by walk_at "hp") | exact L2.SqT.of (by walk_at "hp"))
local macro_rules | `(tactic| walk_at "rd1") => `(tactic| with_reducible first
  | refine Rd.seq ?_ | refine Rd.asg ?_ | refine Rd.gnm ?_ | refine Rd.ifS ?_ | refine Rd.ret ?_ | refine Rd.retN ?_ | refine Rd.drop ?_ | refine Rd.nxt ?_ | refine Rd.brk ?_ | refine Rd.cnt ?_
  | refine Rd.var rfl ?_ | refine Rd.c ?_ | refine Rd.op ?_ | refine Rd.i0 ?_ | refine Rd.un ?_ | refine Rd.u0 ?_
  | refine Rd.test ?_ | refine Rd.tbv ?_ | refine Rd.xt ?_ | refine Rd.andT ?_ | refine Rd.orT ?_ | refine Rd.notT ?_ | refine Rd.andV ?_ | refine Rd.orV ?_ | refine Rd.notV ?_ | refine Rd.ifE ?_ | refine Rd.chain ?_
  | refine Rd.nil ?_ | refine Rd.cons ?_ | refine Rd.cb ?_ | refine Rd.call ?_ | refine Rd.tup ?_ | refine Rd.lst ?_ | refine Rd.fld ?_ | refine Rd.meth ?_ | refine Rd.bm ?_ | refine Rd.bm0 ?_
  | refine Rd.eqI ?_ | refine Rd.neI ?_ | refine Rd.eqS ?_ | refine Rd.neS ?_ | refine Rd.isN_non ?_ | refine Rd.isN_int ?_ | refine Rd.isN_ref ?_ | refine Rd.isN_str ?_ | refine Rd.notN_non ?_ | refine Rd.notN_int ?_ | refine Rd.notN_ref ?_ | refine Rd.notN_str ?_
  | refine Rd.ifTT ?_ | refine Rd.ifFF ?_ | refine Rd.ifNTT ?_ | refine Rd.ifNFF ?_
  | refine Rd.int ?_ | refine Rd.intB ?_ | refine Rd.abs ?_ | refine Rd.max2 ?_ | refine Rd.min2 ?_
  | refine Rd.sfld ?_ | refine Rd.make ?_ | refine Rd.forR1 ?_ | refine Rd.forR2 ?_ | refine Rd.forL ?_ | refine Rd.forT ?_ | refine Rd.par ?_ | refine Rd.par2 ?_ | refine Rd.gcons ?_ | refine Rd.gnil ?_ | refine Rd.gsub ?_ | refine Rd.ipi ?_ | refine Rd.aug rfl ?_)
local macro_rules | `(tactic| walk_at "rd2") => `(tactic| first
  | ((with_reducible refine' Rd.pw (m := 1000000) (i := 10) (j := 6) ?c1 ?e1 ?_); (case c1 => exact ⟨by decide, by decide, by decide⟩); (case e1 => decide)) | ((with_reducible refine' Rd.pw (m := 1000000000000) (i := 10) (j := 12) ?c1 ?e1 ?_); (case c1 => exact ⟨by decide, by decide, by decide⟩); (case e1 => decide)) | ((with_reducible refine' Rd.pw (m := 1000000000000000000000000000000) (i := 10) (j := 30) ?c1 ?e1 ?_); (case c1 => exact ⟨by decide, by decide, by decide⟩); (case e1 => decide))
  | ((with_reducible refine' Rd.pw (m := 10000000000000000000000000000000) (i := 10) (j := 31) ?c1 ?e1 ?_); (case c1 => exact ⟨by decide, by decide, by decide⟩); (case e1 => decide)) | ((with_reducible refine' Rd.pw (m := 10000000000000000000000000000000000000000) (i := 10) (j := 40) ?c1 ?e1 ?_); (case c1 => exact ⟨by decide, by decide, by decide⟩); (case e1 => decide))
  | (with_reducible refine' Rd.isiInt (b := true) ?k1 ?_); (case k1 => rfl)
  | (with_reducible refine' Rd.isiInt (b := false) ?k1 ?_); (case k1 => rfl)
  | (with_reducible refine' Rd.isiBl (b := true) ?k1 ?_); (case k1 => rfl)
  | (with_reducible refine' Rd.isiBl (b := false) ?k1 ?_); (case k1 => rfl)
  | (with_reducible refine' Rd.isiStr (b := true) ?k1 ?_); (case k1 => rfl)
  | (with_reducible refine' Rd.isiStr (b := false) ?k1 ?_); (case k1 => rfl)
  | (with_reducible refine' Rd.isiNon (b := true) ?k1 ?_); (case k1 => rfl)
  | (with_reducible refine' Rd.isiNon (b := false) ?k1 ?_); (case k1 => rfl)
  | (with_reducible refine' Rd.isiLst (b := true) ?h1 ?k1 ?_); (case h1 => walk_at "hp"); (case k1 => rfl)
  | (with_reducible refine' Rd.isiLst (b := false) ?h1 ?k1 ?_); (case h1 => walk_at "hp"); (case k1 => rfl)
  | (with_reducible refine' Rd.isiTup (b := true) ?h1 ?k1 ?_); (case h1 => walk_at "hp"); (case k1 => rfl)
  | (with_reducible refine' Rd.isiTup (b := false) ?h1 ?k1 ?_); (case h1 => walk_at "hp"); (case k1 => rfl)
  | (with_reducible refine' Rd.i1 ?c1 ?_); (case c1 => first | assumption | (show (0 : Int) < _; omega) | decide | exact .inl (by decide) | exact .inr (by decide) | exact .inr ⟨by omega, by omega⟩ | exact .inl ⟨by omega, by omega⟩ | exact ⟨by decide, by decide⟩)
  | (with_reducible refine' Rd.len ?s1 ?_); (case s1 => walk_at "sq")
  | (with_reducible refine' Rd.lenT ?s1 ?_); (case s1 => walk_at "sq")
  | (with_reducible refine' Rd.xtyL ?s1 ?_); (case s1 => walk_at "sq")
  | (with_reducible refine' Rd.ixL ?s1 ?a1 ?_); (case s1 => walk_at "sq"); (case a1 => rfl)
  | (with_reducible refine' Rd.ixT ?s1 ?a1 ?_); (case s1 => walk_at "sq"); (case a1 => rfl)
  | (with_reducible refine' Rd.gtup ?s1 ?n1 ?_); (case s1 => walk_at "sq"); (case n1 => rfl)
  | (with_reducible refine' Rd.rfld ?h1 ?c1 ?n1 ?l1 ?_); (case h1 => walk_at "hp"); (case c1 => assumption); (case n1 => assumption); (case l1 => walk_at "lk")
  | (with_reducible refine' Rd.xmeth ?h1 ?l1 ?_); (case h1 => walk_at "hp"); (case l1 => walk_at "lk")
  | (with_reducible refine' Rd.xst ?h1 ?c1 ?n1 ?l1 ?_); (case h1 => walk_at "hp"); (case c1 => assumption); (case n1 => assumption); (case l1 => rfl)
  | (with_reducible refine' Rd.take ?h1 ?m1 ?_); (case h1 => walk_at "hp"); (case m1 => omega)
  | (with_reducible refine Rd.ifT (by omega) ?_) | (with_reducible refine Rd.ifF (by omega) ?_) | (with_reducible refine Rd.ifNT (by omega) ?_) | (with_reducible refine Rd.ifNF (by omega) ?_))
local macro_rules | `(tactic| walk_at "rd") => `(tactic| repeat (first | walk_at "rd1" | walk_at "rd2"))

namespace Toy
open PySem L2
def top (i : Nat) : Stmt := PySem.Challenge.pw_surebridge_k00_number_images.main.body.getD i (.Pass ⟨0, 0, 0, 0⟩)
abbrev s_law_take : Stmt := top 8
theorem sc_law_take : FnScope ["deck", "many"] ["deck", "many"] (defScope s_law_take) := ⟨rfl, rfl, rfl, by decide +kernel, rfl, by decide +kernel, by decide +kernel⟩
abbrev s_law_deck : Stmt := top 7
theorem sc_law_deck : FnScope ["script", "cells", "each", "deck", "seed", "k", "cell", "rest", "at"] ["script", "cells", "each"] (defScope s_law_deck) := ⟨rfl, rfl, rfl, by decide +kernel, rfl, by decide +kernel, by decide +kernel⟩
abbrev s_law_whole : Stmt := top 9
theorem sc_law_whole : FnScope ["deck", "digit", "small"] ["deck"] (defScope s_law_whole) := ⟨rfl, rfl, rfl, by decide +kernel, rfl, by decide +kernel, by decide +kernel⟩
abbrev s_law_parts : Stmt := top 10
theorem sc_law_parts : FnScope ["deck", "most", "period", "rows", "at", "row", "low", "wide"] ["deck", "most"] (defScope s_law_parts) := ⟨rfl, rfl, rfl, by decide +kernel, rfl, by decide +kernel, by decide +kernel⟩
abbrev s_law_same : Stmt := top 11
theorem sc_law_same : FnScope ["actual", "expected"] ["actual", "expected"] (defScope s_law_same) := ⟨rfl, rfl, rfl, by decide +kernel, rfl, by decide +kernel, by decide +kernel⟩
abbrev s_NumberMap_init_ : Stmt := inClass (top 5) 0
theorem sc_NumberMap_init_ : FnScope ["self", "period", "rows", "row"] ["self", "period", "rows"] (defScope s_NumberMap_init_) := ⟨rfl, rfl, rfl, by decide +kernel, rfl, by decide +kernel, by decide +kernel⟩
abbrev s_NumberMap_image : Stmt := inClass (top 5) 1
theorem sc_NumberMap_image : FnScope ["self", "x", "row"] ["self", "x"] (defScope s_NumberMap_image) := ⟨rfl, rfl, rfl, by decide +kernel, rfl, by decide +kernel, by decide +kernel⟩
abbrev s_law_own_image : Stmt := top 12
theorem sc_law_own_image : FnScope ["parts", "x", "period", "rows", "at", "quotient", "row"] ["parts", "x"] (defScope s_law_own_image) := ⟨rfl, rfl, rfl, by decide +kernel, rfl, by decide +kernel, by decide +kernel⟩
abbrev s_law_ends_right : Stmt := top 13
theorem sc_law_ends_right : FnScope ["made", "parts", "at", "period", "rows", "row", "quotient", "expected"] ["made", "parts", "at"] (defScope s_law_ends_right) := ⟨rfl, rfl, rfl, by decide +kernel, rfl, by decide +kernel, by decide +kernel⟩
abbrev s_law : Stmt := top 14
theorem sc_law : FnScope ["script", "deck", "period", "rows", "handed", "made", "at", "k", "x"] ["script"] (defScope s_law) := ⟨rfl, rfl, rfl, by decide +kernel, rfl, by decide +kernel, by decide +kernel⟩
/-- where things stand -/
structure Ad where
  a_law_take : Addr
  d_law_take : FuncData
  a_law_deck : Addr
  d_law_deck : FuncData
  a_law_whole : Addr
  d_law_whole : FuncData
  a_law_parts : Addr
  d_law_parts : FuncData
  a_law_same : Addr
  d_law_same : FuncData
  a_NumberMap_init_ : Addr
  d_NumberMap_init_ : FuncData
  a_NumberMap_image : Addr
  d_NumberMap_image : FuncData
  a_law_own_image : Addr
  d_law_own_image : FuncData
  a_law_ends_right : Addr
  d_law_ends_right : FuncData
  a_law : Addr
  d_law : FuncData
  c_NumberMap : Addr
/-- what the top has written -/
structure Txt (K : PySem.W.Frag) (mg : Str → Option Value) (ad : Ad) : Prop where
  F_law_take : Fun K "_law_take" "_law_take" s_law_take ad.a_law_take ad.d_law_take
  b_law_take : Binds K ad.d_law_take ["deck", "many"] []
  m_law_take : mg "_law_take" = some (.ref ad.a_law_take)
  F_law_deck : Fun K "_law_deck" "_law_deck" s_law_deck ad.a_law_deck ad.d_law_deck
  b_law_deck : Binds K ad.d_law_deck ["script", "cells", "each"] []
  m_law_deck : mg "_law_deck" = some (.ref ad.a_law_deck)
  F_law_whole : Fun K "_law_whole" "_law_whole" s_law_whole ad.a_law_whole ad.d_law_whole
  b_law_whole : Binds K ad.d_law_whole ["deck"] []
  m_law_whole : mg "_law_whole" = some (.ref ad.a_law_whole)
  F_law_parts : Fun K "_law_parts" "_law_parts" s_law_parts ad.a_law_parts ad.d_law_parts
  b_law_parts : Binds K ad.d_law_parts ["deck", "most"] []
  m_law_parts : mg "_law_parts" = some (.ref ad.a_law_parts)
  F_law_same : Fun K "_law_same" "_law_same" s_law_same ad.a_law_same ad.d_law_same
  b_law_same : Binds K ad.d_law_same ["actual", "expected"] []
  m_law_same : mg "_law_same" = some (.ref ad.a_law_same)
  F_NumberMap_init_ : Fun K "__init__" "NumberMap.__init__" s_NumberMap_init_ ad.a_NumberMap_init_ ad.d_NumberMap_init_
  b_NumberMap_init_ : Binds K ad.d_NumberMap_init_ ["self", "period", "rows"] []
  F_NumberMap_image : Fun K "image" "NumberMap.image" s_NumberMap_image ad.a_NumberMap_image ad.d_NumberMap_image
  b_NumberMap_image : Binds K ad.d_NumberMap_image ["self", "x"] []
  me_NumberMap_image : Meth K ad.c_NumberMap "image" ad.a_NumberMap_image
  F_law_own_image : Fun K "_law_own_image" "_law_own_image" s_law_own_image ad.a_law_own_image ad.d_law_own_image
  b_law_own_image : Binds K ad.d_law_own_image ["parts", "x"] []
  m_law_own_image : mg "_law_own_image" = some (.ref ad.a_law_own_image)
  F_law_ends_right : Fun K "_law_ends_right" "_law_ends_right" s_law_ends_right ad.a_law_ends_right ad.d_law_ends_right
  b_law_ends_right : Binds K ad.d_law_ends_right ["made", "parts", "at"] []
  m_law_ends_right : mg "_law_ends_right" = some (.ref ad.a_law_ends_right)
  F_law : Fun K "law" "law" s_law ad.a_law ad.d_law
  b_law : Binds K ad.d_law ["script"] []
  m_law : mg "law" = some (.ref ad.a_law)
  cl_NumberMap : Cls K ad.c_NumberMap
  mg_NumberMap : mg "NumberMap" = some (.ref ad.c_NumberMap)
  mk_NumberMap : Mk K ad.c_NumberMap ad.a_NumberMap_init_
  n_NumberMap_period : NoAttr K ad.c_NumberMap "period"
  n_NumberMap_rows : NoAttr K ad.c_NumberMap "rows"
  z_abs : mg "abs" = none
  z_bool : mg "bool" = none
  z_int : mg "int" = none
  z_isinstance : mg "isinstance" = none
  z_len : mg "len" = none
  z_list : mg "list" = none
  z_range : mg "range" = none
/-- the fields of NumberMap, in order -/
def fs_NumberMap (v_period v_rows : V) : List (Str × V) := [("period", v_period), ("rows", v_rows)]
theorem lk_NumberMap_period (v_period v_rows : V) : (fs_NumberMap v_period v_rows).lookup ("period" : Str) = some v_period := by rfl
theorem lk_NumberMap_rows (v_period v_rows : V) : (fs_NumberMap v_period v_rows).lookup ("rows" : Str) = some v_rows := by rfl
theorem pf_NumberMap_period (v_period : V) : putF "period" v_period ([] : List (Str × V)) = [(("period" : Str), v_period)] := by rfl
theorem pf_NumberMap_rows (v_period v_rows : V) : putF "rows" v_rows ([(("period" : Str), v_period)] : List (Str × V)) = fs_NumberMap v_period v_rows := by rfl
theorem st_NumberMap_period (v_period v_rows w : V) : putF "period" w (fs_NumberMap v_period v_rows) = fs_NumberMap w v_rows := by rfl
theorem st_NumberMap_rows (v_period v_rows w : V) : putF "rows" w (fs_NumberMap v_period v_rows) = fs_NumberMap v_period w := by rfl
theorem no_NumberMap_image (v_period v_rows : V) : (fs_NumberMap v_period v_rows).lookup ("image" : Str) = none := by rfl
local macro_rules | `(tactic| walk_at "lk") => `(tactic| first | exact Toy.lk_NumberMap_period _ _ | exact Toy.lk_NumberMap_rows _ _ | exact Toy.no_NumberMap_image _ _)
/-! ### number maps: rows as data, images -/
abbrev Row4 := Option (Int × Int × Int × Int)
def rowD : Row4 → PyData
  | none => .none
  | some (a, b, c, d) => .tuple [.int a, .int b, .int c, .int d]
def OkRow (r : Row4) : Prop := ∀ a b c d, r = some (a, b, c, d) → a.natAbs < 2 ^ 130 ∧ b.natAbs < 2 ^ 130 ∧ c.natAbs < 2 ^ 130 ∧ d.natAbs < 2 ^ 130 ∧ c ≤ d
def OkRows (rs : List Row4) : Prop := ∀ r ∈ rs, OkRow r
theorem okNil : OkRows [] := fun _ h => nomatch h
def optV : Option Int → V
  | none => .non
  | some i => .int i
def img (rs : List Row4) (x : Int) : Option Int := match rs[(x % rs.length).toNat]? with
  | some (some (a, b, c, d)) => if c ≤ x / rs.length ∧ x / rs.length ≤ d then some (a * (x / rs.length) + b) else none
  | _ => none
theorem noL_row (r : Row4) : Dt.noL (rowD r) = true := by
  cases r with
  | none => simp [rowD, Dt.noL]
  | some r => obtain ⟨a, b, c, d⟩ := r; simp [rowD, Dt.noL]
theorem rowsA_upd {K : PySem.W.Frag} {H : Hp} {l : Addr} {ws : List V} {o : HO} {vs : List V} {rs : List Row4} (h : H l = some (.lst ws)) (hd : DpAll K H vs (rs.map rowD)) : DpAll K (upd H l o) vs (rs.map rowD) :=
  Dt.updLA h _ _ (fun d hd => by obtain ⟨r, _, rfl⟩ := List.mem_map.mp hd; exact noL_row r) hd
theorem canLay_rows : ∀ rs : List Row4, PyData.canLayAll0 (rs.map rowD) = true
  | [] => rfl
  | none :: rs => by rw [List.map_cons]; show (true && PyData.canLayAll0 (rs.map rowD)) = true; rw [canLay_rows rs]; rfl
  | some (a, b, c, d) :: rs => by rw [List.map_cons]; show (true && PyData.canLayAll0 (rs.map rowD)) = true; rw [canLay_rows rs]; rfl
theorem depth_rows : ∀ rs : List Row4, PyData.depthAll (rs.map rowD) ≤ 3
  | [] => by decide
  | none :: rs => by
    have h := depth_rows rs
    rw [List.map_cons]
    simp [rowD, PyData.depthAll, PyData.depth] at h ⊢
    omega
  | some (a, b, c, d) :: rs => by
    have h := depth_rows rs
    rw [List.map_cons]
    simp [rowD, PyData.depthAll, PyData.depth] at h ⊢
    omega
theorem shaped_rows (rs : List Row4) : SeqAt.shaped (.list (rs.map rowD)) = true := by
  have h := depth_rows rs
  unfold SeqAt.shaped
  rw [show PyData.canLay0 (.list (rs.map rowD)) = PyData.canLayAll0 (rs.map rowD) from by simp [PyData.canLay0], canLay_rows]
  simp [PyData.depth]
  omega
theorem rows_get {K : PySem.W.Frag} {H : Hp} {vs : List V} {rs : List Row4} (h : DpAll K H vs (rs.map rowD)) {i : Nat} (hi : i < rs.length) : ∃ v, vs[i]? = some v ∧ Dp K H v (rowD rs[i]) :=
  Dt.getA2 h (by rw [List.getElem?_map, List.getElem?_eq_getElem hi]; rfl)
theorem row_some {K : PySem.W.Frag} {H : Hp} {v : V} {a b c d : Int} (h : Dp K H v (rowD (some (a, b, c, d)))) : ∃ p, v = .ref p ∧ SqT K H p [.int a, .int b, .int c, .int d] := by
  obtain ⟨p, xs, e, hs, hA⟩ := Dt.inv_t h
  refine ⟨p, e, ?_⟩
  cases hA with
  | cons h1 hA => cases h1; cases hA with
    | cons h1 hA => cases h1; cases hA with
      | cons h1 hA => cases h1; cases hA with
        | cons h1 hA => cases h1; cases hA; exact hs
theorem row_none {K : PySem.W.Frag} {H : Hp} {v : V} (h : Dp K H v (rowD none)) : v = .non := Dt.inv_n h
theorem emod_at {n i q : Int} (h0 : 0 ≤ i) (h1 : i < n) : (n * q + i) % n = i ∧ (n * q + i) / n = q := by
  have hn : n ≠ 0 := by omega
  constructor
  · rw [Int.add_comm, Int.add_mul_emod_self_left, Int.emod_eq_of_lt h0 h1]
  · rw [Int.add_comm, Int.add_mul_ediv_left _ _ hn, Int.ediv_eq_zero_of_lt h0 h1]; omega
theorem img_at {rs : List Row4} {i : Nat} (hi : i < rs.length) (q : Int) : img rs ((rs.length : Int) * q + i) = match rs[i]? with
    | some (some (a, b, c, d)) => if c ≤ q ∧ q ≤ d then some (a * q + b) else none
    | _ => none := by
  obtain ⟨e1, e2⟩ := emod_at (n := rs.length) (q := q) (Int.natCast_nonneg i) (by omega : (i : Int) < rs.length)
  unfold img
  rw [e1, e2]
  rfl
/-- a number map at s, with the rows rs -/
structure NumAt (K : PySem.W.Frag) (C : Addr) (H : Hp) (s : Addr) (rs : List Row4) : Prop where
  at_ : ∃ dx l vs, H s = some (.ins C dx (fs_NumberMap (.int rs.length) (.ref l))) ∧ H l = some (.lst vs) ∧ DpAll K H vs (rs.map rowD)
  pos : 1 ≤ rs.length
  top : rs.length ≤ 100000
  ok : OkRows rs
theorem NumAt.mono {K : PySem.W.Frag} {C : Addr} {H H' : Hp} {s : Addr} {rs : List Row4} (h : NumAt K C H s rs) (e : Evl.Ex H H') : NumAt K C H' s rs := by
  obtain ⟨⟨dx, l, vs, h1, h2, h3⟩, h4, h5, h6⟩ := h
  exact ⟨⟨dx, l, vs, e _ _ h1, e _ _ h2, Dt.mnA h3 e⟩, h4, h5, h6⟩

section
variable {P : Program} {w : World} {K : PySem.W.Frag} {mg : Str → Option Value} {base : Heap}
/-! ### the deck and its draws -/
theorem ok_law_takeC {ad : Ad} (T : Txt K mg ad) : FnOk P w K mg base CX0 1 ad.a_law_take ad.d_law_take ["deck", "many"] (Dk.spTakeC) := by
  refine T.F_law_take.ok sc_law_take (fun vs H Q E h => ?_) (fun cdv A outer s H vs Q E hr h => ?_)
  · obtain ⟨l, ns, m, rfl, h1, h2, h3, k⟩ := h
    rfl
  · obtain ⟨l, ns, m, rfl, h1, h2, h3, k⟩ := h
    refine ⟨_, (pss_cons (ps_if (pt_cmpR op_eq (pe_callB c_len (by rfl) T.z_len (by decide +kernel) (pa_cons (pv 0) pa_nil)) pe_int (nomark _)) (pss_one (ps_ret pe_int)) pss_nil)
      (pss_one (ps_ret (pe_op op_mod (pe_callTy c_int (by rfl) T.z_int (by decide +kernel) (pa_cons (pe_bm0 PySem.F.plainAttrs_list PySem.F.slot_list_pop PySem.F.type_list_pop mt_pop (pv 0)) pa_nil)) (pv 1))))), ?_⟩
    try dsimp only [L2.cxOf, L2.Cx.nox, L2.Cx.wish]
    change (_ : TS) _ ([some (.ref l), some (.int m)] : St) _
    have cl_NumberMap := T.cl_NumberMap
    have n_NumberMap_period := T.n_NumberMap_period
    have n_NumberMap_rows := T.n_NumberMap_rows
    have hd : L2.Same H H := Same.refl H
    walk_at "rd"
    refine Rd.ifd (fun c => ?_) (fun c => ?_)
    · walk_at "rd"
      have q := k 0 ns (by omega) h3 h2
      rw [Dk.upd_id h1] at q
      exact q
    · walk_at "rd"
      have hl : (ns.map V.int).length = ns.length := List.length_map ..
      have hp : 0 < ns.length := by
        rw [hl] at c
        omega
      have hz : (ns.map V.int)[(ns.map V.int).length - 1]? = some (V.int (ns[ns.length - 1]'(by omega))) := by
        rw [hl, List.getElem?_map, List.getElem?_eq_getElem (by omega)]
        rfl
      refine Rd.pop h1 hz ?_
      walk_at "rd"
      rw [← List.map_dropLast]
      exact k _ _ (Int.emod_nonneg _ (by omega)) (Int.emod_lt_of_pos _ h3) (by rw [List.length_dropLast]; omega)
theorem ok_law_take {ad : Ad} (T : Txt K mg ad) : FnOk P w K mg base CX0 1 ad.a_law_take ad.d_law_take ["deck", "many"] Dk.spTake := Dk.ok_take (ok_law_takeC T)
theorem ok_law_deckC {ad : Ad} (T : Txt K mg ad) : FnOk P w K mg base CX0 1 ad.a_law_deck ad.d_law_deck ["script", "cells", "each"] (Dk.spDeckC K) := by
  refine T.F_law_deck.ok sc_law_deck (fun vs H Q E h => ?_) (fun cdv A outer s H vs Q E hr h => ?_)
  · obtain ⟨a, ns, c, e, rfl, hS, hn, hc0, he0, hc1, he1, k⟩ := h
    rfl
  · obtain ⟨a, ns, c, e, rfl, hS, hn, hc0, he0, hc1, he1, k⟩ := h
    refine ⟨_, (pss_cons (ps_set (i := 3) sc_law_deck.nd rfl (Or.inl rfl) (pe_lst pa_nil))
      (pss_cons (ps_set (i := 4) sc_law_deck.nd rfl (Or.inl rfl) (pe_op op_add pe_int (pe_callB c_len (by rfl) T.z_len (by decide +kernel) (pa_cons (pv 0) pa_nil))))
      (pss_cons (ps_for PassesOwn.never rfl (pi_range1 rfl T.z_range (pa_cons (pv 1) pa_nil)) (pg_name (i := 5) sc_law_deck.nd rfl (Or.inl rfl)) (pss_cons (ps_set (i := 6) sc_law_deck.nd rfl (Or.inl rfl) pe_int)
      (Evl.pss_cut (ps_if (pt_cmpR op_lt (pv 5) (pe_callB c_len (by rfl) T.z_len (by decide +kernel) (pa_cons (pv 0) pa_nil)) (nomark _)) (pss_one (ps_set (i := 6) sc_law_deck.nd rfl (Or.inl rfl) (pe_ix ix_list (pv 0) (pv 5) (fun _ _ => rfl)))) pss_nil)
      (pss_cons (ps_set (i := 7) sc_law_deck.nd rfl (Or.inl rfl) (pe_callB c_abs (by rfl) T.z_abs (by decide +kernel) (pa_cons (pv 6) pa_nil)))
      (pss_one (ps_if (pt_cmpR op_ge (pv 7) (pe_op op_pow pe_int pe_int) (nomark _)) (pss_one (ps_for PassesOwn.never rfl (pi_range1 rfl T.z_range (pa_cons (pv 2) pa_nil)) (pg_name (i := 8) sc_law_deck.nd rfl (Or.inl rfl)) (pss_cons (ps_expr (pe_bm PySem.F.plainAttrs_list PySem.F.slot_list_append PySem.F.type_list_append mt_append (pv 3) (pa_cons (pe_op op_mod (pe_callTy c_int (by rfl) T.z_int (by decide +kernel) (pa_cons (pv 7) pa_nil)) pe_int) pa_nil)))
      (pss_one (ps_set (i := 7) sc_law_deck.nd rfl (Or.inl rfl) (pe_op op_fdiv (pv 7) pe_int)))))) (pss_cons (ps_set (i := 4) sc_law_deck.nd rfl (Or.inl rfl) (pe_op op_mod (pe_callTy c_int (by rfl) T.z_int (by decide +kernel) (pa_cons (pe_op op_add (pe_op op_add (pe_op op_add (pe_op op_mul (pv 4) pe_int) (pe_op op_mul pe_int (pv 7))) (pe_callTy c_int (by rfl) T.z_int (by decide +kernel) (pa_cons (pe_cmpR op_lt (pv 6) pe_int (nomark _)) pa_nil))) (pv 5)) pa_nil)) pe_int))
      (pss_one (ps_for PassesOwn.never rfl (pi_range1 rfl T.z_range (pa_cons (pv 2) pa_nil)) (pg_name (i := 8) sc_law_deck.nd rfl (Or.inl rfl)) (pss_cons (ps_set (i := 4) sc_law_deck.nd rfl (Or.inl rfl) (pe_op op_mod (pe_callTy c_int (by rfl) T.z_int (by decide +kernel) (pa_cons (pe_op op_add (pe_op op_add (pe_op op_mul (pv 4) pe_int) (pv 8)) pe_int) pa_nil)) pe_int))
      (pss_one (ps_expr (pe_bm PySem.F.plainAttrs_list PySem.F.slot_list_append PySem.F.type_list_append mt_append (pv 3) (pa_cons (pe_op op_mod (pe_callTy c_int (by rfl) T.z_int (by decide +kernel) (pa_cons (pe_op op_fdiv (pv 4) pe_int) pa_nil)) pe_int) pa_nil))))))))))))))
      (pss_cons (ps_expr (pe_bm0 PySem.F.plainAttrs_list PySem.F.slot_list_reverse PySem.F.type_list_reverse mt_reverse (pv 3)))
      (pss_one (ps_ret (pv 3))))))), ?_⟩
    try dsimp only [L2.cxOf, L2.Cx.nox, L2.Cx.wish]
    change (_ : TS) _ ([some (.ref a), some (.int c), some (.int e), none, none, none, none, none, none] : St) _
    have cl_NumberMap := T.cl_NumberMap
    have n_NumberMap_period := T.n_NumberMap_period
    have n_NumberMap_rows := T.n_NumberMap_rows
    walk_at "rd"
    refine Rd.xlstU rfl fun l hl => ?_
    have hS1 : SqL K (upd H l (.lst [])) a (ns.map V.int) := Evl.ex_l (Evl.Ex.new hl) hS
    walk_at "rd"
    refine Rd.xfr1 ⟨by omega, by omega⟩ (fun i σ H' => ∃ (ms : List Int) (sd : Int) (v5 v6 v7 v8 : Option V), σ = [some (.ref a), some (.int c), some (.int e), some (.ref l), some (.int sd), v5, v6, v7, v8] ∧ H' = upd H l (.lst (ms.map V.int)) ∧ ms.length ≤ i * 64)
      ⟨[], _, none, none, none, none, rfl, rfl, Nat.zero_le _⟩ ?_ ?_
    · rintro i σ H' hi ⟨ms, sd, v5, v6, v7, v8, rfl, rfl, hm⟩
      have hS2 : SqL K (upd H l (.lst (ms.map V.int))) a (ns.map V.int) := Evl.ex_l (Evl.Ex.new hl) hS
      walk_at "rd"
      refine ⟨fun σ H' => ∃ cell : Int, σ = [some (.ref a), some (.int c), some (.int e), some (.ref l), some (.int sd), some (.int i), some (.int cell), v7, v8] ∧ H' = upd H l (.lst (ms.map V.int)), ?_, ?_⟩
      · walk_at "rd"
        refine Rd.ifd (fun h1 => ?_) (fun h1 => ?_)
        · walk_at "rd"
          rw [List.length_map] at h1
          refine Rd.ixL hS2 (atI_nat (j := i) (v := V.int (ns[i]'(by omega))) (by rw [List.getElem?_map, List.getElem?_eq_getElem (by omega)]; rfl)) ?_
          walk_at "rd"
          exact ⟨_, rfl, rfl⟩
        · walk_at "rd"
          exact ⟨_, rfl, rfl⟩
      · rintro σ H' ⟨cell, rfl, rfl⟩
        walk_at "rd"
        generalize hrest : (if cell < 0 then -cell else cell) = rest0
        refine Rd.ifd (fun h1 => ?_) (fun h1 => ?_)
        · walk_at "rd"
          refine Rd.xfr1 ⟨by omega, by omega⟩ (fun j σ H' => ∃ (ms' : List Int) (rest : Int) (v8 : Option V), σ = [some (.ref a), some (.int c), some (.int e), some (.ref l), some (.int sd), some (.int i), some (.int cell), some (.int rest), v8] ∧ H' = upd H l (.lst (ms'.map V.int)) ∧ ms'.length ≤ i * 64 + j)
            ⟨ms, _, _, rfl, rfl, hm⟩ ?_ ?_
          · rintro j σ H' hj ⟨ms', rest, v8, rfl, rfl, hm'⟩
            walk_at "rd"
            refine Rd.append upd_same (by rw [List.length_map]; omega) ?_
            walk_at "rd"
            exact ⟨ms' ++ [rest % 1000003], rest / 1000003, _, rfl, by rw [upd_upd, List.map_append]; rfl, by rw [List.length_append]; simp; omega⟩
          · rintro σ H' ⟨ms', rest, v8, rfl, rfl, hm'⟩
            exact ⟨ms', sd, _, _, _, _, rfl, rfl, by omega⟩
        · walk_at "rd"
          refine Rd.xfr1 ⟨by omega, by omega⟩ (fun j σ H' => ∃ (ms' : List Int) (sd : Int) (v8 : Option V), σ = [some (.ref a), some (.int c), some (.int e), some (.ref l), some (.int sd), some (.int i), some (.int cell), some (.int rest0), v8] ∧ H' = upd H l (.lst (ms'.map V.int)) ∧ ms'.length ≤ i * 64 + j)
            ⟨ms, _, _, rfl, rfl, hm⟩ ?_ ?_
          · rintro j σ H' hj ⟨ms', sd, v8, rfl, rfl, hm'⟩
            walk_at "rd"
            refine Rd.append upd_same (by rw [List.length_map]; omega) ?_
            walk_at "rd"
            exact ⟨ms' ++ [_], _, _, rfl, by rw [upd_upd, List.map_append]; rfl, by rw [List.length_append]; simp; omega⟩
          · rintro σ H' ⟨ms', sd, v8, rfl, rfl, hm'⟩
            exact ⟨ms', sd, _, _, _, _, rfl, rfl, by omega⟩
    · rintro σ H' ⟨ms, sd, v5, v6, v7, v8, rfl, rfl, hm⟩
      walk_at "rd"
      refine Rd.reverse upd_same ?_
      walk_at "rd"
      rw [upd_upd, ← List.map_reverse]
      exact k l ms.reverse _ hl rfl (by rw [List.length_reverse]; have := Int.toNat_of_nonneg hc0; omega)
theorem ok_law_deck {ad : Ad} (T : Txt K mg ad) : FnOk P w K mg base CX0 1 ad.a_law_deck ad.d_law_deck ["script", "cells", "each"] (Dk.spDeck K) := Dk.ok_deck (ok_law_deckC T)

def spWhole : Sp := fun vs H Q _ => ∃ l : Addr, vs = [.ref l] ∧ H l = some (Dk.DkO l) ∧ ∀ n : Int, n.natAbs < 2 ^ 120 → Q (.int n) H
theorem ok_law_whole {ad : Ad} (T : Txt K mg ad) : FnOk P w K mg base CX0 2 ad.a_law_whole ad.d_law_whole ["deck"] (spWhole) := by
  refine T.F_law_whole.ok sc_law_whole (fun vs H Q E h => ?_) (fun cdv A outer s H vs Q E hr h => ?_)
  · obtain ⟨l, rfl, h1, k⟩ := h
    rfl
  · obtain ⟨l, rfl, h1, k⟩ := h
    refine ⟨_, (pss_cons (ps_set (i := 1) sc_law_whole.nd rfl (Or.inl rfl) (pe_call (ok_law_take T) (hr.mono (by decide)) rfl T.m_law_take T.F_law_take.kp T.b_law_take .nil pass0 (pa_cons (pv 0) (pa_cons pe_int pa_nil))))
      (pss_cons (ps_set (i := 2) sc_law_whole.nd rfl (Or.inl rfl) (pe_op op_sub (pe_call (ok_law_take T) (hr.mono (by decide)) rfl T.m_law_take T.F_law_take.kp T.b_law_take .nil pass0 (pa_cons (pv 0) (pa_cons pe_int pa_nil))) pe_int))
      (pss_cons (ps_if (pt_cmpR op_lt (pv 1) pe_int (nomark _)) (pss_one (ps_ret (pv 2))) pss_nil)
      (pss_cons (ps_if (pt_cmpR op_eq (pv 1) pe_int (nomark _)) (pss_one (ps_ret (pe_op op_add (pe_op op_mul (pv 2) (pe_op op_pow pe_int pe_int)) (pe_call (ok_law_take T) (hr.mono (by decide)) rfl T.m_law_take T.F_law_take.kp T.b_law_take .nil pass0 (pa_cons (pv 0) (pa_cons pe_int pa_nil)))))) pss_nil)
      (pss_cons (ps_if (pt_cmpR op_eq (pv 1) pe_int (nomark _)) (pss_one (ps_ret (pe_op op_add (pe_op op_mul (pv 2) (pe_op op_pow pe_int pe_int)) (pe_call (ok_law_take T) (hr.mono (by decide)) rfl T.m_law_take T.F_law_take.kp T.b_law_take .nil pass0 (pa_cons (pv 0) (pa_cons pe_int pa_nil)))))) pss_nil)
      (pss_one (ps_ret (pe_op op_add (pe_op op_mul (pe_op op_sub (pe_call (ok_law_take T) (hr.mono (by decide)) rfl T.m_law_take T.F_law_take.kp T.b_law_take .nil pass0 (pa_cons (pv 0) (pa_cons pe_int pa_nil))) pe_int) (pe_op op_pow pe_int pe_int)) (pv 2))))))))), ?_⟩
    try dsimp only [L2.cxOf, L2.Cx.nox, L2.Cx.wish]
    change (_ : TS) _ ([some (.ref l), none, none] : St) _
    walk_at "rd"
    intro digit d0 d1
    walk_at "rd"
    intro small s0 s1
    walk_at "rd"
    refine Rd.ifd (fun c => ?_) (fun c => ?_)
    · walk_at "rd"
      exact k _ (by omega)
    · walk_at "rd"
      refine Rd.ifd (fun c2 => ?_) (fun c2 => ?_)
      · walk_at "rd"
        intro t t0 t1
        walk_at "rd"
        exact k _ (by omega)
      · walk_at "rd"
        refine Rd.ifd (fun c3 => ?_) (fun c3 => ?_)
        · walk_at "rd"
          intro t t0 t1
          walk_at "rd"
          exact k _ (by omega)
        · walk_at "rd"
          intro t t0 t1
          walk_at "rd"
          exact k _ (by omega)
theorem x_whole {H : Hp} {Q : VK} {E : XK} {l : Addr} (h : H l = some (Dk.DkO l)) (q : ∀ n : Int, n.natAbs < 2 ^ 120 → Q (.int n) H) : spWhole ([.ref l] ++ []) H Q E := ⟨l, rfl, h, q⟩
local macro_rules | `(tactic| walk_at "rd2") => `(tactic| ((with_reducible refine' Toy.x_whole ?h1 ?_); (case h1 => walk_at "hp")))
def spParts (K : PySem.W.Frag) : Sp := fun vs H Q _ => ∃ (l : Addr) (m : Int), vs = [.ref l, .int m] ∧ H l = some (Dk.DkO l) ∧ 1 ≤ m ∧ m ≤ 6 ∧
  ∀ (p lr : Addr) (ws : List V) (rs : List Row4) (H' : Hp), Evl.Ex H H' → H p = none → H lr = none → H' p = some (.tup [.int rs.length, .ref lr]) → H' lr = some (.lst ws) → DpAll K H' ws (rs.map rowD) → OkRows rs → 1 ≤ rs.length → rs.length ≤ 6 → Q (.ref p) H'
theorem wide_at {k : Int} (h0 : 0 ≤ k) (h1 : k < 6) : ∃ w : Int, atI [V.int 0, .int 1, .int 2, .int 5, .int 1000000, .int 10000000000000000000000000000000] k = some (.int w) ∧ 0 ≤ w ∧ w ≤ 10000000000000000000000000000000 := by
  rcases (by omega : k = 0 ∨ k = 1 ∨ k = 2 ∨ k = 3 ∨ k = 4 ∨ k = 5) with rfl | rfl | rfl | rfl | rfl | rfl <;> exact ⟨_, rfl, by decide, by decide⟩
theorem ok_law_parts {ad : Ad} (T : Txt K mg ad) : FnOk P w K mg base CX0 3 ad.a_law_parts ad.d_law_parts ["deck", "most"] (spParts K) := by
  refine T.F_law_parts.ok sc_law_parts (fun vs H Q E h => ?_) (fun cdv A outer s H vs Q E hr h => ?_)
  · obtain ⟨l, m, rfl, h1, hm1, hm6, k⟩ := h
    rfl
  · obtain ⟨l, m, rfl, h1, hm1, hm6, k⟩ := h
    refine ⟨_, (pss_cons (ps_set (i := 2) sc_law_parts.nd rfl (Or.inl rfl) (pe_op op_add pe_int (pe_call (ok_law_take T) (hr.mono (by decide)) rfl T.m_law_take T.F_law_take.kp T.b_law_take .nil pass0 (pa_cons (pv 0) (pa_cons (pv 1) pa_nil)))))
      (pss_cons (ps_set (i := 3) sc_law_parts.nd rfl (Or.inl rfl) (pe_lst pa_nil))
      (pss_cons (ps_for PassesOwn.never rfl (pi_range1 rfl T.z_range (pa_cons (pv 2) pa_nil)) (pg_name (i := 4) sc_law_parts.nd rfl (Or.inl rfl)) (pss_cons (ps_set (i := 5) sc_law_parts.nd rfl (Or.inl rfl) pe_non)
      (Evl.pss_cut (ps_if (pt_cmpR op_gt (pe_call (ok_law_take T) (hr.mono (by decide)) rfl T.m_law_take T.F_law_take.kp T.b_law_take .nil pass0 (pa_cons (pv 0) (pa_cons pe_int pa_nil))) pe_int (nomark _)) (pss_cons (ps_set (i := 6) sc_law_parts.nd rfl (Or.inl rfl) (pe_call (ok_law_whole T) (hr.mono (by decide)) rfl T.m_law_whole T.F_law_whole.kp T.b_law_whole .nil pass0 (pa_cons (pv 0) pa_nil)))
      (pss_cons (ps_set (i := 7) sc_law_parts.nd rfl (Or.inl rfl) (pe_ix ix_list (pe_lst (pa_cons pe_int (pa_cons pe_int (pa_cons pe_int (pa_cons pe_int (pa_cons (pe_op op_pow pe_int pe_int) (pa_cons (pe_op op_pow pe_int pe_int) pa_nil))))))) (pe_call (ok_law_take T) (hr.mono (by decide)) rfl T.m_law_take T.F_law_take.kp T.b_law_take .nil pass0 (pa_cons (pv 0) (pa_cons pe_int pa_nil))) (fun _ _ => rfl)))
      (pss_one (ps_set (i := 5) sc_law_parts.nd rfl (Or.inl rfl) (pe_tup (pa_cons (pe_call (ok_law_whole T) (hr.mono (by decide)) rfl T.m_law_whole T.F_law_whole.kp T.b_law_whole .nil pass0 (pa_cons (pv 0) pa_nil)) (pa_cons (pe_call (ok_law_whole T) (hr.mono (by decide)) rfl T.m_law_whole T.F_law_whole.kp T.b_law_whole .nil pass0 (pa_cons (pv 0) pa_nil)) (pa_cons (pv 6) (pa_cons (pe_op op_add (pv 6) (pv 7)) pa_nil))))))))) pss_nil)
      (pss_one (ps_expr (pe_bm PySem.F.plainAttrs_list PySem.F.slot_list_append PySem.F.type_list_append mt_append (pv 3) (pa_cons (pv 5) pa_nil)))))))
      (pss_one (ps_ret (pe_tup (pa_cons (pv 2) (pa_cons (pv 3) pa_nil)))))))), ?_⟩
    try dsimp only [L2.cxOf, L2.Cx.nox, L2.Cx.wish]
    change (_ : TS) _ ([some (.ref l), some (.int m), none, none, none, none, none, none] : St) _
    have cl_NumberMap := T.cl_NumberMap
    have n_NumberMap_period := T.n_NumberMap_period
    have n_NumberMap_rows := T.n_NumberMap_rows
    walk_at "rd"
    intro n0 hn0 hn1
    walk_at "rd"
    refine Rd.xlst rfl fun lr H1 nl e1 hl => ?_
    walk_at "rd"
    refine Rd.xfr1 ⟨by omega, by omega⟩ (fun i σ H' => ∃ (ws : List V) (rs : List Row4) (v4 v5 v6 v7 : Option V), σ = [some (.ref l), some (.int m), some (.int (1 + n0)), some (.ref lr), v4, v5, v6, v7] ∧ Evl.Ex H H' ∧ H' lr = some (.lst ws) ∧ DpAll K H' ws (rs.map rowD) ∧ OkRows rs ∧ rs.length = i)
      ⟨[], [], none, none, none, none, rfl, e1, hl, .nil, okNil, rfl⟩ ?_ ?_
    · rintro i σ H2 hi ⟨ws, rs, v4, v5, v6, v7, rfl, e2, hw, hd, ok, hlen⟩
      walk_at "rd"
      refine ⟨fun σ H' => ∃ (r : Row4) (v : V) (v6 v7 : Option V), σ = [some (.ref l), some (.int m), some (.int (1 + n0)), some (.ref lr), some (.int i), some v, v6, v7] ∧ Evl.Ex H2 H' ∧ Dp K H' v (rowD r) ∧ OkRow r, ?_, ?_⟩
      · walk_at "rd"
        intro c hc0 hc1
        walk_at "rd"
        refine Rd.ifd (fun h5 => ?_) (fun h5 => ?_)
        · walk_at "rd"
          intro low hlow
          walk_at "rd"
          refine Rd.xlst rfl fun p3 H3 n3 e3 h3 => ?_
          walk_at "rd"
          intro k6 k60 k61
          obtain ⟨wd, hwd, hwd0, hwd1⟩ := wide_at k60 k61
          refine Rd.ixL (SqL.of h3) hwd ?_
          walk_at "rd"
          intro a ha
          walk_at "rd"
          intro b hb
          walk_at "rd"
          refine Rd.xtup rfl fun p4 H4 n4 e4 h4 => ?_
          walk_at "rd"
          refine ⟨some (a, b, low, low + wd), _, _, _, rfl, e3.trans e4, Dt.ofT h4 (.cons (.int _) (.cons (.int _) (.cons (.int _) (.cons (.int _) .nil)))), ?_⟩
          intro a' b' c' d' e
          cases e
          refine ⟨by omega, by omega, by omega, ?_, by omega⟩
          omega
        · walk_at "rd"
          exact ⟨none, _, _, _, rfl, Evl.Ex.refl _, .non, fun _ _ _ _ e => by cases e⟩
      · rintro σ H3 ⟨r, v, v6, v7, rfl, e3, hv, hr⟩
        have hws : ws.length = i := by rw [Dt.lenA hd, List.length_map, hlen]
        have hw3 := e3 _ _ hw
        walk_at "rd"
        refine Rd.append hw3 (by omega) ?_
        walk_at "rd"
        have hnl : H lr = none := nl
        refine ⟨ws ++ [v], rs ++ [r], _, _, _, _, rfl, Evl.Ex.mut (e2.trans e3) hnl, upd_same, ?_, ?_, by rw [List.length_append, hlen]; rfl⟩
        · have hall : DpAll K H3 (ws ++ [v]) ((rs ++ [r]).map rowD) := by
            rw [List.map_append]
            exact Dt.snocA (Dt.mnA hd e3) hv
          exact rowsA_upd hw3 hall
        · intro r' hr'
          rcases List.mem_append.mp hr' with h | h
          · exact ok r' h
          · rw [List.mem_singleton.mp h]; exact hr
    · rintro σ H2 ⟨ws, rs, v4, v5, v6, v7, rfl, e2, hw, hd, ok, hlen⟩
      have hlen' : (1 + n0 : Int) = (rs.length : Int) := by omega
      walk_at "rd"
      refine Rd.xtup rfl fun p H3 n3 e3 h3 => ?_
      walk_at "rd"
      rw [hlen'] at h3
      exact k p lr ws rs H3 (e2.trans e3) (Evl.fresh_back e2 n3) nl h3 (e3 _ _ hw) (Dt.mnA hd e3) ok (by omega) (by omega)
def spSame : Sp := fun vs H Q _ => ∃ o : Option Int, vs = [optV o, optV o] ∧ Q (.bl true) H
theorem ok_law_same {ad : Ad} (T : Txt K mg ad) : FnOk P w K mg base CX0 1 ad.a_law_same ad.d_law_same ["actual", "expected"] (spSame) := by
  refine T.F_law_same.ok sc_law_same (fun vs H Q E h => ?_) (fun cdv A outer s H vs Q E hr h => ?_)
  · obtain ⟨o, rfl, k⟩ := h
    rfl
  · obtain ⟨o, rfl, k⟩ := h
    refine ⟨_, (pss_cons (ps_if (pt_cmpR op_isN1 (pv 1) pe_non (nomark _)) (pss_one (ps_ret (pe_cmpR op_isN1 (pv 0) pe_non (nomark _)))) pss_nil)
      (pss_one (ps_ret (pe_and (pe_callB call_isi (by rfl) T.z_isinstance (by decide +kernel) (pa_cons (pv 0) (pa_cons (pe_bltn rfl T.z_int (by decide +kernel) (v := .ty "int") rfl) pa_nil))) (pe_and (pe_not (pe_callB call_isi (by rfl) T.z_isinstance (by decide +kernel) (pa_cons (pv 0) (pa_cons (pe_bltn rfl T.z_bool (by decide +kernel) (v := .ty "bool") rfl) pa_nil)))) (pe_one (pe_cmpR op_eq (pv 0) (pv 1) (nomark _)))))))), ?_⟩
    try dsimp only [L2.cxOf, L2.Cx.nox, L2.Cx.wish]
    change (_ : TS) _ ([some (optV o), some (optV o)] : St) _
    cases o with
    | none =>
      show (_ : TS) _ ([some .non, some .non] : St) _
      walk_at "rd"
      exact k
    | some i =>
      show (_ : TS) _ ([some (.int i), some (.int i)] : St) _
      walk_at "rd"
      rw [decide_eq_true rfl]
      exact k
def spNMi (C : Addr) (K : PySem.W.Frag) : Sp := fun vs H Q _ => ∃ (x dx lr : Addr) (ws : List V) (rs : List Row4), vs = [.ref x, .int rs.length, .ref lr] ∧ H x = some (.ins C dx []) ∧ H lr = some (.lst ws) ∧ DpAll K H ws (rs.map rowD) ∧ OkRows rs ∧ 1 ≤ rs.length ∧
  ∀ (l2 : Addr) (H' : Hp), H l2 = none → H' x = some (.ins C dx (fs_NumberMap (.int rs.length) (.ref l2))) → H' l2 = some (.lst ws) → (∀ b o, b ≠ x → H b = some o → H' b = some o) → Q .non H'
theorem ok_NumberMap_init_ {ad : Ad} (T : Txt K mg ad) : FnOk P w K mg base CX0 1 ad.a_NumberMap_init_ ad.d_NumberMap_init_ ["self", "period", "rows"] (spNMi ad.c_NumberMap K) := by
  refine T.F_NumberMap_init_.ok sc_NumberMap_init_ (fun vs H Q E h => ?_) (fun cdv A outer s H vs Q E hr h => ?_)
  · obtain ⟨x, dx, lr, ws, rs, rfl, hx, hl, hd, ok, hpos, k⟩ := h
    rfl
  · obtain ⟨x, dx, lr, ws, rs, rfl, hx, hl, hd, ok, hpos, k⟩ := h
    refine ⟨_, (pss_cons (ps_if (pt_cmpR op_lt (pv 1) pe_int (nomark _)) (pss_one ps_never) pss_nil)
      (pss_cons (ps_if (pt_cmpR op_ne (pe_callB c_len (by rfl) T.z_len (by decide +kernel) (pa_cons (pv 2) pa_nil)) (pv 1) (nomark _)) (pss_one ps_never) pss_nil)
      (pss_cons (ps_for PassesOwn.never rfl (pi_list (pv 2)) (pg_name (i := 3) sc_NumberMap_init_.nd rfl (Or.inl rfl)) (pss_one (ps_if (PW.pt (pw_and (pt_cmpR op_notN1 (pv 3) pe_non (nomark _)) (pw_and1 (pt_cmpR op_gt (pe_ix ix_tup (pv 3) pe_int (fun _ _ => rfl)) (pe_ix ix_tup (pv 3) pe_int (fun _ _ => rfl)) (nomark _))))) (pss_one ps_never) pss_nil)))
      (pss_cons (ps_fld (pv 0) (pv 1) rfl)
      (pss_one (ps_fld (pv 0) (pe_callTy c_list (by rfl) T.z_list (by decide +kernel) (pa_cons (pv 2) pa_nil)) rfl)))))), ?_⟩
    try dsimp only [L2.cxOf, L2.Cx.nox, L2.Cx.wish]
    change (_ : TS) _ ([some (.ref x), some (.int rs.length), some (.ref lr), none] : St) _
    have cl_NumberMap := T.cl_NumberMap
    have n_NumberMap_period := T.n_NumberMap_period
    have n_NumberMap_rows := T.n_NumberMap_rows
    walk_at "rd"
    have hlen : ws.length = rs.length := by rw [Dt.lenA hd, List.length_map]
    refine Rd.ifNF (by rw [hlen]) ?_
    walk_at "rd"
    refine Rd.xfl (SqL.of hl) (fun i σ H' => ∃ v, σ = [some (.ref x), some (.int rs.length), some (.ref lr), v] ∧ H' = H) ⟨none, rfl, rfl⟩ (fun i σ H' _ ⟨_, _, e⟩ => by rw [e]; exact SqL.of hl) ?_ ?_
    · rintro i y σ H' hi ⟨v, rfl, rfl⟩
      obtain ⟨d, hd1, hd2⟩ := Dt.getA1 hd hi
      rw [List.getElem?_map] at hd1
      cases hr : rs[i]? with
      | none => rw [hr] at hd1; cases hd1
      | some r =>
        rw [hr] at hd1
        cases hd1
        have hmem : r ∈ rs := List.mem_of_getElem? hr
        cases r with
        | none =>
          cases row_none hd2
          walk_at "rd"
          exact ⟨_, rfl, rfl⟩
        | some r =>
          obtain ⟨a, b, c, d⟩ := r
          obtain ⟨p, rfl, hp⟩ := row_some hd2
          have hok := ok _ hmem a b c d rfl
          walk_at "rd"
          exact ⟨_, rfl, rfl⟩
    · rintro σ H' ⟨v, rfl, rfl⟩
      walk_at "rd"
      rw [pf_NumberMap_period]
      refine Rd.listOf (by walk_at "sq") fun l2 H2 n2 e2 h2 => ?_
      walk_at "rd"
      rw [pf_NumberMap_rows]
      have nx2 : l2 ≠ x := Ne.symm (ne_of_none upd_same n2)
      have n2' : H' l2 = none := by rw [upd_ne nx2] at n2; exact n2
      refine k l2 _ n2' upd_same (by rw [upd_ne nx2]; exact h2) fun b o hb hbo => ?_
      rw [upd_ne hb]
      exact e2 _ _ (by rw [upd_ne hb]; exact hbo)
def spImage (C : Addr) (K : PySem.W.Frag) : Sp := fun vs H Q _ => ∃ (s : Addr) (rs : List Row4) (x : Int), vs = [.ref s, .int x] ∧ NumAt K C H s rs ∧ x.natAbs < 2 ^ 200 ∧ Q (optV (img rs x)) H
theorem ok_NumberMap_image {ad : Ad} (T : Txt K mg ad) : FnOk P w K mg base CX0 1 ad.a_NumberMap_image ad.d_NumberMap_image ["self", "x"] (spImage ad.c_NumberMap K) := by
  refine T.F_NumberMap_image.ok sc_NumberMap_image (fun vs H Q E h => ?_) (fun cdv A outer s H vs Q E hr h => ?_)
  · obtain ⟨me, rs, x, rfl, hN, hb, k⟩ := h
    rfl
  · obtain ⟨me, rs, x, rfl, hN, hb, k⟩ := h
    refine ⟨_, (pss_cons (ps_set (i := 2) sc_NumberMap_image.nd rfl (Or.inl rfl) (pe_ix ix_list (pe_fld (pv 0) rfl) (pe_op op_mod (pv 1) (pe_fld (pv 0) rfl)) (fun _ _ => rfl)))
      (pss_cons (ps_if (PW.pt (pw_or (pt_cmpR op_isN1 (pv 2) pe_non (nomark _)) (pw_or1 (pt_not (pt_chain op_le op_le (pe_ix ix_tup (pv 2) pe_int (fun _ _ => rfl)) (pe_op op_fdivW (pv 1) (pe_fld (pv 0) rfl)) (pe_ix ix_tup (pv 2) pe_int (fun _ _ => rfl))))))) (pss_one (ps_ret pe_non)) pss_nil)
      (pss_one (ps_ret (pe_op op_add (pe_op op_mulW (pe_ix ix_tup (pv 2) pe_int (fun _ _ => rfl)) (pe_op op_fdivW (pv 1) (pe_fld (pv 0) rfl))) (pe_ix ix_tup (pv 2) pe_int (fun _ _ => rfl))))))), ?_⟩
    try dsimp only [L2.cxOf, L2.Cx.nox, L2.Cx.wish]
    change (_ : TS) _ ([some (.ref me), some (.int x), none] : St) _
    have cl_NumberMap := T.cl_NumberMap
    have n_NumberMap_period := T.n_NumberMap_period
    have n_NumberMap_rows := T.n_NumberMap_rows
    obtain ⟨⟨dx, l, ws, h1, h2, h3⟩, hpos, htop, ok⟩ := hN
    walk_at "rd"
    have hlt : x % rs.length < rs.length := Int.emod_lt_of_pos _ (by omega)
    have hge : 0 ≤ x % rs.length := Int.emod_nonneg _ (by omega)
    have hi : (x % rs.length).toNat < rs.length := by omega
    obtain ⟨v, hv, hdv⟩ := rows_get h3 hi
    refine Rd.ixL (SqL.of h2) (Rd.atI_i hge hv) ?_
    walk_at "rd"
    have hrs : rs[(x % rs.length).toNat]? = some rs[(x % rs.length).toNat] := List.getElem?_eq_getElem hi
    have himg : img rs x = match rs[(x % rs.length).toNat]? with
      | some (some (a, b, c, d)) => if c ≤ x / rs.length ∧ x / rs.length ≤ d then some (a * (x / rs.length) + b) else none
      | _ => none := rfl
    have hmem : rs[(x % rs.length).toNat] ∈ rs := List.getElem_mem hi
    rw [hrs] at himg
    generalize hrow : rs[(x % rs.length).toNat] = r at *
    have hqb : (x / (rs.length : Int)).natAbs < 2 ^ 200 := Nat.lt_of_le_of_lt (Int.natAbs_ediv_le_natAbs _ _) hb
    cases r with
    | none =>
      cases row_none hdv
      replace himg : img rs x = none := himg
      walk_at "rd"
      rw [himg] at k
      exact k
    | some r =>
      obtain ⟨a, b, c, d⟩ := r
      obtain ⟨p, rfl, hp⟩ := row_some hdv
      have hok := ok _ hmem a b c d rfl
      replace himg : img rs x = if c ≤ x / rs.length ∧ x / rs.length ≤ d then some (a * (x / rs.length) + b) else none := himg
      have hdiv : CDivW x rs.length := wide_div (b := 20) (by omega) (by omega) (by decide) (by decide)
      walk_at "rd"
      have hmul : CMulW a (x / rs.length) := wide_mul hok.1 hqb (by decide) (by decide) (by decide)
      refine Rd.ifd (fun c1 => ?_) (fun c1 => ?_)
      · walk_at "rd"
        refine Rd.ifNd (fun c2 => ?_) (fun c2 => ?_)
        · walk_at "rd"
          rw [himg, if_neg (by omega)] at k
          exact k
        · walk_at "rd"
          rw [himg, if_pos (by omega)] at k
          exact k
      · walk_at "rd"
        rw [himg, if_neg (by omega)] at k
        exact k
def spOwn (K : PySem.W.Frag) : Sp := fun vs H Q _ => ∃ (p lr : Addr) (ws : List V) (rs : List Row4) (x : Int), vs = [.ref p, .int x] ∧ H p = some (.tup [.int rs.length, .ref lr]) ∧ H lr = some (.lst ws) ∧ DpAll K H ws (rs.map rowD) ∧ OkRows rs ∧ 1 ≤ rs.length ∧ rs.length ≤ 6 ∧ x.natAbs < 2 ^ 200 ∧ Q (optV (img rs x)) H
theorem ok_law_own_image {ad : Ad} (T : Txt K mg ad) : FnOk P w K mg base CX0 1 ad.a_law_own_image ad.d_law_own_image ["parts", "x"] (spOwn K) := by
  refine T.F_law_own_image.ok sc_law_own_image (fun vs H Q E h => ?_) (fun cdv A outer s H vs Q E hr h => ?_)
  · obtain ⟨p, lr, ws, rs, x, rfl, hp, hl, h3, ok, hpos, htop, hb, k⟩ := h
    rfl
  · obtain ⟨p, lr, ws, rs, x, rfl, hp, hl, h3, ok, hpos, htop, hb, k⟩ := h
    refine ⟨_, (pss_cons (ps_asg (pv 0) (pg_tup rfl (pgs_cons (pg_name (i := 2) sc_law_own_image.nd rfl (Or.inl rfl)) (pgs_cons (pg_name (i := 3) sc_law_own_image.nd rfl (Or.inl rfl)) pgs_nil))))
      (pss_cons (ps_for PassesOwn.never rfl (pi_range1 rfl T.z_range (pa_cons (pv 2) pa_nil)) (pg_name (i := 4) sc_law_own_image.nd rfl (Or.inl rfl)) (pss_one (ps_if (pt_cmpR op_eq (pe_op op_mod (pe_callTy c_int (by rfl) T.z_int (by decide +kernel) (pa_cons (pe_op op_sub (pv 1) (pv 4)) pa_nil)) (pv 2)) pe_int (nomark _)) (pss_cons (ps_set (i := 5) sc_law_own_image.nd rfl (Or.inl rfl) (pe_op op_fdivW (pe_op op_sub (pv 1) (pv 4)) (pv 2)))
      (pss_cons (ps_set (i := 6) sc_law_own_image.nd rfl (Or.inl rfl) (pe_ix ix_list (pv 3) (pv 4) (fun _ _ => rfl)))
      (pss_cons (ps_if (PW.pt (pw_or (pt_cmpR op_isN1 (pv 6) pe_non (nomark _)) (pw_or (pt_cmpR op_lt (pv 5) (pe_ix ix_tup (pv 6) pe_int (fun _ _ => rfl)) (nomark _)) (pw_or1 (pt_cmpR op_gt (pv 5) (pe_ix ix_tup (pv 6) pe_int (fun _ _ => rfl)) (nomark _)))))) (pss_one (ps_ret pe_non)) pss_nil)
      (pss_one (ps_ret (pe_op op_add (pe_op op_mulW (pe_ix ix_tup (pv 6) pe_int (fun _ _ => rfl)) (pv 5)) (pe_ix ix_tup (pv 6) pe_int (fun _ _ => rfl)))))))) pss_nil)))
      (pss_one (ps_ret pe_non)))), ?_⟩
    try dsimp only [L2.cxOf, L2.Cx.nox, L2.Cx.wish]
    change (_ : TS) _ ([some (.ref p), some (.int x), none, none, none, none, none] : St) _
    walk_at "rd"
    refine Rd.xfr1 ⟨by omega, by omega⟩ (fun i σ H' => ∃ v4 v5 v6, σ = [some (.ref p), some (.int x), some (.int rs.length), some (.ref lr), v4, v5, v6] ∧ H' = H ∧ ∀ j : Nat, j < i → ¬ (x - j) % rs.length = 0)
      ⟨none, none, none, rfl, rfl, fun j hj => by omega⟩ ?_ ?_
    · rintro i σ H' hi ⟨v4, v5, v6, rfl, rfl, hno⟩
      walk_at "rd"
      refine Rd.ifd (fun c1 => ?_) (fun c1 => ?_)
      · have hx : x = rs.length * ((x - i) / rs.length) + i := by
          have := Int.mul_ediv_add_emod (x - i) rs.length
          omega
        have hdiv : CDivW (x - i) rs.length := wide_div (b := 20) (by omega) (by omega) (by decide) (by decide)
        have hi' : i < rs.length := by omega
        have himg := img_at hi' ((x - i) / rs.length)
        rw [← hx] at himg
        have hqb : ((x - i) / (rs.length : Int)).natAbs < 2 ^ 201 := Nat.lt_of_le_of_lt (Int.natAbs_ediv_le_natAbs _ _) (by omega)
        obtain ⟨v, hv, hdv⟩ := rows_get h3 hi'
        have hmem : rs[i] ∈ rs := List.getElem_mem hi'
        rw [List.getElem?_eq_getElem hi'] at himg
        generalize hrow : rs[i] = r at *
        walk_at "rd"
        refine Rd.ixL (SqL.of hl) (atI_nat hv) ?_
        cases r with
        | none =>
          cases row_none hdv
          replace himg : img rs x = none := himg
          walk_at "rd"
          rw [himg] at k
          exact k
        | some r =>
          obtain ⟨a, b, c, d⟩ := r
          obtain ⟨p, rfl, hp⟩ := row_some hdv
          have hok := ok _ hmem a b c d rfl
          replace himg : img rs x = if c ≤ (x - i) / rs.length ∧ (x - i) / rs.length ≤ d then some (a * ((x - i) / rs.length) + b) else none := himg
          have hmul : CMulW a ((x - i) / rs.length) := wide_mul hok.1 hqb (by decide) (by decide) (by decide)
          walk_at "rd"
          refine Rd.ifd (fun c1 => ?_) (fun c1 => ?_)
          · walk_at "rd"
            rw [himg, if_neg (by omega)] at k
            exact k
          · walk_at "rd"
            refine Rd.ifd (fun c2 => ?_) (fun c2 => ?_)
            · walk_at "rd"
              rw [himg, if_neg (by omega)] at k
              exact k
            · walk_at "rd"
              rw [himg, if_pos (by omega)] at k
              exact k
      · walk_at "rd"
        refine ⟨_, _, _, rfl, rfl, fun j hj => ?_⟩
        by_cases hji : j = i
        · rw [hji]; exact c1
        · exact hno j (by omega)
    · rintro σ H' ⟨v4, v5, v6, rfl, rfl, hno⟩
      exfalso
      have h0 : 0 ≤ x % rs.length := Int.emod_nonneg _ (by omega)
      have h1 : x % rs.length < rs.length := Int.emod_lt_of_pos _ (by omega)
      refine hno (x % rs.length).toNat (by omega) ?_
      rw [Int.toNat_of_nonneg h0]
      have e := Int.mul_ediv_add_emod x rs.length
      rw [show x - x % (rs.length : Int) = rs.length * (x / rs.length) from by omega]
      exact Int.mul_emod_right _ _

theorem x_image {K : PySem.W.Frag} {C s : Addr} {H : Hp} {Q : VK} {E : XK} {rs : List Row4} {x : Int} (h : NumAt K C H s rs) (hb : x.natAbs < 2 ^ 200) (q : Q (optV (img rs x)) H) : spImage C K (.ref s :: ([.int x] ++ [])) H Q E := ⟨s, rs, x, rfl, h, hb, q⟩
theorem m_image {K : PySem.W.Frag} {C s : Addr} {H : Hp} {rs : List Row4} {P : Prop} (h : NumAt K C H s rs) (p : P) : Rd.xMeth C "image" (.ref s) H P := by
  obtain ⟨⟨dx, l, vs, h1, h2, h3⟩, h4, h5, h6⟩ := h
  exact Rd.xmeth h1 (no_NumberMap_image _ _) p
theorem optV_none : optV none = .non := rfl
/-- a tuple of a period and its rows -/
structure PartsAt (K : PySem.W.Frag) (H : Hp) (p : Addr) (rs : List Row4) : Prop where
  at_ : ∃ lr ws, H p = some (.tup [.int rs.length, .ref lr]) ∧ H lr = some (.lst ws) ∧ DpAll K H ws (rs.map rowD)
  ok : OkRows rs
  pos : 1 ≤ rs.length
  top : rs.length ≤ 6
theorem PartsAt.mono {K : PySem.W.Frag} {H H' : Hp} {s : Addr} {rs : List Row4} (h : PartsAt K H s rs) (e : Evl.Ex H H') : PartsAt K H' s rs := by
  obtain ⟨⟨l, vs, h1, h2, h3⟩, h4, h5, h6⟩ := h
  exact ⟨⟨l, vs, e _ _ h1, e _ _ h2, Dt.mnA h3 e⟩, h4, h5, h6⟩
def spEnds (C : Addr) (K : PySem.W.Frag) : Sp := fun vs H Q _ => ∃ (me p : Addr) (rs : List Row4) (i : Nat), vs = [.ref me, .ref p, .int i] ∧ NumAt K C H me rs ∧ PartsAt K H p rs ∧ i < rs.length ∧ ∀ H', Evl.Ex H H' → Q (.bl true) H'
theorem big_mul {n q : Int} (hn : n.natAbs < 2 ^ 20) (hq : q.natAbs < 2 ^ 150) : CMulW n q := wide_mul hn hq (by decide) (by decide) (by decide)
theorem mul_small {n q : Int} (h0 : 1 ≤ n) (h6 : n ≤ 6) (hq : q.natAbs < 2 ^ 150) : (n * q).natAbs < 2 ^ 153 := by
  rw [Int.natAbs_mul]
  have h1 : n.natAbs ≤ 6 := by omega
  exact Nat.lt_of_le_of_lt (Nat.mul_le_mul h1 (Nat.le_of_lt hq)) (by decide)
theorem ok_law_ends_right {ad : Ad} (T : Txt K mg ad) : FnOk P w K mg base CX0 2 ad.a_law_ends_right ad.d_law_ends_right ["made", "parts", "at"] (spEnds ad.c_NumberMap K) := by
  refine T.F_law_ends_right.ok sc_law_ends_right (fun vs H Q E h => ?_) (fun cdv A outer s H vs Q E hr h => ?_)
  · obtain ⟨me, p, rs, i, rfl, hN, hP, hi, k⟩ := h
    rfl
  · obtain ⟨me, p, rs, i, rfl, hN, hP, hi, k⟩ := h
    refine ⟨_, (pss_cons (ps_asg (pv 1) (pg_tup rfl (pgs_cons (pg_name (i := 3) sc_law_ends_right.nd rfl (Or.inl rfl)) (pgs_cons (pg_name (i := 4) sc_law_ends_right.nd rfl (Or.inl rfl)) pgs_nil))))
      (pss_cons (ps_set (i := 5) sc_law_ends_right.nd rfl (Or.inl rfl) (pe_ix ix_list (pv 4) (pv 2) (fun _ _ => rfl)))
      (pss_cons (ps_if (pt_cmpR op_isN1 (pv 5) pe_non (nomark _)) (pss_cons (ps_for PassesOwn.never rfl (pi_tup (pe_tup (pa_cons (pe_un un_neg pe_int) (pa_cons (pe_un un_neg pe_int) (pa_cons pe_int (pa_cons pe_int (pa_cons (pe_op op_pow pe_int pe_int) pa_nil))))))) (pg_name (i := 6) sc_law_ends_right.nd rfl (Or.inl rfl)) (pss_one (ps_if (pt_cmpR op_notN1 (pe_meth (pv 0) T.cl_NumberMap T.me_NumberMap_image (ok_NumberMap_image T) (hr.mono (by decide)) T.b_NumberMap_image .nil pass0 (pa_cons (pe_op op_add (pe_op op_mulW (pv 3) (pv 6)) (pv 2)) pa_nil)) pe_non (nomark _)) (pss_one (ps_ret pe_bl)) pss_nil)))
      (pss_one (ps_ret pe_bl))) pss_nil)
      (pss_cons (ps_for PassesOwn.never rfl (pi_tup (pe_tup (pa_cons (pe_ix ix_tup (pv 5) pe_int (fun _ _ => rfl)) (pa_cons (pe_op op_add (pe_ix ix_tup (pv 5) pe_int (fun _ _ => rfl)) pe_int) (pa_cons (pe_op op_sub (pe_ix ix_tup (pv 5) pe_int (fun _ _ => rfl)) pe_int) (pa_cons (pe_ix ix_tup (pv 5) pe_int (fun _ _ => rfl)) pa_nil)))))) (pg_name (i := 6) sc_law_ends_right.nd rfl (Or.inl rfl)) (pss_cons (ps_set (i := 7) sc_law_ends_right.nd rfl (Or.inl rfl) pe_non)
      (Evl.pss_cut (ps_if (pt_chain op_le op_le (pe_ix ix_tup (pv 5) pe_int (fun _ _ => rfl)) (pv 6) (pe_ix ix_tup (pv 5) pe_int (fun _ _ => rfl))) (pss_one (ps_set (i := 7) sc_law_ends_right.nd rfl (Or.inl rfl) (pe_op op_add (pe_op op_mulW (pe_ix ix_tup (pv 5) pe_int (fun _ _ => rfl)) (pv 6)) (pe_ix ix_tup (pv 5) pe_int (fun _ _ => rfl))))) pss_nil)
      (pss_one (ps_if (pt_not (pt_val (pe_call (ok_law_same T) (hr.mono (by decide)) rfl T.m_law_same T.F_law_same.kp T.b_law_same .nil pass0 (pa_cons (pe_meth (pv 0) T.cl_NumberMap T.me_NumberMap_image (ok_NumberMap_image T) (hr.mono (by decide)) T.b_NumberMap_image .nil pass0 (pa_cons (pe_op op_add (pe_op op_mulW (pv 3) (pv 6)) (pv 2)) pa_nil)) (pa_cons (pv 7) pa_nil))))) (pss_one (ps_ret pe_bl)) pss_nil)))))
      (pss_cons (ps_for PassesOwn.never rfl (pi_tup (pe_tup (pa_cons (pe_op op_sub (pe_ix ix_tup (pv 5) pe_int (fun _ _ => rfl)) pe_int) (pa_cons (pe_op op_sub (pe_ix ix_tup (pv 5) pe_int (fun _ _ => rfl)) (pe_op op_pow pe_int pe_int)) (pa_cons (pe_op op_add (pe_ix ix_tup (pv 5) pe_int (fun _ _ => rfl)) pe_int) (pa_cons (pe_op op_add (pe_ix ix_tup (pv 5) pe_int (fun _ _ => rfl)) (pe_op op_pow pe_int pe_int)) pa_nil)))))) (pg_name (i := 6) sc_law_ends_right.nd rfl (Or.inl rfl)) (pss_one (ps_if (pt_cmpR op_notN1 (pe_meth (pv 0) T.cl_NumberMap T.me_NumberMap_image (ok_NumberMap_image T) (hr.mono (by decide)) T.b_NumberMap_image .nil pass0 (pa_cons (pe_op op_add (pe_op op_mulW (pv 3) (pv 6)) (pv 2)) pa_nil)) pe_non (nomark _)) (pss_one (ps_ret pe_bl)) pss_nil)))
      (pss_one (ps_ret pe_bl))))))), ?_⟩
    try dsimp only [L2.cxOf, L2.Cx.nox, L2.Cx.wish]
    change (_ : TS) _ ([some (.ref me), some (.ref p), some (.int i), none, none, none, none, none] : St) _
    have cl_NumberMap := T.cl_NumberMap
    have n_NumberMap_period := T.n_NumberMap_period
    have n_NumberMap_rows := T.n_NumberMap_rows
    obtain ⟨⟨lr, ws, hp, hl, h3⟩, ok, hpos, htop⟩ := id hP
    walk_at "rd"
    obtain ⟨v, hv, hdv⟩ := rows_get h3 hi
    refine Rd.ixL (SqL.of hl) (atI_nat hv) ?_
    have himg := img_at hi
    have hmem : rs[i] ∈ rs := List.getElem_mem hi
    rw [List.getElem?_eq_getElem hi] at himg
    generalize hrow : rs[i] = r at *
    have hm : ∀ q : Int, q.natAbs < 2 ^ 150 → CMulW rs.length q := fun q hq => big_mul (by omega) hq
    have hz : ∀ q : Int, q.natAbs < 2 ^ 150 → (rs.length * q + i).natAbs < 2 ^ 200 := fun q hq => by
      have h1 := mul_small (n := rs.length) (by omega) (by omega) hq
      omega
    cases r with
    | none =>
      cases row_none hdv
      replace himg : ∀ q, img rs (rs.length * q + i) = none := himg
      walk_at "rd"
      refine Rd.xtup rfl fun p2 H2 n2 e2 h2 => ?_
      refine Rd.xft (SqT.of h2) (fun j σ H' => ∃ v6 v7 v8, σ = [some (.ref me), some (.ref p), some (.int i), some (.int rs.length), some (.ref lr), some .non, v6, v7] ∧ v8 = v7 ∧ H' = H2)
        ⟨none, none, none, rfl, rfl, rfl⟩ (fun j σ H' _ ⟨_, _, _, _, _, e⟩ => by rw [e]; exact SqT.of h2) ?_ ?_
      · rintro j y σ H' hj ⟨v6, v7, v8, rfl, rfl, rfl⟩
        have hy : ∃ q : Int, y = .int q ∧ q.natAbs < 2 ^ 150 := by
          match j, hj with
          | 0, hj => cases hj; exact ⟨_, rfl, by decide⟩
          | 1, hj => cases hj; exact ⟨_, rfl, by decide⟩
          | 2, hj => cases hj; exact ⟨_, rfl, by decide⟩
          | 3, hj => cases hj; exact ⟨_, rfl, by decide⟩
          | 4, hj => cases hj; exact ⟨_, rfl, by decide⟩
          | j + 5, hj => simp at hj
        obtain ⟨q, rfl, hq⟩ := hy
        have hmq := hm q hq
        have hzq := hz q hq
        walk_at "rd"
        refine m_image (hN.mono e2) ?_
        walk_at "rd"
        refine x_image (hN.mono e2) hzq ?_
        rw [himg q, optV_none]
        walk_at "rd"
        exact ⟨_, _, _, rfl, rfl, rfl⟩
      · rintro σ H' ⟨v6, v7, v8, rfl, rfl, rfl⟩
        walk_at "rd"
        exact k _ e2
    | some r =>
      obtain ⟨a, b, c, d⟩ := r
      obtain ⟨pr, rfl, hpr⟩ := row_some hdv
      obtain ⟨ha, hb, hc, hd, hcd⟩ := ok _ hmem a b c d rfl
      replace himg : ∀ q, img rs (rs.length * q + i) = if c ≤ q ∧ q ≤ d then some (a * q + b) else none := himg
      walk_at "rd"
      refine Rd.xtup rfl fun p2 H2 n2 e2 h2 => ?_
      refine Rd.xft (SqT.of h2) (fun j σ H' => ∃ v6 v7, σ = [some (.ref me), some (.ref p), some (.int i), some (.int rs.length), some (.ref lr), some (.ref pr), v6, v7] ∧ H' = H2)
        ⟨none, none, rfl, rfl⟩ (fun j σ H' _ ⟨_, _, _, e⟩ => by rw [e]; exact SqT.of h2) ?_ ?_
      · rintro j y σ Hc hj ⟨v6, v7, rfl, rfl⟩
        have hy : ∃ q : Int, y = .int q ∧ q.natAbs < 2 ^ 150 := by
          match j, hj with
          | 0, hj => cases hj; exact ⟨_, rfl, by omega⟩
          | 1, hj => cases hj; exact ⟨_, rfl, by omega⟩
          | 2, hj => cases hj; exact ⟨_, rfl, by omega⟩
          | 3, hj => cases hj; exact ⟨_, rfl, by omega⟩
          | j + 4, hj => simp at hj
        obtain ⟨q, rfl, hq⟩ := hy
        have hmq := hm q hq
        have hzq := hz q hq
        have hpr2 := Evl.ex_t e2 hpr
        have hmul : CMulW a q := wide_mul ha hq (by decide) (by decide) (by decide)
        walk_at "rd"
        refine ⟨fun σ H' => σ = [some (.ref me), some (.ref p), some (.int i), some (.int rs.length), some (.ref lr), some (.ref pr), some (.int q), some (optV (img rs (rs.length * q + i)))] ∧ H' = Hc, ?_, ?_⟩
        · walk_at "rd"
          refine Rd.ifd (fun c1 => ?_) (fun c1 => ?_)
          · walk_at "rd"
            refine Rd.ifd (fun c2 => ?_) (fun c2 => ?_)
            · walk_at "rd"
              rw [himg q, if_pos ⟨c1, c2⟩]
              exact ⟨rfl, rfl⟩
            · walk_at "rd"
              rw [himg q, if_neg (by omega)]
              exact ⟨rfl, rfl⟩
          · walk_at "rd"
            rw [himg q, if_neg (by omega)]
            exact ⟨rfl, rfl⟩
        · rintro σ H' ⟨rfl, rfl⟩
          walk_at "rd"
          refine m_image (hN.mono e2) ?_
          walk_at "rd"
          refine x_image (hN.mono e2) hzq ?_
          walk_at "rd"
          refine ⟨_, rfl, ?_⟩
          walk_at "rd"
          exact ⟨_, _, rfl, rfl⟩
      · rintro σ H' ⟨v6, v7, rfl, rfl⟩
        have hpr2 := Evl.ex_t e2 hpr
        walk_at "rd"
        refine Rd.xtup rfl fun p3 H3 n3 e3 h3' => ?_
        refine Rd.xft (SqT.of h3') (fun j σ H' => ∃ v6 v7, σ = [some (.ref me), some (.ref p), some (.int i), some (.int rs.length), some (.ref lr), some (.ref pr), v6, v7] ∧ H' = H3)
          ⟨_, _, rfl, rfl⟩ (fun j σ H' _ ⟨_, _, _, e⟩ => by rw [e]; exact SqT.of h3') ?_ ?_
        · rintro j y σ H' hj ⟨v6, v7, rfl, rfl⟩
          have hy : ∃ q : Int, y = .int q ∧ q.natAbs < 2 ^ 150 ∧ ¬ (c ≤ q ∧ q ≤ d) := by
            match j, hj with
            | 0, hj => cases hj; exact ⟨_, rfl, by omega, by omega⟩
            | 1, hj => cases hj; exact ⟨_, rfl, by omega, by omega⟩
            | 2, hj => cases hj; exact ⟨_, rfl, by omega, by omega⟩
            | 3, hj => cases hj; exact ⟨_, rfl, by omega, by omega⟩
            | j + 4, hj => simp at hj
          obtain ⟨q, rfl, hq, hout⟩ := hy
          have hmq := hm q hq
          have hzq := hz q hq
          walk_at "rd"
          refine m_image (hN.mono (e2.trans e3)) ?_
          walk_at "rd"
          refine x_image (hN.mono (e2.trans e3)) hzq ?_
          rw [himg q, if_neg hout, optV_none]
          walk_at "rd"
          exact ⟨_, _, rfl, rfl⟩
        · rintro σ H' ⟨v6, v7, rfl, rfl⟩
          walk_at "rd"
          exact k _ (e2.trans e3)
def spLaw (K : PySem.W.Frag) : Sp := fun vs H Q _ => ∃ (a : Addr) (ns : List Int), vs = [.ref a] ∧ SqL K H a (ns.map V.int) ∧ ns.length ≤ 63 ∧ ∀ H', Q (.bl true) H'
theorem ok_law {ad : Ad} (T : Txt K mg ad) : FnOk P w K mg base CX0 4 ad.a_law ad.d_law ["script"] (spLaw K) := by
  refine T.F_law.ok sc_law (fun vs H Q E h => ?_) (fun cdv A outer s H vs Q E hr h => ?_)
  · obtain ⟨a, ns, rfl, hS, hn, k⟩ := h
    rfl
  · obtain ⟨a, ns, rfl, hS, hn, k⟩ := h
    refine ⟨_, (pss_cons (ps_set (i := 1) sc_law.nd rfl (Or.inl rfl) (pe_call (ok_law_deck T) (hr.mono (by decide)) rfl T.m_law_deck T.F_law_deck.kp T.b_law_deck .nil pass0 (pa_cons (pv 0) (pa_cons pe_int (pa_cons pe_int pa_nil)))))
      (pss_cons (ps_asg (pe_call (ok_law_parts T) (hr.mono (by decide)) rfl T.m_law_parts T.F_law_parts.kp T.b_law_parts .nil pass0 (pa_cons (pv 1) (pa_cons pe_int pa_nil))) (pg_tup rfl (pgs_cons (pg_name (i := 2) sc_law.nd rfl (Or.inl rfl)) (pgs_cons (pg_name (i := 3) sc_law.nd rfl (Or.inl rfl)) pgs_nil))))
      (pss_cons (ps_set (i := 4) sc_law.nd rfl (Or.inl rfl) (pe_callTy c_list (by rfl) T.z_list (by decide +kernel) (pa_cons (pv 3) pa_nil)))
      (pss_cons (ps_set (i := 5) sc_law.nd rfl (Or.inl rfl) (pe_make T.mk_NumberMap (ok_NumberMap_init_ T) (hr.mono (by decide)) rfl T.mg_NumberMap T.b_NumberMap_init_ .nil pass0 (pa_cons (pv 2) (pa_cons (pv 4) pa_nil))))
      (pss_cons (ps_asg pe_non (pg_sub (pv 4) pe_int set_list))
      (pss_cons (ps_expr (pe_bm PySem.F.plainAttrs_list PySem.F.slot_list_append PySem.F.type_list_append mt_append (pv 4) (pa_cons (pe_tup (pa_cons pe_int (pa_cons pe_int (pa_cons pe_int (pa_cons pe_int pa_nil))))) pa_nil)))
      (pss_cons (ps_if (PW.pt (pw_or (pt_cmpR op_ne (pe_fld (pv 5) rfl) (pv 2) (nomark _)) (pw_or (pt_not (pt_val (pe_callB call_isi (by rfl) T.z_isinstance (by decide +kernel) (pa_cons (pe_fld (pv 5) rfl) (pa_cons (pe_bltn rfl T.z_list (by decide +kernel) (v := .ty "list") rfl) pa_nil))))) (pw_or1 (pt_cmpR (op_neD hr.units) (pe_fld (pv 5) rfl) (pv 3) (nomark _)))))) (pss_one (ps_ret pe_bl)) pss_nil)
      (pss_cons (ps_for PassesOwn.never rfl (pi_range1 rfl T.z_range (pa_cons (pv 2) pa_nil)) (pg_name (i := 6) sc_law.nd rfl (Or.inl rfl)) (pss_one (ps_if (pt_not (pt_val (pe_call (ok_law_ends_right T) (hr.mono (by decide)) rfl T.m_law_ends_right T.F_law_ends_right.kp T.b_law_ends_right .nil pass0 (pa_cons (pv 5) (pa_cons (pe_tup (pa_cons (pv 2) (pa_cons (pv 3) pa_nil))) (pa_cons (pv 6) pa_nil)))))) (pss_one (ps_ret pe_bl)) pss_nil)))
      (pss_cons (ps_for PassesOwn.never rfl (pi_range1 rfl T.z_range (pa_cons pe_int pa_nil)) (pg_name (i := 7) sc_law.nd rfl (Or.inl rfl)) (pss_cons (ps_set (i := 8) sc_law.nd rfl (Or.inl rfl) (pe_call (ok_law_whole T) (hr.mono (by decide)) rfl T.m_law_whole T.F_law_whole.kp T.b_law_whole .nil pass0 (pa_cons (pv 1) pa_nil)))
      (pss_one (ps_if (pt_not (pt_val (pe_call (ok_law_same T) (hr.mono (by decide)) rfl T.m_law_same T.F_law_same.kp T.b_law_same .nil pass0 (pa_cons (pe_meth (pv 5) T.cl_NumberMap T.me_NumberMap_image (ok_NumberMap_image T) (hr.mono (by decide)) T.b_NumberMap_image .nil pass0 (pa_cons (pv 8) pa_nil)) (pa_cons (pe_call (ok_law_own_image T) (hr.mono (by decide)) rfl T.m_law_own_image T.F_law_own_image.kp T.b_law_own_image .nil pass0 (pa_cons (pe_tup (pa_cons (pv 2) (pa_cons (pv 3) pa_nil))) (pa_cons (pv 8) pa_nil))) pa_nil))))) (pss_one (ps_ret pe_bl)) pss_nil))))
      (pss_one (ps_ret (pe_cmpR (op_eqD hr.units) (pe_fld (pv 5) rfl) (pv 3) (nomark _))))))))))))), ?_⟩
    try dsimp only [L2.cxOf, L2.Cx.nox, L2.Cx.wish]
    change (_ : TS) _ ([some (.ref a), none, none, none, none, none, none, none, none] : St) _
    have cl_NumberMap := T.cl_NumberMap
    have n_NumberMap_period := T.n_NumberMap_period
    have n_NumberMap_rows := T.n_NumberMap_rows
    walk_at "rd"
    refine ⟨a, ns, 20, 12, rfl, hS, hn, by decide, by decide, by decide, by decide, fun l hl => ?_⟩
    have hD : (upd H l (Dk.DkO l)) l = some (Dk.DkO l) := upd_same
    walk_at "rd"
    refine ⟨l, 6, rfl, hD, by decide, by decide, fun p lr ws rs H1 e1 np nl hp hlr hd ok hpos htop => ?_⟩
    walk_at "rd"
    refine Rd.listOf (by walk_at "sq") fun h2 H2 n2 e2 hh => ?_
    walk_at "rd"
    refine Rd.xmk fun x dx H3 e3 nx hx => ?_
    refine ⟨x, dx, h2, ws, rs, rfl, hx, e3 _ _ hh, Dt.mnA hd (e2.trans e3), ok, hpos, fun l2 H4 n4 hx4 hl4 same4 => ⟨rfl, ?_⟩⟩
    have e24 : Evl.Ex H2 H4 := Rd.exBut e3 nx same4
    have hh4 : H4 h2 = some (.lst ws) := e24 _ _ hh
    have hlen : ws.length = rs.length := by rw [Dt.lenA hd, List.length_map]
    walk_at "rd"
    refine Rd.setL hh4 (n := 0) (by rw [show ((0 : Int)) = ((0 : Nat) : Int) from rfl]; exact Evl.ixN_nat (by omega)) ?_
    walk_at "rd"
    refine Rd.xtup rfl fun p5 H5 n5 e5 h5 => ?_
    walk_at "rd"
    refine Rd.append (e5 _ _ upd_same) (by rw [List.length_set]; omega) ?_
    have e16 : Evl.Ex H1 (upd H5 h2 (.lst (ws.set 0 .non ++ [.ref p5]))) := Evl.Ex.mut ((Evl.Ex.mut (e2.trans e24) n2).trans e5) n2
    have nxh : x ≠ h2 := Ne.symm (ne_of_none hh nx)
    have nlh : l2 ≠ h2 := Ne.symm (ne_of_none (e3 _ _ hh) n4)
    have hx6 : (upd H5 h2 (.lst (ws.set 0 .non ++ [.ref p5]))) x = some (.ins ad.c_NumberMap dx (fs_NumberMap (.int rs.length) (.ref l2))) := by
      rw [upd_ne nxh]
      exact e5 _ _ (by rw [upd_ne nxh]; exact hx4)
    have hl6 : (upd H5 h2 (.lst (ws.set 0 .non ++ [.ref p5]))) l2 = some (.lst ws) := by
      rw [upd_ne nlh]
      exact e5 _ _ (by rw [upd_ne nlh]; exact hl4)
    generalize upd H5 h2 (.lst (ws.set 0 .non ++ [.ref p5])) = H6 at *
    have hN : NumAt K ad.c_NumberMap H6 x rs := ⟨⟨dx, l2, ws, hx6, hl6, Dt.mnA hd e16⟩, hpos, by omega, ok⟩
    have hlr6 := e16 _ _ hlr
    have hd6 := Dt.mnA hd e16
    have hD6 : H6 l = some (Dk.DkO l) := e16 _ _ (e1 _ _ hD)
    walk_at "rd"
    refine Rd.neDr (Dt.ofL hl6 hd6) (Dt.ofL hlr6 hd6) (shaped_rows rs) ?_
    walk_at "rd"
    refine Rd.xfr1 ⟨by omega, by omega⟩ (fun i σ H' => ∃ v6 v7 v8, σ = [some (.ref a), some (.ref l), some (.int rs.length), some (.ref lr), some (.ref h2), some (.ref x), v6, v7, v8] ∧ Evl.Ex H6 H') ⟨_, _, _, rfl, Evl.Ex.refl _⟩ ?_ ?_
    · rintro i σ H7 hi ⟨v6, v7, v8, rfl, e7⟩
      walk_at "rd"
      refine Rd.xtup rfl fun p8 H8 n8 e8 h8 => ?_
      walk_at "rd"
      refine ⟨x, p8, rs, i, rfl, hN.mono (e7.trans e8), ⟨⟨lr, ws, h8, e8 _ _ (e7 _ _ hlr6), Dt.mnA hd6 (e7.trans e8)⟩, ok, hpos, htop⟩, by omega, fun H9 e9 => ?_⟩
      walk_at "rd"
      exact ⟨_, _, _, rfl, (e7.trans e8).trans e9⟩
    · rintro σ H7 ⟨v6, v7, v8, rfl, e7⟩
      walk_at "rd"
      refine Rd.xfr1 ⟨by decide, by decide⟩ (fun i σ H' => ∃ v6 v7 v8, σ = [some (.ref a), some (.ref l), some (.int rs.length), some (.ref lr), some (.ref h2), some (.ref x), v6, v7, v8] ∧ Evl.Ex H6 H') ⟨_, _, _, rfl, e7⟩ ?_ ?_
      · rintro i σ H8 hi ⟨v6, v7, v8, rfl, e8⟩
        walk_at "rd"
        intro z hz
        have hN8 := hN.mono e8
        walk_at "rd"
        refine x_image hN8 (by omega) ?_
        walk_at "rd"
        refine Rd.xtup rfl fun p9 H9 n9 e9 h9 => ?_
        walk_at "rd"
        refine ⟨p9, lr, ws, rs, z, rfl, h9, e9 _ _ (e8 _ _ hlr6), Dt.mnA hd6 (e8.trans e9), ok, hpos, htop, by omega, ?_⟩
        walk_at "rd"
        refine ⟨_, rfl, ?_⟩
        walk_at "rd"
        exact ⟨_, _, _, rfl, e8.trans e9⟩
      · rintro σ H8 ⟨v6, v7, v8, rfl, e8⟩
        walk_at "rd"
        refine Rd.eqDr (Dt.ofL (e8 _ _ hl6) (Dt.mnA hd6 e8)) (Dt.ofL (e8 _ _ hlr6) (Dt.mnA hd6 e8)) (shaped_rows rs) ?_
        walk_at "rd"
        exact k _

end
theorem all_mk {K : PySem.W.Frag} {h : Heap} {mg : Str → Option Value} {fa : Addr} (X : K.In h) (G : h.Ns mainGlobals mg) (hfa : mg "law" = some (.ref fa))
    {c_NumberMap : Addr}
    {f_law_take : Addr} {oc_law_take kV_law_take dc_law_take pm_law_take cd_law_take ct_law_take : Value} {od_law_take an_law_take : Option Addr} {sl_law_take : Array (Option Value)}
    {f_law_deck : Addr} {oc_law_deck kV_law_deck dc_law_deck pm_law_deck cd_law_deck ct_law_deck : Value} {od_law_deck an_law_deck : Option Addr} {sl_law_deck : Array (Option Value)}
    {f_law_whole : Addr} {oc_law_whole kV_law_whole dc_law_whole pm_law_whole cd_law_whole ct_law_whole : Value} {od_law_whole an_law_whole : Option Addr} {sl_law_whole : Array (Option Value)}
    {f_law_parts : Addr} {oc_law_parts kV_law_parts dc_law_parts pm_law_parts cd_law_parts ct_law_parts : Value} {od_law_parts an_law_parts : Option Addr} {sl_law_parts : Array (Option Value)}
    {f_law_same : Addr} {oc_law_same kV_law_same dc_law_same pm_law_same cd_law_same ct_law_same : Value} {od_law_same an_law_same : Option Addr} {sl_law_same : Array (Option Value)}
    {f_NumberMap_init_ : Addr} {oc_NumberMap_init_ kV_NumberMap_init_ dc_NumberMap_init_ pm_NumberMap_init_ cd_NumberMap_init_ ct_NumberMap_init_ : Value} {od_NumberMap_init_ an_NumberMap_init_ : Option Addr} {sl_NumberMap_init_ : Array (Option Value)}
    {f_NumberMap_image : Addr} {oc_NumberMap_image kV_NumberMap_image dc_NumberMap_image pm_NumberMap_image cd_NumberMap_image ct_NumberMap_image : Value} {od_NumberMap_image an_NumberMap_image : Option Addr} {sl_NumberMap_image : Array (Option Value)}
    {f_law_own_image : Addr} {oc_law_own_image kV_law_own_image dc_law_own_image pm_law_own_image cd_law_own_image ct_law_own_image : Value} {od_law_own_image an_law_own_image : Option Addr} {sl_law_own_image : Array (Option Value)}
    {f_law_ends_right : Addr} {oc_law_ends_right kV_law_ends_right dc_law_ends_right pm_law_ends_right cd_law_ends_right ct_law_ends_right : Value} {od_law_ends_right an_law_ends_right : Option Addr} {sl_law_ends_right : Array (Option Value)}
    {f_law : Addr} {oc_law kV_law dc_law pm_law cd_law ct_law : Value} {od_law an_law : Option Addr} {sl_law : Array (Option Value)}
    (A_NumberMap : PySem.W.nsIn K mainGlobals "NumberMap" = some (some (.ref c_NumberMap)))
    (a_law_take : PySem.W.nsIn K mainGlobals "_law_take" = some (some (.ref f_law_take)))
    (l_law_take : K.lookup f_law_take = some ⟨oc_law_take, od_law_take, .func (PySem.W.fnOf "_law_take" "_law_take" (defArgs s_law_take) (defBody s_law_take) (defScope s_law_take) .none kV_law_take dc_law_take pm_law_take an_law_take cd_law_take ct_law_take), sl_law_take⟩)
    (c_law_take : PySem.W.codeIn K cd_law_take "_law_take" = true)
    (k_law_take : PySem.W.keepIn K (.ref f_law_take) = true)
    (a_law_deck : PySem.W.nsIn K mainGlobals "_law_deck" = some (some (.ref f_law_deck)))
    (l_law_deck : K.lookup f_law_deck = some ⟨oc_law_deck, od_law_deck, .func (PySem.W.fnOf "_law_deck" "_law_deck" (defArgs s_law_deck) (defBody s_law_deck) (defScope s_law_deck) .none kV_law_deck dc_law_deck pm_law_deck an_law_deck cd_law_deck ct_law_deck), sl_law_deck⟩)
    (c_law_deck : PySem.W.codeIn K cd_law_deck "_law_deck" = true)
    (k_law_deck : PySem.W.keepIn K (.ref f_law_deck) = true)
    (a_law_whole : PySem.W.nsIn K mainGlobals "_law_whole" = some (some (.ref f_law_whole)))
    (l_law_whole : K.lookup f_law_whole = some ⟨oc_law_whole, od_law_whole, .func (PySem.W.fnOf "_law_whole" "_law_whole" (defArgs s_law_whole) (defBody s_law_whole) (defScope s_law_whole) .none kV_law_whole dc_law_whole pm_law_whole an_law_whole cd_law_whole ct_law_whole), sl_law_whole⟩)
    (c_law_whole : PySem.W.codeIn K cd_law_whole "_law_whole" = true)
    (k_law_whole : PySem.W.keepIn K (.ref f_law_whole) = true)
    (a_law_parts : PySem.W.nsIn K mainGlobals "_law_parts" = some (some (.ref f_law_parts)))
    (l_law_parts : K.lookup f_law_parts = some ⟨oc_law_parts, od_law_parts, .func (PySem.W.fnOf "_law_parts" "_law_parts" (defArgs s_law_parts) (defBody s_law_parts) (defScope s_law_parts) .none kV_law_parts dc_law_parts pm_law_parts an_law_parts cd_law_parts ct_law_parts), sl_law_parts⟩)
    (c_law_parts : PySem.W.codeIn K cd_law_parts "_law_parts" = true)
    (k_law_parts : PySem.W.keepIn K (.ref f_law_parts) = true)
    (a_law_same : PySem.W.nsIn K mainGlobals "_law_same" = some (some (.ref f_law_same)))
    (l_law_same : K.lookup f_law_same = some ⟨oc_law_same, od_law_same, .func (PySem.W.fnOf "_law_same" "_law_same" (defArgs s_law_same) (defBody s_law_same) (defScope s_law_same) .none kV_law_same dc_law_same pm_law_same an_law_same cd_law_same ct_law_same), sl_law_same⟩)
    (c_law_same : PySem.W.codeIn K cd_law_same "_law_same" = true)
    (k_law_same : PySem.W.keepIn K (.ref f_law_same) = true)
    (a_NumberMap_init_ : PySem.W.findIn K (.ref c_NumberMap) "__init__" = some (some (.ref f_NumberMap_init_)))
    (i_NumberMap_init_ : PySem.W.isFn K (.ref f_NumberMap_init_) = true)
    (l_NumberMap_init_ : K.lookup f_NumberMap_init_ = some ⟨oc_NumberMap_init_, od_NumberMap_init_, .func (PySem.W.fnOf "__init__" "NumberMap.__init__" (defArgs s_NumberMap_init_) (defBody s_NumberMap_init_) (defScope s_NumberMap_init_) .none kV_NumberMap_init_ dc_NumberMap_init_ pm_NumberMap_init_ an_NumberMap_init_ cd_NumberMap_init_ ct_NumberMap_init_), sl_NumberMap_init_⟩)
    (c_NumberMap_init_ : PySem.W.codeIn K cd_NumberMap_init_ "NumberMap.__init__" = true)
    (k_NumberMap_init_ : PySem.W.keepIn K (.ref f_NumberMap_init_) = true)
    (a_NumberMap_image : PySem.W.findIn K (.ref c_NumberMap) "image" = some (some (.ref f_NumberMap_image)))
    (i_NumberMap_image : PySem.W.isFn K (.ref f_NumberMap_image) = true)
    (l_NumberMap_image : K.lookup f_NumberMap_image = some ⟨oc_NumberMap_image, od_NumberMap_image, .func (PySem.W.fnOf "image" "NumberMap.image" (defArgs s_NumberMap_image) (defBody s_NumberMap_image) (defScope s_NumberMap_image) .none kV_NumberMap_image dc_NumberMap_image pm_NumberMap_image an_NumberMap_image cd_NumberMap_image ct_NumberMap_image), sl_NumberMap_image⟩)
    (c_NumberMap_image : PySem.W.codeIn K cd_NumberMap_image "NumberMap.image" = true)
    (k_NumberMap_image : PySem.W.keepIn K (.ref f_NumberMap_image) = true)
    (a_law_own_image : PySem.W.nsIn K mainGlobals "_law_own_image" = some (some (.ref f_law_own_image)))
    (l_law_own_image : K.lookup f_law_own_image = some ⟨oc_law_own_image, od_law_own_image, .func (PySem.W.fnOf "_law_own_image" "_law_own_image" (defArgs s_law_own_image) (defBody s_law_own_image) (defScope s_law_own_image) .none kV_law_own_image dc_law_own_image pm_law_own_image an_law_own_image cd_law_own_image ct_law_own_image), sl_law_own_image⟩)
    (c_law_own_image : PySem.W.codeIn K cd_law_own_image "_law_own_image" = true)
    (k_law_own_image : PySem.W.keepIn K (.ref f_law_own_image) = true)
    (a_law_ends_right : PySem.W.nsIn K mainGlobals "_law_ends_right" = some (some (.ref f_law_ends_right)))
    (l_law_ends_right : K.lookup f_law_ends_right = some ⟨oc_law_ends_right, od_law_ends_right, .func (PySem.W.fnOf "_law_ends_right" "_law_ends_right" (defArgs s_law_ends_right) (defBody s_law_ends_right) (defScope s_law_ends_right) .none kV_law_ends_right dc_law_ends_right pm_law_ends_right an_law_ends_right cd_law_ends_right ct_law_ends_right), sl_law_ends_right⟩)
    (c_law_ends_right : PySem.W.codeIn K cd_law_ends_right "_law_ends_right" = true)
    (k_law_ends_right : PySem.W.keepIn K (.ref f_law_ends_right) = true)
    (a_law : PySem.W.nsIn K mainGlobals "law" = some (some (.ref f_law)))
    (l_law : K.lookup f_law = some ⟨oc_law, od_law, .func (PySem.W.fnOf "law" "law" (defArgs s_law) (defBody s_law) (defScope s_law) .none kV_law dc_law pm_law an_law cd_law ct_law), sl_law⟩)
    (c_law : PySem.W.codeIn K cd_law "law" = true)
    (k_law : PySem.W.keepIn K (.ref f_law) = true)
    (pg_NumberMap : PySem.W.plainGet K c_NumberMap Str.empty = true)
    (hd_NumberMap : PySem.W.hasDictIn K c_NumberMap = true)
    (po_NumberMap : PySem.W.plainOver K c_NumberMap = true)
    (sa_NumberMap : PySem.W.findIn K (.ref c_NumberMap) "__setattr__" = some (some (.builtin "object.__setattr__")))
    (mk_NumberMap : PySem.W.makesIn K c_NumberMap = true)
    (kc_NumberMap : PySem.W.keepIn K (.ref c_NumberMap) = true)
    (n_NumberMap_period : PySem.W.findIn K (.ref c_NumberMap) "period" = some none)
    (n_NumberMap_rows : PySem.W.findIn K (.ref c_NumberMap) "rows" = some none)
    (z_abs : PySem.W.nsIn K mainGlobals "abs" = some none)
    (z_bool : PySem.W.nsIn K mainGlobals "bool" = some none)
    (z_int : PySem.W.nsIn K mainGlobals "int" = some none)
    (z_isinstance : PySem.W.nsIn K mainGlobals "isinstance" = some none)
    (z_len : PySem.W.nsIn K mainGlobals "len" = some none)
    (z_list : PySem.W.nsIn K mainGlobals "list" = some none)
    (z_range : PySem.W.nsIn K mainGlobals "range" = some none)
    : ∃ ad : Ad, Txt K mg ad ∧ fa = ad.a_law ∧ ∀ (s : Shared) (v : Value), BindsTo s ad.d_law ⟨[v], []⟩ [("script", v)] := by
  have e := hfa.symm.trans (PySem.W.mg_of X G a_law)
  cases e
  have F_law_take := fun_mk (st := s_law_take) l_law_take c_law_take k_law_take
  have b_law_take := F_law_take.binds (ps := ["deck", "many"]) fun _ _ _ _ _ _ us hl => match us, hl with | [_, _], _ => rfl
  have F_law_deck := fun_mk (st := s_law_deck) l_law_deck c_law_deck k_law_deck
  have b_law_deck := F_law_deck.binds (ps := ["script", "cells", "each"]) fun _ _ _ _ _ _ us hl => match us, hl with | [_, _, _], _ => rfl
  have F_law_whole := fun_mk (st := s_law_whole) l_law_whole c_law_whole k_law_whole
  have b_law_whole := F_law_whole.binds (ps := ["deck"]) fun _ _ _ _ _ _ us hl => match us, hl with | [_], _ => rfl
  have F_law_parts := fun_mk (st := s_law_parts) l_law_parts c_law_parts k_law_parts
  have b_law_parts := F_law_parts.binds (ps := ["deck", "most"]) fun _ _ _ _ _ _ us hl => match us, hl with | [_, _], _ => rfl
  have F_law_same := fun_mk (st := s_law_same) l_law_same c_law_same k_law_same
  have b_law_same := F_law_same.binds (ps := ["actual", "expected"]) fun _ _ _ _ _ _ us hl => match us, hl with | [_, _], _ => rfl
  have F_NumberMap_init_ := fun_mk (st := s_NumberMap_init_) l_NumberMap_init_ c_NumberMap_init_ k_NumberMap_init_
  have b_NumberMap_init_ := F_NumberMap_init_.binds (ps := ["self", "period", "rows"]) fun _ _ _ _ _ _ us hl => match us, hl with | [_, _, _], _ => rfl
  have F_NumberMap_image := fun_mk (st := s_NumberMap_image) l_NumberMap_image c_NumberMap_image k_NumberMap_image
  have b_NumberMap_image := F_NumberMap_image.binds (ps := ["self", "x"]) fun _ _ _ _ _ _ us hl => match us, hl with | [_, _], _ => rfl
  have F_law_own_image := fun_mk (st := s_law_own_image) l_law_own_image c_law_own_image k_law_own_image
  have b_law_own_image := F_law_own_image.binds (ps := ["parts", "x"]) fun _ _ _ _ _ _ us hl => match us, hl with | [_, _], _ => rfl
  have F_law_ends_right := fun_mk (st := s_law_ends_right) l_law_ends_right c_law_ends_right k_law_ends_right
  have b_law_ends_right := F_law_ends_right.binds (ps := ["made", "parts", "at"]) fun _ _ _ _ _ _ us hl => match us, hl with | [_, _, _], _ => rfl
  have F_law := fun_mk (st := s_law) l_law c_law k_law
  have b_law := F_law.binds (ps := ["script"]) fun _ _ _ _ _ _ us hl => match us, hl with | [_], _ => rfl
  refine ⟨⟨f_law_take, (PySem.W.fnOf "_law_take" "_law_take" (defArgs s_law_take) (defBody s_law_take) (defScope s_law_take) .none kV_law_take dc_law_take pm_law_take an_law_take cd_law_take ct_law_take), f_law_deck, (PySem.W.fnOf "_law_deck" "_law_deck" (defArgs s_law_deck) (defBody s_law_deck) (defScope s_law_deck) .none kV_law_deck dc_law_deck pm_law_deck an_law_deck cd_law_deck ct_law_deck), f_law_whole, (PySem.W.fnOf "_law_whole" "_law_whole" (defArgs s_law_whole) (defBody s_law_whole) (defScope s_law_whole) .none kV_law_whole dc_law_whole pm_law_whole an_law_whole cd_law_whole ct_law_whole), f_law_parts, (PySem.W.fnOf "_law_parts" "_law_parts" (defArgs s_law_parts) (defBody s_law_parts) (defScope s_law_parts) .none kV_law_parts dc_law_parts pm_law_parts an_law_parts cd_law_parts ct_law_parts), f_law_same, (PySem.W.fnOf "_law_same" "_law_same" (defArgs s_law_same) (defBody s_law_same) (defScope s_law_same) .none kV_law_same dc_law_same pm_law_same an_law_same cd_law_same ct_law_same), f_NumberMap_init_, (PySem.W.fnOf "__init__" "NumberMap.__init__" (defArgs s_NumberMap_init_) (defBody s_NumberMap_init_) (defScope s_NumberMap_init_) .none kV_NumberMap_init_ dc_NumberMap_init_ pm_NumberMap_init_ an_NumberMap_init_ cd_NumberMap_init_ ct_NumberMap_init_), f_NumberMap_image, (PySem.W.fnOf "image" "NumberMap.image" (defArgs s_NumberMap_image) (defBody s_NumberMap_image) (defScope s_NumberMap_image) .none kV_NumberMap_image dc_NumberMap_image pm_NumberMap_image an_NumberMap_image cd_NumberMap_image ct_NumberMap_image), f_law_own_image, (PySem.W.fnOf "_law_own_image" "_law_own_image" (defArgs s_law_own_image) (defBody s_law_own_image) (defScope s_law_own_image) .none kV_law_own_image dc_law_own_image pm_law_own_image an_law_own_image cd_law_own_image ct_law_own_image), f_law_ends_right, (PySem.W.fnOf "_law_ends_right" "_law_ends_right" (defArgs s_law_ends_right) (defBody s_law_ends_right) (defScope s_law_ends_right) .none kV_law_ends_right dc_law_ends_right pm_law_ends_right an_law_ends_right cd_law_ends_right ct_law_ends_right), fa, (PySem.W.fnOf "law" "law" (defArgs s_law) (defBody s_law) (defScope s_law) .none kV_law dc_law pm_law an_law cd_law ct_law), c_NumberMap⟩, ?_, rfl, fun s v => .of_eq rfl⟩
  exact {
    F_law_take := F_law_take
    b_law_take := b_law_take
    m_law_take := PySem.W.mg_of X G a_law_take
    F_law_deck := F_law_deck
    b_law_deck := b_law_deck
    m_law_deck := PySem.W.mg_of X G a_law_deck
    F_law_whole := F_law_whole
    b_law_whole := b_law_whole
    m_law_whole := PySem.W.mg_of X G a_law_whole
    F_law_parts := F_law_parts
    b_law_parts := b_law_parts
    m_law_parts := PySem.W.mg_of X G a_law_parts
    F_law_same := F_law_same
    b_law_same := b_law_same
    m_law_same := PySem.W.mg_of X G a_law_same
    F_NumberMap_init_ := F_NumberMap_init_
    b_NumberMap_init_ := b_NumberMap_init_
    F_NumberMap_image := F_NumberMap_image
    b_NumberMap_image := b_NumberMap_image
    me_NumberMap_image := ⟨a_NumberMap_image, i_NumberMap_image, k_NumberMap_image⟩
    F_law_own_image := F_law_own_image
    b_law_own_image := b_law_own_image
    m_law_own_image := PySem.W.mg_of X G a_law_own_image
    F_law_ends_right := F_law_ends_right
    b_law_ends_right := b_law_ends_right
    m_law_ends_right := PySem.W.mg_of X G a_law_ends_right
    F_law := F_law
    b_law := b_law
    m_law := PySem.W.mg_of X G a_law
    cl_NumberMap := ⟨pg_NumberMap, hd_NumberMap, po_NumberMap, sa_NumberMap⟩
    mg_NumberMap := PySem.W.mg_of X G A_NumberMap
    mk_NumberMap := ⟨mk_NumberMap, a_NumberMap_init_, i_NumberMap_init_, kc_NumberMap⟩
    n_NumberMap_period := n_NumberMap_period
    n_NumberMap_rows := n_NumberMap_rows
    z_abs := PySem.W.mg_none_of X G z_abs
    z_bool := PySem.W.mg_none_of X G z_bool
    z_int := PySem.W.mg_none_of X G z_int
    z_isinstance := PySem.W.mg_none_of X G z_isinstance
    z_len := PySem.W.mg_none_of X G z_len
    z_list := PySem.W.mg_none_of X G z_list
    z_range := PySem.W.mg_none_of X G z_range
  }
theorem walk {l : PySem.W.OpenLaw} {q : Program} {loose : List Str} {XP : (Str → Option Value) → Heap → Prop} {YP : World → Heap → Prop} {d : DefRec} {K : Params → PySem.W.Frag} (hn : l.most = some 63) (hdf : d.params.defaults = [])
    (hY : ∀ (w : World) (h : Heap), YP w h → (K w.params).In h)
    (F : ∀ (w : World) (mg : Str → Option Value) (fa : Addr) (h : Heap), (K w.params).In h → h.Ns mainGlobals mg → mg d.name = some (.ref fa) →
      ∃ ad : Ad, Txt (K w.params) mg ad ∧ fa = ad.a_law ∧ ∀ (s : Shared) (v : Value), BindsTo s ad.d_law ⟨[v], []⟩ [("script", v)]) :
    PySem.W.WalkO q loose XP YP l.row.toRowW d [] (fun f vs => PySem.call f vs) := by
  refine L2.walk_of (n := 63) (k := 4) (x := "script") (CX := fun _ => CX0) (sp := fun w => spLaw (K w.params)) hn (by decide) hdf ⟨rfl, by decide, by decide⟩ hY (fun w mg fa h KX G hmg => ?_) (fun _ _ a ns hl _ hS => ⟨a, ns, rfl, hS, hl, fun _ => rfl⟩) fun _ _ _ _ _ z => z
  obtain ⟨ad, T, rfl, hb⟩ := F w mg fa h KX G hmg
  exact ⟨ad.d_law, hb, fun base _ _ => ok_law T⟩
end Toy
open PySem PySem.W PyProof.Rows
set_option maxRecDepth 100000 in
set_option maxHeartbeats 0 in
theorem PySem.Challenge.cw_surebridge_k00_number_images_holds : PySem.Challenge.rw_surebridge_k00_number_images.Holds := by
  w_on; o_law; k_head; (case hw => w_witness2)
  k_fill
  refine Toy.walk (l := PySem.Challenge.rw_surebridge_k00_number_images) rfl rfl (fun w h Y => PySem.W.kIn_of Y) ?F
  case F =>
    intro w mg fa h KX G hmg
    refine' Toy.all_mk KX G hmg ?A_NumberMap ?a_law_take ?l_law_take ?c_law_take ?k_law_take ?a_law_deck ?l_law_deck ?c_law_deck ?k_law_deck ?a_law_whole ?l_law_whole ?c_law_whole ?k_law_whole ?a_law_parts ?l_law_parts ?c_law_parts ?k_law_parts ?a_law_same ?l_law_same ?c_law_same ?k_law_same ?a_NumberMap_init_ ?i_NumberMap_init_ ?l_NumberMap_init_ ?c_NumberMap_init_ ?k_NumberMap_init_ ?a_NumberMap_image ?i_NumberMap_image ?l_NumberMap_image ?c_NumberMap_image ?k_NumberMap_image ?a_law_own_image ?l_law_own_image ?c_law_own_image ?k_law_own_image ?a_law_ends_right ?l_law_ends_right ?c_law_ends_right ?k_law_ends_right ?a_law ?l_law ?c_law ?k_law ?pg_NumberMap ?hd_NumberMap ?po_NumberMap ?sa_NumberMap ?mk_NumberMap ?kc_NumberMap ?n_NumberMap_period ?n_NumberMap_rows ?z_abs ?z_bool ?z_int ?z_isinstance ?z_len ?z_list ?z_range
    (case A_NumberMap => k_is)
    (case a_law_take => k_is)
    (case l_law_take => k_is)
    (case c_law_take => k_is)
    (case k_law_take => k_is)
    (case a_law_deck => k_is)
    (case l_law_deck => k_is)
    (case c_law_deck => k_is)
    (case k_law_deck => k_is)
    (case a_law_whole => k_is)
    (case l_law_whole => k_is)
    (case c_law_whole => k_is)
    (case k_law_whole => k_is)
    (case a_law_parts => k_is)
    (case l_law_parts => k_is)
    (case c_law_parts => k_is)
    (case k_law_parts => k_is)
    (case a_law_same => k_is)
    (case l_law_same => k_is)
    (case c_law_same => k_is)
    (case k_law_same => k_is)
    (case a_NumberMap_init_ => k_is)
    (case i_NumberMap_init_ => k_is)
    (case l_NumberMap_init_ => k_is)
    (case c_NumberMap_init_ => k_is)
    (case k_NumberMap_init_ => k_is)
    (case a_NumberMap_image => k_is)
    (case i_NumberMap_image => k_is)
    (case l_NumberMap_image => k_is)
    (case c_NumberMap_image => k_is)
    (case k_NumberMap_image => k_is)
    (case a_law_own_image => k_is)
    (case l_law_own_image => k_is)
    (case c_law_own_image => k_is)
    (case k_law_own_image => k_is)
    (case a_law_ends_right => k_is)
    (case l_law_ends_right => k_is)
    (case c_law_ends_right => k_is)
    (case k_law_ends_right => k_is)
    (case a_law => k_is)
    (case l_law => k_is)
    (case c_law => k_is)
    (case k_law => k_is)
    (case pg_NumberMap => k_is)
    (case hd_NumberMap => k_is)
    (case po_NumberMap => k_is)
    (case sa_NumberMap => k_is)
    (case mk_NumberMap => k_is)
    (case kc_NumberMap => k_is)
    (case n_NumberMap_period => k_is)
    (case n_NumberMap_rows => k_is)
    (case z_abs => k_is)
    (case z_bool => k_is)
    (case z_int => k_is)
    (case z_isinstance => k_is)
    (case z_len => k_is)
    (case z_list => k_is)
    (case z_range => k_is)
#print axioms PySem.Challenge.cw_surebridge_k00_number_images_holds

