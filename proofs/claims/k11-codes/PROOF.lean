import PyProof.Rows.All
import Wide.All
import OpenK.AllK
import Wide.FinOn
import HandS.ForMost
import HandS.Wide
import HandS.Evl
import HandS.IsInst
import HandS.Steps
import HandS.Flow
import HandS.Conv
import HandS.Codes
import HandS.More

import HandS.ForExc
import HandS.ExcInit
import HandS.ExcIs
import HandS.ExcField
import HandS.ClsMeth
import HandS.TryOnly
import KE.KExcIs
import PySem.Challenge.RW_surebridge_k11_codes
set_option Elab.async false
set_option linter.all false
set_option maxRecDepth 100000
set_option maxHeartbeats 4000000
/-! a list of ints whose content is not told: the law's deck -/
namespace Dk
open PySem PySem.Spec PyProof.Rows L2

def Ints (l : Addr) (h : Heap) : Prop := ∃ ns : List Int, ns.length ≤ 100000 ∧ ∃ (its : List Value) (n : Nat), Vals (ns.map V.int) its ∧ h.get? l = some { cls := .type "list", data := .seq its.toArray n }
def DkO (l : Addr) : HO := .ext (Ints l)
theorem sz5 {n : Nat} (h : n ≤ 100000) : n ≤ sizeLine := Nat.le_trans h (by decide)
section
variable {P : Program} {w : World} {H H' : Hp} {h h' : Heap} {l : Addr} {o o' : HO} {fs ex : List Addr}
/-- another word for what stands at x -/
theorem retag (ok : HOk P w H h) (hx : H l = some o) (n1 : ∀ y, o ≠ .own y) (n2 : ∀ xs, o ≠ .tup xs) (new : ObjOk P w (upd H l o') h l o') : HOk P w (upd H l o') h := fun b u e => by
  by_cases hb : b = l
  · subst hb; rw [upd_same] at e; cases e; exact new
  · rw [upd_ne hb] at e
    refine (ok b u e).stay (fun c v _ q => q) (fun c q => ?_) fun c xs q => ?_
    · rw [upd_ne (fun z => by subst z; rw [hx] at q; exact n1 _ (Option.some.inj q))]; exact q
    · rw [upd_ne (fun z => by subst z; rw [hx] at q; exact n2 _ (Option.some.inj q))]; exact q
theorem upd_id (hx : H l = some o) : upd H l o = H := by
  funext b
  by_cases hb : b = l
  · rw [hb, upd_same, hx]
  · rw [upd_ne hb]
theorem dk_open (ok : HOk P w H h) (hx : H l = some (DkO l)) : ∃ ns : List Int, ns.length ≤ 100000 ∧ HOk P w (upd H l (.lst (ns.map V.int))) h := by
  have x : ObjOk P w H h l (.ext (Ints l)) := ok l _ hx
  obtain ⟨⟨ns, hn, its, n, r, e⟩, _, _⟩ := x
  refine ⟨ns, hn, retag ok hx (fun y z => by cases z) (fun y z => by cases z) ?_⟩
  exact ⟨by rw [List.length_map]; exact sz5 hn, its, n, r, e⟩
theorem dk_close {ns : List Int} (ok : HOk P w H h) (hx : H l = some (.lst (ns.map V.int))) (hn : ns.length ≤ 100000) : HOk P w (upd H l (DkO l)) h := by
  have x : ObjOk P w H h l (.lst (ns.map V.int)) := ok l _ hx
  obtain ⟨_, its, n, r, e⟩ := x
  refine retag ok hx (fun y z => by cases z) (fun y z => by cases z) ?_
  exact ⟨⟨ns, hn, its, n, r, e⟩, ⟨_, e⟩, fun h1 h2 z k => by
    obtain ⟨ms, hm, its', n', r', e'⟩ := z
    exact ⟨ms, hm, its', n', r', k _ e'⟩⟩
/-- untouched: another word at l on either side -/
theorem un_left {o1 : HO} (u : Un fs ex (upd H l o1) H' h h') (hx : H l = some o) (n2 : ∀ xs, o ≠ .tup xs) (n3 : ∀ o' v, o ≠ .frz o' v) (n4 : ∀ ps, o ≠ .tbl ps) : Un fs ex H H' h h' where
  keep := fun b q e n hb he => u.keep b q e (by rw [upd_ne (fun z => by subst z; rw [hx] at n; cases n)]; exact n) hb he
  slot := fun b q e n hb he => u.slot b q e (by rw [upd_ne (fun z => by subst z; rw [hx] at n; cases n)]; exact n) hb he
  free := fun b q e n he => u.free b q e (by rw [upd_ne (fun z => by subst z; rw [hx] at n; cases n)]; exact n) he
  there := u.there
  tups := fun b xs q => u.tups b xs (by rw [upd_ne (fun z => by subst z; rw [hx] at q; exact n2 _ (Option.some.inj q))]; exact q)
  frzs := fun b o v q => u.frzs b o v (by rw [upd_ne (fun z => by subst z; rw [hx] at q; exact n3 _ _ (Option.some.inj q))]; exact q)
  tbls := fun b ps q => u.tbls b ps (by rw [upd_ne (fun z => by subst z; rw [hx] at q; exact n4 _ (Option.some.inj q))]; exact q)
theorem un_right {o1 : HO} (u : Un fs ex H H' h h') (hx : H' l = some o) (n2 : ∀ xs, o ≠ .tup xs) (n3 : ∀ o' v, o ≠ .frz o' v) (n4 : ∀ ps, o ≠ .tbl ps) : Un fs ex H (upd H' l o1) h h' where
  keep := u.keep
  slot := u.slot
  free := fun b q e n he => by
    have z := u.free b q e n he
    rw [upd_ne (fun y => by subst y; rw [hx] at z; cases z)]; exact z
  there := u.there
  tups := fun b xs q => by
    have z := u.tups b xs q
    rw [upd_ne (fun y => by subst y; rw [hx] at z; exact n2 _ (Option.some.inj z))]; exact z
  frzs := fun b o v q => by
    have z := u.frzs b o v q
    rw [upd_ne (fun y => by subst y; rw [hx] at z; exact n3 _ _ (Option.some.inj z))]; exact z
  tbls := fun b ps q => by
    obtain ⟨m, z⟩ := u.tbls b ps q
    exact ⟨m, by rw [upd_ne (fun y => by subst y; rw [hx] at z; exact n4 _ (Option.some.inj z))]; exact z⟩
end
/-- take(deck, many), told of the list | of a deck -/
def spTakeC : Sp := fun vs H Q _ => ∃ (l : Addr) (ns : List Int) (m : Int), vs = [.ref l, .int m] ∧ H l = some (.lst (ns.map V.int)) ∧ ns.length ≤ 100000 ∧ 0 < m ∧
  ∀ (k : Int) (ns' : List Int), 0 ≤ k → k < m → ns'.length ≤ 100000 → Q (.int k) (upd H l (.lst (ns'.map V.int)))
def spTake : Sp := fun vs H Q _ => ∃ (l : Addr) (m : Int), vs = [.ref l, .int m] ∧ H l = some (DkO l) ∧ 0 < m ∧ ∀ k : Int, 0 ≤ k → k < m → Q (.int k) H
/-- deck(script, cells, each), told of the list | of a deck -/
def spDeckC (K : PySem.W.Frag) : Sp := fun vs H Q _ => ∃ (a : Addr) (ns : List Int) (c e : Int), vs = [.ref a, .int c, .int e] ∧ SqL K H a (ns.map V.int) ∧ ns.length ≤ 63 ∧ 0 ≤ c ∧ 0 ≤ e ∧ c ≤ 64 ∧ e ≤ 64 ∧
  ∀ (l : Addr) (ms : List Int) (H' : Hp), H l = none → H' = upd H l (.lst (ms.map V.int)) → ms.length ≤ 100000 → Q (.ref l) H'
def spDeck (K : PySem.W.Frag) : Sp := fun vs H Q _ => ∃ (a : Addr) (ns : List Int) (c e : Int), vs = [.ref a, .int c, .int e] ∧ SqL K H a (ns.map V.int) ∧ ns.length ≤ 63 ∧ 0 ≤ c ∧ 0 ≤ e ∧ c ≤ 64 ∧ e ≤ 64 ∧
  ∀ (l : Addr), H l = none → Q (.ref l) (upd H l (DkO l))
section
variable {P : Program} {w : World} {K : PySem.W.Frag} {mg : Str → Option Value} {base : Heap} {k : Nat} {f : Addr} {fd : FuncData} {ps : List Str}
theorem dk_tup {l : Addr} (xs : List V) : DkO l ≠ .tup xs := fun z => by
  have z' : HO.ext _ = HO.tup xs := z
  cases z'
theorem dk_frz {l : Addr} (o : Obj) (v : HO) : DkO l ≠ .frz o v := fun z => by
  have z' : HO.ext _ = HO.frz o v := z
  cases z'
theorem dk_tbl {l : Addr} (xs : Array Value) : DkO l ≠ .tbl xs := fun z => by
  have z' : HO.ext _ = HO.tbl xs := z
  cases z'
theorem ok_take (F : FnOk P w K mg base CX0 k f fd ps spTakeC) : FnOk P w K mg base CX0 k f fd ps spTake where
  len := fun vs H Q E h => by
    obtain ⟨l, m, e, h1, h2, h3⟩ := h
    exact F.len vs (upd H l (.lst (([] : List Int).map V.int))) (fun _ _ => True) E ⟨l, [], m, e, upd_same, by decide, h2, fun _ _ _ _ _ => trivial⟩
  run := fun A outer s H args us vs Q E hr he hb hv h => by
    obtain ⟨l, m, e, h1, h2, h3⟩ := h
    obtain ⟨ns, hn, ok⟩ := dk_open he.hok h1
    have nb : ∀ b, H b = none → b ≠ l := fun b n z => by rw [z, h1] at n; cases n
    have he1 : Env0 P w K mg base A outer s (upd H l (.lst (ns.map V.int))) := ⟨he.frames, he.mod, fun b o q => ⟨(he.bs b o q).1, by rw [upd_ne (nb b (he.bs b o q).2)]; exact (he.bs b o q).2⟩, he.bsz, he.funs, fun b q => by rw [upd_ne (nb b (he.frf b q))]; exact he.frf b q, ok, he.bare⟩
    refine codeAny_mono (F.run A outer s _ args us vs (fun v H1 => ∃ ns' : List Int, ns'.length ≤ 100000 ∧ H1 = upd H l (.lst (ns'.map V.int)) ∧ Q v H) E hr he1 hb hv ⟨l, ns, m, e, upd_same, hn, h2, fun k ns' k0 k1 hl => ⟨ns', hl, by rw [upd_upd], h3 k k0 k1⟩⟩) fun r s' q => ?_
    cases r with
    | error e => exact q
    | ok fl =>
      cases fl with
      | ret u =>
        obtain ⟨v, H1, os, bare, un, hok, rv, ns', hl, e1, q⟩ := q
        subst e1
        have g : upd (upd H l (.lst (ns'.map V.int))) l (DkO l) = H := by rw [upd_upd]; exact upd_id h1
        have hok' := dk_close hok upd_same hl
        have un1 := un_left un h1 dk_tup dk_frz dk_tbl
        have un2 := un_right (o1 := DkO l) un1 upd_same (fun _ z => by cases z) (fun _ _ z => by cases z) (fun _ z => by cases z)
        rw [g] at hok' un2
        exact ⟨v, H, os, bare, un2, hok', rv, q⟩
      | next => exact q
      | brk => exact q
      | cont => exact q
theorem ok_deck (F : FnOk P w K mg base CX0 k f fd ps (spDeckC K)) : FnOk P w K mg base CX0 k f fd ps (spDeck K) where
  len := fun vs H Q E h => by
    obtain ⟨a, ns, c, e, h1, h2, h3, h4, h5, h6, h7, h8⟩ := h
    exact F.len vs H (fun _ _ => True) E ⟨a, ns, c, e, h1, h2, h3, h4, h5, h6, h7, fun _ _ _ _ _ _ => trivial⟩
  run := fun A outer s H args us vs Q E hr he hb hv h => by
    obtain ⟨a, ns, c, e, h1, h2, h3, h4, h5, h6, h7, h8⟩ := h
    refine codeAny_mono (F.run A outer s _ args us vs (fun v H1 => ∃ (l : Addr) (ms : List Int), ms.length ≤ 100000 ∧ H l = none ∧ H1 = upd H l (.lst (ms.map V.int)) ∧ v = .ref l) E hr he hb hv ⟨a, ns, c, e, h1, h2, h3, h4, h5, h6, h7, fun l ms H' n e q => ⟨l, ms, q, n, e, rfl⟩⟩) fun r s' q => ?_
    cases r with
    | error e => exact q
    | ok fl =>
      cases fl with
      | ret u =>
        obtain ⟨v, H1, os, bare, un, hok, rv, l, ms, hl, n, e1, ev⟩ := q
        subst e1
        subst ev
        have hok' := dk_close hok upd_same hl
        have un2 := un_right (o1 := DkO l) un upd_same (fun _ z => by cases z) (fun _ _ z => by cases z) (fun _ z => by cases z)
        rw [upd_upd] at hok' un2
        exact ⟨.ref l, _, os, bare, un2, hok', rv, h8 l n⟩
      | next => exact q
      | brk => exact q
      | cont => exact q
end
end Dk

/-! readings, one rule a construct, for a walk by `first` -/
namespace Rd
open PySem PySem.Spec PyProof.Rows L2 Evl Dk
section
variable {σ σ' : L2.St} {H H' H1 : Hp} {Q : VK} {v x y z : V} {ta tb te tc : TE} {K : PySem.W.Frag} {i j : Int} {D : Ends} {t u : TS} {ct cu : TT} {QB : Bool → Hp → Prop} {QA : List V → Hp → Prop} {al bl : TA} {xs ys : List V} {a l C dx : Addr} {fs : List (Str × V)} {A B : Prop} {r : R2}
theorem var {n : Nat} (h : σ[n]? = some (some v)) (q : Q v H) : tVar n σ H Q := ⟨v, h, q⟩
theorem c (q : Q v H) : tC v σ H Q := q
theorem op (h : ta σ H fun x H1 => tb σ H1 fun y H2 => r x y H2 Q) : tOp r ta tb σ H Q := h
theorem un {r : V → Hp → VK → Prop} (h : ta σ H fun x H1 => r x H1 Q) : tUn r ta σ H Q := h
theorem i0 {g : Int → Int → V} (q : Q (g i j) H) : rI0 g (.int i) (.int j) H Q := ⟨i, j, rfl, rfl, q⟩
theorem i1 {C : Int → Int → Prop} {g : Int → Int → V} (c : C i j) (q : Q (g i j) H) : rI C g (.int i) (.int j) H Q := ⟨i, j, rfl, rfl, c, q⟩
theorem u0 {g : Int → V} (q : Q (g i) H) : rU g (.int i) H Q := ⟨i, rfl, q⟩
theorem dI : decide (V.int i = V.int j) = decide (i = j) := decide_eq_decide.mpr ⟨V.int.inj, congrArg V.int⟩
theorem dS {s t : Str} : decide (V.str s = V.str t) = decide (s = t) := decide_eq_decide.mpr ⟨V.str.inj, congrArg V.str⟩
theorem dB {s t : Bool} : decide (V.bl s = V.bl t) = decide (s = t) := decide_eq_decide.mpr ⟨V.bl.inj, congrArg V.bl⟩
theorem eqI (q : Q (.bl (decide (i = j))) H) : rEq (.int i) (.int j) H Q := ⟨rfl, by rw [dI]; exact q⟩
theorem neI (q : Q (.bl (!decide (i = j))) H) : rNe (.int i) (.int j) H Q := ⟨rfl, by rw [dI]; exact q⟩
theorem eqS {s t : Str} (q : Q (.bl (decide (s = t))) H) : rEq (.str s) (.str t) H Q := ⟨rfl, by rw [dS]; exact q⟩
theorem neS {s t : Str} (q : Q (.bl (!decide (s = t))) H) : rNe (.str s) (.str t) H Q := ⟨rfl, by rw [dS]; exact q⟩
theorem eqX (h : scal x y = true) (q : Q (.bl (decide (x = y))) H) : rEq x y H Q := ⟨h, q⟩
theorem neX (h : scal x y = true) (q : Q (.bl (!decide (x = y))) H) : rNe x y H Q := ⟨h, q⟩
theorem isN (q : Q (.bl (decide (x = .non))) H) : rIsN x .non H Q := ⟨rfl, q⟩
theorem notN (q : Q (.bl (!decide (x = .non))) H) : rNotN x .non H Q := ⟨rfl, q⟩
theorem isN_non (q : Q (.bl true) H) : rIsN .non .non H Q := ⟨rfl, q⟩
theorem notN_non (q : Q (.bl false) H) : rNotN .non .non H Q := ⟨rfl, q⟩
theorem isN_int (q : Q (.bl false) H) : rIsN (.int i) .non H Q := ⟨rfl, q⟩
theorem notN_int (q : Q (.bl true) H) : rNotN (.int i) .non H Q := ⟨rfl, q⟩
theorem isN_ref (q : Q (.bl false) H) : rIsN (.ref a) .non H Q := ⟨rfl, q⟩
theorem notN_ref (q : Q (.bl true) H) : rNotN (.ref a) .non H Q := ⟨rfl, q⟩
theorem isN_str {s : Str} (q : Q (.bl false) H) : rIsN (.str s) .non H Q := ⟨rfl, q⟩
theorem notN_str {s : Str} (q : Q (.bl true) H) : rNotN (.str s) .non H Q := ⟨rfl, q⟩
/-- a value that must be a truth value -/
def xT (x : V) (H : Hp) (Q : Bool → Hp → Prop) : Prop := ∃ k, x = .bl k ∧ Q k H
theorem xt {b : Bool} (q : QB b H) : xT (.bl b) H QB := ⟨b, rfl, q⟩
theorem test (h : te σ H fun x H' => xT x H' QB) : tTest te σ H QB := h
theorem tbv (h : te σ H fun x H' => xT x H' QB) : tB te σ H QB := h
theorem andT (h : ct σ H fun c H1 => if c = true then cu σ H1 QB else QB false H1) : tAnd ct cu σ H QB := h
theorem orT (h : ct σ H fun c H1 => if c = true then QB true H1 else cu σ H1 QB) : tOr ct cu σ H QB := h
theorem notT (h : ct σ H fun c H1 => QB (!c) H1) : tNot ct σ H QB := h
theorem andV (h : ta σ H fun x H1 => xT x H1 fun c H1 => if c = true then te σ H1 Q else Q (.bl false) H1) : tAndV ta te σ H Q := h
theorem orV (h : ta σ H fun x H1 => xT x H1 fun c H1 => if c = true then Q (.bl true) H1 else te σ H1 Q) : tOrV ta te σ H Q := h
theorem notV (h : ta σ H fun x H1 => xT x H1 fun c H1 => Q (.bl (!c)) H1) : tNotV ta σ H Q := h
theorem ifE (h : ct σ H fun c H1 => if c = true then ta σ H1 Q else tb σ H1 Q) : tIf ct ta tb σ H Q := h
theorem chain {r r' : R2} (h : ta σ H fun x H1 => tb σ H1 fun y H2 => r x y H2 fun z H3 => xT z H3 fun k H3 => if k = true then tc σ H3 fun w H4 => r' y w H4 Q else Q (.bl false) H3) : tChain r r' ta tb tc σ H Q := h
theorem ifT {p : Prop} [Decidable p] (hp : p) (h : A) : if decide p = true then A else B := by rw [if_pos (decide_eq_true hp)]; exact h
theorem ifF {p : Prop} [Decidable p] (hp : ¬ p) (h : B) : if decide p = true then A else B := by rw [decide_eq_false hp, if_neg Bool.false_ne_true]; exact h
theorem ifd {p : Prop} [Decidable p] (h1 : p → A) (h2 : ¬ p → B) : if decide p = true then A else B := by
  by_cases hp : p
  · exact ifT hp (h1 hp)
  · exact ifF hp (h2 hp)
theorem ifNT {p : Prop} [Decidable p] (hp : ¬ p) (h : A) : if (!decide p) = true then A else B := by rw [decide_eq_false hp]; exact iteT h
theorem ifNF {p : Prop} [Decidable p] (hp : p) (h : B) : if (!decide p) = true then A else B := by rw [decide_eq_true hp]; exact iteF h
theorem ifNd {p : Prop} [Decidable p] (h1 : ¬ p → A) (h2 : p → B) : if (!decide p) = true then A else B := by
  by_cases hp : p
  · exact ifNF hp (h2 hp)
  · exact ifNT hp (h1 hp)
theorem ifTT (h : A) : if true = true then A else B := iteT h
theorem ifFF (h : B) : if false = true then A else B := iteF h
theorem ifNTT (h : A) : if (!false) = true then A else B := iteT h
theorem ifNFF (h : B) : if (!true) = true then A else B := iteF h
theorem ifNN {b : Bool} (h : if b = true then A else B) : if (!!b) = true then A else B := by rw [Bool.not_not]; exact h
theorem ifb {b : Bool} (h1 : b = true → A) (h2 : b = false → B) : if b = true then A else B := by
  cases b with
  | true => exact iteT (h1 rfl)
  | false => exact iteF (h2 rfl)
theorem ifbT {b : Bool} (hb : b = true) (h : A) : if b = true then A else B := by rw [hb]; exact iteT h
theorem ifbF {b : Bool} (hb : b = false) (h : B) : if b = true then A else B := by rw [hb]; exact iteF h
theorem ifNbT {b : Bool} (hb : b = false) (h : A) : if (!b) = true then A else B := by rw [hb]; exact iteT h
theorem ifNbF {b : Bool} (hb : b = true) (h : B) : if (!b) = true then A else B := by rw [hb]; exact iteF h
-- statements
theorem seq (h : t { D with nx := u D } σ H) : tSeq t u D σ H := h
theorem ifS (h : ct σ H fun b H1 => if b = true then t D σ H1 else u D σ H1) : tIfS ct t u D σ H := h
theorem asg {g : TG} (h : te σ H fun x H1 => g x σ H1 D.nx) : tAsg te g D σ H := h
theorem gnm {n : Nat} {Q : L2.St → Hp → Prop} (h : Q (σ.set n (some v)) H) : gName n v σ H Q := h
theorem ret (h : te σ H D.rt) : tRet te D σ H := h
theorem retN (h : D.rt .non H) : tRetN D σ H := h
theorem drop (h : te σ H fun _ H1 => D.nx σ H1) : tDrop te D σ H := h
theorem nxt (h : D.nx σ H) : tNext D σ H := h
theorem brk (h : D.bk σ H) : tBreak D σ H := h
theorem cnt (h : D.ct σ H) : tCont D σ H := h
theorem aug {n : Nat} {ti : TIp} (hx : σ[n]? = some (some x)) (h : te σ H fun y H1 => ti x y H1 fun z H2 => D.nx (σ.set n (some z)) H2) : tAug n te ti D σ H := ⟨x, hx, h⟩
theorem ipi {f : Int → Int → Int} (q : Q (.int (f i j)) H) : ipI f (.int i) (.int j) H Q := ⟨i, j, rfl, rfl, q⟩
theorem par {n m : Nat} (h : al σ H fun vs H1 => ∃ v w, vs = [v, w] ∧ D.nx ((σ.set n (some v)).set m (some w)) H1) : tPar n m al D σ H := h
theorem par2 {N : V → V → Prop} {w : V} (h : N v w) : ∃ v' w', [v, w] = [v', w'] ∧ N v' w' := ⟨v, w, rfl, h⟩
/-- targets: a tuple to names -/
theorem gtup {n : Nat} {g : TGs} {Q : L2.St → Hp → Prop} (h : SqT K H a xs) (hn : xs.length = n) (q : g xs σ H Q) : gTup K n g (.ref a) σ H Q := ⟨a, xs, rfl, h, hn, q⟩
theorem gcons {g : TG} {gs : TGs} {Q : L2.St → Hp → Prop} (q : g v σ H fun σ' H' => gs xs σ' H' Q) : gCons g gs (v :: xs) σ H Q := ⟨v, xs, rfl, q⟩
theorem gnil {Q : L2.St → Hp → Prop} (q : Q σ H) : gNil [] σ H Q := ⟨rfl, q⟩
theorem gsub {te2 : TE} {ts : TSet} {Q : L2.St → Hp → Prop} (h : te σ H fun o H1 => te2 σ H1 fun i H2 => ts o i v H2 fun H3 => Q σ H3) : gSub te te2 ts v σ H Q := h
theorem setL {R : Hp → Prop} {n : Nat} (h : H l = some (.lst xs)) (hi : ixN xs.length i = some n) (q : R (upd H l (.lst (xs.set n v)))) : rSetL (.ref l) (.int i) v H R := ⟨l, xs, i, n, rfl, rfl, h, hi, q⟩
-- arguments
theorem nil (q : QA [] H) : tNil σ H QA := q
theorem cons (h : ta σ H fun x H1 => al σ H1 fun xs H2 => QA (x :: xs) H2) : tCons ta al σ H QA := h
theorem cb {r : List V → Hp → VK → Prop} (h : al σ H fun vs H1 => r vs H1 Q) : tCB r al σ H Q := h
theorem call {sp : Sp} {dvs : List V} {E : XK} (h : al σ H fun vs H1 => sp (vs ++ dvs) H1 Q E) : tCall sp dvs E al σ H Q := h
-- displays
def xTup (xs : List V) (H : Hp) (Q : VK) : Prop := xs.length ≤ sizeLine ∧ ∀ p, H p = none → Q (.ref p) (upd H p (.tup xs))
def xLst (xs : List V) (H : Hp) (Q : VK) : Prop := xs.length ≤ sizeLine ∧ ∀ p, H p = none → Q (.ref p) (upd H p (.lst xs))
theorem tup (h : al σ H fun xs H1 => xTup xs H1 Q) : tTup al σ H Q := h
theorem lst (h : al σ H fun xs H1 => xLst xs H1 Q) : tLst al σ H Q := h
theorem sz_le {n : Nat} (h : Nat.ble n 100000 = true) : n ≤ sizeLine := Dk.sz5 (Nat.le_of_ble_eq_true h)
theorem xtup (n : Nat.ble xs.length 100000 = true) (q : ∀ p H', H p = none → Ex H H' → H' p = some (.tup xs) → Q (.ref p) H') : xTup xs H Q := ⟨sz_le n, fun p hp => q p _ hp (Ex.new hp) upd_same⟩
theorem xlst (n : Nat.ble xs.length 100000 = true) (q : ∀ p H', H p = none → Ex H H' → H' p = some (.lst xs) → Q (.ref p) H') : xLst xs H Q := ⟨sz_le n, fun p hp => q p _ hp (Ex.new hp) upd_same⟩
theorem xlstU (n : Nat.ble xs.length 100000 = true) (q : ∀ p, H p = none → Q (.ref p) (upd H p (.lst xs))) : xLst xs H Q := ⟨sz_le n, q⟩
-- subscripts
theorem ixL (h : SqL K H l xs) (ha : atI xs i = some v) (q : Q v H) : rIxL K (.ref l) (.int i) H Q := ⟨l, xs, i, v, rfl, rfl, h, ha, q⟩
theorem ixT (h : SqT K H l xs) (ha : atI xs i = some v) (q : Q v H) : rIxT K (.ref l) (.int i) H Q := ⟨l, xs, i, v, rfl, rfl, h, ha, q⟩
-- fields
def rFld (K : PySem.W.Frag) (f : Str) (x : V) (H : Hp) (Q : VK) : Prop := ∃ a C dx fs v, x = .ref a ∧ H a = some (.ins C dx fs) ∧ Cls K C ∧ NoAttr K C f ∧ fs.lookup f = some v ∧ Q v H
theorem fld {f : Str} (h : ta σ H fun x H1 => rFld K f x H1 Q) : tFld K ta f σ H Q := h
theorem rfld {f : Str} (h : H a = some (.ins C dx fs)) (c : Cls K C) (n : NoAttr K C f) (lk : fs.lookup f = some v) (q : Q v H) : rFld K f (.ref a) H Q := ⟨a, C, dx, fs, v, rfl, h, c, n, lk, q⟩
def rSt (K : PySem.W.Frag) (f : Str) (v x : V) (H : Hp) (N : Hp → Prop) : Prop := ∃ a C dx fs, x = .ref a ∧ H a = some (.ins C dx fs) ∧ Cls K C ∧ NoAttr K C f ∧ fs.length < 1000 ∧ N (upd H a (.ins C dx (putF f v fs)))
-- methods
def xMeth (C : Addr) (m : Str) (x : V) (H : Hp) (P : Prop) : Prop := ∃ a dx fs, x = .ref a ∧ H a = some (.ins C dx fs) ∧ fs.lookup m = none ∧ P
theorem meth {m : Str} {sp : Sp} {dvs : List V} {E : XK} (h : ta σ H fun x H1 => xMeth C m x H1 (al σ H1 fun vs H2 => sp (x :: (vs ++ dvs)) H2 Q E)) : tMeth C m sp dvs E ta al σ H Q :=
  h
def xTy (K : PySem.W.Frag) (T : String) (x : V) (H : Hp) (P : Prop) : Prop := tyV K T x H ∧ P
theorem bm {T : String} {r : V → List V → Hp → VK → Prop} (h : te σ H fun x H1 => xTy K T x H1 (al σ H1 fun xs H2 => r x xs H2 Q)) : tBM K T r te al σ H Q := h
theorem bm0 {T : String} {r : V → List V → Hp → VK → Prop} (h : te σ H fun x H1 => xTy K T x H1 (r x [] H1 Q)) : tBM0 K T r te σ H Q := h
theorem xtyL {P : Prop} (h : SqL K H l xs) (p : P) : xTy K "list" (.ref l) H P := ⟨.inl ⟨rfl, _, h⟩, p⟩
theorem append (h : H l = some (.lst xs)) (n : xs.length < 100000) (q : Q .non (upd H l (.lst (xs ++ [v])))) : rAppend (.ref l) [v] H Q := ⟨l, xs, v, rfl, rfl, h, sz_lt n, q⟩
theorem reverse (h : H l = some (.lst xs)) (q : Q .non (upd H l (.lst xs.reverse))) : rReverse (.ref l) [] H Q := ⟨l, xs, rfl, rfl, h, q⟩
theorem pop (h : H l = some (.lst xs)) (hl : xs[xs.length - 1]? = some y) (q : Q y (upd H l (.lst xs.dropLast))) : rPop (.ref l) [] H Q := ⟨l, xs, y, rfl, rfl, h, hl, q⟩
end
end Rd
namespace Rd
open PySem PySem.Spec PyProof.Rows L2
section
variable {X : Cx}
def rLen (K : PySem.W.Frag) : List V → Hp → VK → Prop := fun xs H Q => ∃ p ys, xs = [.ref p] ∧ (SqL K H p ys ∨ SqT K H p ys) ∧ Q (.int ys.length) H
theorem c_len : CallR X (.builtin "len") (rLen X.K) := call_len_seq
def rLenStr : List V → Hp → VK → Prop := fun xs H Q => ∃ z, xs = [.str z] ∧ z.length ≤ sizeLine ∧ Q (.int z.length) H
theorem c_lenS : CallR X (.builtin "len") rLenStr := call_len_str
def rAbs : List V → Hp → VK → Prop := fun xs H Q => ∃ i, xs = [.int i] ∧ Q (.int (if i < 0 then -i else i)) H
theorem c_abs : CallR X (.builtin "abs") rAbs := call_abs
def rInt1 : List V → Hp → VK → Prop := fun xs H Q => (∃ i, xs = [.int i] ∧ Q (.int i) H) ∨ ∃ k, xs = [.bl k] ∧ Q (.int (if k then 1 else 0)) H
theorem c_int : CallR X (.type "int") rInt1 := call_int1
def rListOf (K : PySem.W.Frag) : List V → Hp → VK → Prop := fun xs H Q => ∃ p ys, xs = [.ref p] ∧ (SqL K H p ys ∨ SqT K H p ys) ∧ ∀ l, H l = none → Q (.ref l) (upd H l (.lst ys))
theorem c_list : CallR X (.type "list") (rListOf X.K) := call_list_of
def rMax2 : List V → Hp → VK → Prop := fun xs H Q => ∃ i j, xs = [.int i, .int j] ∧ Q (.int (if j > i then j else i)) H
theorem c_max2 (hc : X.calm = true) : CallR X (.builtin "max") rMax2 := call_max2 hc
def rMin2 : List V → Hp → VK → Prop := fun xs H Q => ∃ i j, xs = [.int i, .int j] ∧ Q (.int (if j < i then j else i)) H
theorem c_min2 (hc : X.calm = true) : CallR X (.builtin "min") rMin2 := call_min2 hc
end
end Rd
namespace Rd
open PySem PySem.Spec PyProof.Rows L2 Evl Dk
section
variable {σ : L2.St} {H : Hp} {Q : VK} {x : V} {K : PySem.W.Frag} {i j : Int} {xs : List V} {l : Addr}
theorem len (h : SqL K H l xs) (q : Q (.int xs.length) H) : Rd.rLen K [.ref l] H Q := ⟨l, xs, rfl, .inl h, q⟩
theorem lenT (h : SqT K H l xs) (q : Q (.int xs.length) H) : Rd.rLen K [.ref l] H Q := ⟨l, xs, rfl, .inr h, q⟩
theorem lenS {s : Str} (h : s.length ≤ 100000) (q : Q (.int s.length) H) : Rd.rLenStr [.str s] H Q := ⟨s, rfl, sz_of h, q⟩
theorem abs (q : Q (.int (if i < 0 then -i else i)) H)   : Rd.rAbs [.int i] H Q := ⟨i, rfl, q⟩
theorem int (q : Q (.int i) H) : Rd.rInt1 [.int i] H Q := .inl ⟨i, rfl, q⟩
theorem intB {k : Bool} (q : Q (.int (if k then 1 else 0)) H) : Rd.rInt1 [.bl k] H Q := .inr ⟨k, rfl, q⟩
theorem listOf (h : SqL K H l xs) (q : ∀ p H', H p = none → Ex H H' → H' p = some (.lst xs) → Q (.ref p) H') : Rd.rListOf K [.ref l] H Q := ⟨l, xs, rfl, .inl h, fun p hp => q p _ hp (Ex.new hp) upd_same⟩
theorem listOfU (h : SqL K H l xs) (q : ∀ p, H p = none → Q (.ref p) (upd H p (.lst xs))) : Rd.rListOf K [.ref l] H Q := ⟨l, xs, rfl, .inl h, q⟩
theorem max2 (q : Q (.int (if j > i then j else i)) H) : Rd.rMax2 [.int i, .int j] H Q := ⟨i, j, rfl, q⟩
theorem min2 (q : Q (.int (if j < i then j else i)) H) : Rd.rMin2 [.int i, .int j] H Q := ⟨i, j, rfl, q⟩
theorem take {m : Int} {E : XK} (h : H l = some (DkO l)) (hm : 0 < m) (q : ∀ k : Int, 0 ≤ k → k < m → Q (.int k) H) : spTake ([.ref l, .int m] ++ []) H Q E := ⟨l, m, rfl, h, hm, q⟩
end
end Rd
/-! ### data of any depth: what it is made of, and that it stays -/
namespace Dt
open PySem PySem.Spec PyProof.Rows L2 Evl
section
variable {K : PySem.W.Frag} {H H' : Hp} {v : V} {xs vs : List V} {d : PyData} {ds : List PyData} {a : Addr}
mutual
theorem mono (e : Ex H H') : ∀ (d : PyData) (v : V), Dp K H v d → Dp K H' v d
  | .none, _, h => by cases h; exact .non
  | .bool b, _, h => by cases h; exact .bl b
  | .int i, _, h => by cases h; exact .int i
  | .str x, _, h => by cases h; exact .str x
  | .list ds, _, h => by
    cases h with
    | lst hs ha => exact .lst (ex_l e hs) (monoAll e ds _ ha)
  | .tuple ds, _, h => by
    cases h with
    | tup hs ha => exact .tup (ex_t e hs) (monoAll e ds _ ha)
  | .dict _, _, h => by cases h
theorem monoAll (e : Ex H H') : ∀ (ds : List PyData) (vs : List V), DpAll K H vs ds → DpAll K H' vs ds
  | [], _, h => by cases h; exact .nil
  | d :: ds, _, h => by
    cases h with
    | cons h1 h2 => exact .cons (mono e d _ h1) (monoAll e ds _ h2)
end
theorem mn (h : Dp K H v d) (e : Ex H H') : Dp K H' v d := mono e d v h
theorem mnA (h : DpAll K H vs ds) (e : Ex H H') : DpAll K H' vs ds := monoAll e ds vs h
theorem inv_l (h : Dp K H v (.list ds)) : ∃ a xs, v = .ref a ∧ SqL K H a xs ∧ DpAll K H xs ds := by
  cases h with
  | lst hs ha => exact ⟨_, _, rfl, hs, ha⟩
theorem inv_t (h : Dp K H v (.tuple ds)) : ∃ a xs, v = .ref a ∧ SqT K H a xs ∧ DpAll K H xs ds := by
  cases h with
  | tup hs ha => exact ⟨_, _, rfl, hs, ha⟩
theorem inv_i {i : Int} (h : Dp K H v (.int i)) : v = .int i := by cases h; rfl
theorem inv_s {s : Str} (h : Dp K H v (.str s)) : v = .str s := by cases h; rfl
theorem inv_b {b : Bool} (h : Dp K H v (.bool b)) : v = .bl b := by cases h; rfl
theorem inv_n (h : Dp K H v .none) : v = .non := by cases h; rfl
theorem lenA : ∀ {vs : List V} {ds : List PyData}, DpAll K H vs ds → vs.length = ds.length
  | _, [], h => by cases h; rfl
  | _, d :: ds, h => by
    cases h with
    | cons _ h2 => simp [lenA h2]
theorem getA : ∀ {vs : List V} {ds : List PyData} {i : Nat} {v : V} {d : PyData}, DpAll K H vs ds → vs[i]? = some v → ds[i]? = some d → Dp K H v d
  | _, [], _, _, _, h, _, e => by simp at e
  | _, d :: ds, 0, _, _, h, e1, e2 => by
    cases h with
    | cons h1 _ =>
      simp at e1 e2
      rw [← e1, ← e2]
      exact h1
  | _, d :: ds, i + 1, _, _, h, e1, e2 => by
    cases h with
    | cons _ h2 => exact getA (i := i) h2 (by simpa using e1) (by simpa using e2)
theorem getA1 {i : Nat} (h : DpAll K H vs ds) (e : vs[i]? = some v) : ∃ d, ds[i]? = some d ∧ Dp K H v d := by
  have hl := lenA h
  have hi : i < vs.length := (List.getElem?_eq_some_iff.mp e).1
  exact ⟨ds[i]'(by omega), List.getElem?_eq_getElem (by omega), getA h e (List.getElem?_eq_getElem (by omega))⟩
theorem getA2 {i : Nat} (h : DpAll K H vs ds) (e : ds[i]? = some d) : ∃ v, vs[i]? = some v ∧ Dp K H v d := by
  have hl := lenA h
  have hi : i < ds.length := (List.getElem?_eq_some_iff.mp e).1
  exact ⟨vs[i]'(by omega), List.getElem?_eq_getElem (by omega), getA h (List.getElem?_eq_getElem (by omega)) e⟩
theorem consA (h : Dp K H v d) (hs : DpAll K H vs ds) : DpAll K H (v :: vs) (d :: ds) := .cons h hs
theorem appA : ∀ {vs ws : List V} {ds es : List PyData}, DpAll K H vs ds → DpAll K H ws es → DpAll K H (vs ++ ws) (ds ++ es)
  | _, _, [], _, h, g => by cases h; exact g
  | _, _, d :: ds, _, h, g => by
    cases h with
    | cons h1 h2 => exact .cons h1 (appA h2 g)
theorem oneA (h : Dp K H v d) : DpAll K H [v] [d] := .cons h .nil
theorem snocA (hs : DpAll K H vs ds) (h : Dp K H v d) : DpAll K H (vs ++ [v]) (ds ++ [d]) := appA hs (oneA h)
theorem takeA : ∀ {vs : List V} {ds : List PyData} (n : Nat), DpAll K H vs ds → DpAll K H (vs.take n) (ds.take n)
  | _, _, 0, _ => .nil
  | _, [], n + 1, h => by cases h; exact .nil
  | _, d :: ds, n + 1, h => by
    cases h with
    | cons h1 h2 => exact .cons h1 (takeA n h2)
theorem intsA : ∀ (ns : List Int), DpAll K H (ns.map V.int) (ns.map PyData.int)
  | [] => .nil
  | n :: ns => .cons (.int n) (intsA ns)
theorem strsA : ∀ (ns : List Str), DpAll K H (ns.map V.str) (ns.map PyData.str)
  | [] => .nil
  | n :: ns => .cons (.str n) (strsA ns)
/-- list and tuple made -/
theorem ofL (h : H a = some (.lst vs)) (hs : DpAll K H vs ds) : Dp K H (.ref a) (.list ds) := .lst (SqL.of h) hs
theorem ofT (h : H a = some (.tup vs)) (hs : DpAll K H vs ds) : Dp K H (.ref a) (.tuple ds) := .tup (SqT.of h) hs
end
end Dt
namespace Rd
open PySem PySem.Spec PyProof.Rows L2 Evl Dk
section
variable {σ σ' : L2.St} {H H' : Hp} {Q : VK} {v x y z : V} {te : TE} {K : PySem.W.Frag} {i j lo n : Int} {D : Ends} {tb : TS} {al : TA} {xs ys : List V} {a l C dx : Addr} {d e : PyData} {g : TG}
theorem eqD (h1 : Dp K H x d) (h2 : Dp K H y e) (s1 : SeqAt.shaped d = true) (s2 : SeqAt.shaped e = true) (q : Q (.bl (PyData.eqv d e)) H) : rEqD K x y H Q := ⟨d, e, h1, h2, s1, s2, q⟩
theorem neD (h1 : Dp K H x d) (h2 : Dp K H y e) (s1 : SeqAt.shaped d = true) (s2 : SeqAt.shaped e = true) (q : Q (.bl (!PyData.eqv d e)) H) : rNeD K x y H Q := ⟨d, e, h1, h2, s1, s2, q⟩
theorem eqvRefl (s : SeqAt.shaped d = true) : PyData.eqv d d = true := SeqAt.eqv_refl d (SeqAt.canLay_of_shaped s)
theorem eqDr (h1 : Dp K H x d) (h2 : Dp K H y d) (s1 : SeqAt.shaped d = true) (q : Q (.bl true) H) : rEqD K x y H Q := ⟨d, d, h1, h2, s1, s1, by rw [eqvRefl s1]; exact q⟩
theorem neDr (h1 : Dp K H x d) (h2 : Dp K H y d) (s1 : SeqAt.shaped d = true) (q : Q (.bl false) H) : rNeD K x y H Q := ⟨d, d, h1, h2, s1, s1, by rw [eqvRefl s1]; exact q⟩
/-! isinstance -/
theorem isiTy {t T : String} {b : Bool} (h : TyOf K H x (.type t)) (k : kitB t T = some b) (q : Q (.bl b) H) : rIsi K [x, .ty T] H Q := ⟨x, .ty T, .type t, .type T, b, rfl, .ty T, .base h, kit_ty k, q⟩
theorem isiInt {T : String} {b : Bool} (k : kitB "int" T = some b) (q : Q (.bl b) H) : rIsi K [.int i, .ty T] H Q := isiTy (.int i) k q
theorem isiBl {T : String} {b c : Bool} (k : kitB "bool" T = some b) (q : Q (.bl b) H) : rIsi K [.bl c, .ty T] H Q := isiTy (.bl c) k q
theorem isiStr {T : String} {b : Bool} {s : Str} (k : kitB "str" T = some b) (q : Q (.bl b) H) : rIsi K [.str s, .ty T] H Q := isiTy (.str s) k q
theorem isiNon {T : String} {b : Bool} (k : kitB "NoneType" T = some b) (q : Q (.bl b) H) : rIsi K [.non, .ty T] H Q := isiTy .non k q
theorem isiLst {T : String} {b : Bool} (h : H a = some (.lst xs)) (k : kitB "list" T = some b) (q : Q (.bl b) H) : rIsi K [.ref a, .ty T] H Q := isiTy (.lst h) k q
theorem isiTup {T : String} {b : Bool} (h : H a = some (.tup xs)) (k : kitB "tuple" T = some b) (q : Q (.bl b) H) : rIsi K [.ref a, .ty T] H Q := isiTy (.tup h) k q
/-! loops -/
def xFR1 (g : TG) (tb : TS) (D : Ends) (σ : L2.St) (vs : List V) (H1 : Hp) : Prop := ∃ j : Int, vs = [.int j] ∧ -(2 ^ 62) ≤ j ∧ j < 2 ^ 62 ∧ ∃ W : Nat → Nat → L2.St → Hp → Prop, (∃ m, W 0 m σ H1) ∧ ∀ i m σ H, W i m σ H →
      ((Itr 0 j.toNat).stop i H ∧ D.nx σ H) ∨ ((Itr 0 j.toNat).go i H ∧ ∃ N : L2.St → Hp → Prop, (∀ σ' H', N σ' H' → ∃ m', m' < m ∧ W (i + 1) m' σ' H') ∧ ∀ x H', (Itr 0 j.toNat).yld i H x H' → g x σ H' fun σ2 H2 => tb { D with nx := N, ct := N, bk := D.nx } σ2 H2)
theorem forR1 (h : al σ H fun vs H1 => xFR1 g tb D σ vs H1) : tFor (iRng1 al) g tb D σ H := h
theorem xfr1 {k : Nat} (hb : -(2 ^ 62) ≤ n ∧ n < 2 ^ 62) (Pv : Nat → L2.St → Hp → Prop) (h0 : Pv 0 σ H)
    (hs : ∀ (i : Nat) σ' H', (i : Int) < n → Pv i σ' H' → tb { D with nx := Pv (i + 1), ct := Pv (i + 1), bk := D.nx } (σ'.set k (some (.int (i : Int)))) H') (hd : ∀ σ' H', Pv n.toNat σ' H' → D.nx σ' H') : xFR1 (gName k) tb D σ [.int n] H :=
  ⟨n, rfl, hb.1, hb.2, for_range (lo := 0) (n := n.toNat) Pv h0 (fun i σ' H' hi p => by
    have e0 : (0 : Int) + (i : Int) = (i : Int) := Int.zero_add _
    show tb { D with nx := Pv (i + 1), ct := Pv (i + 1), bk := D.nx } (σ'.set k (some (.int ((0 : Int) + (i : Int))))) H'
    rw [e0]
    exact hs i σ' H' (by omega) p) hd⟩
def xFR2 (g : TG) (tb : TS) (D : Ends) (σ : L2.St) (vs : List V) (H1 : Hp) : Prop := ∃ i0 j : Int, vs = [.int i0, .int j] ∧ (-(2 ^ 62) ≤ i0 ∧ i0 < 2 ^ 62 ∧ -(2 ^ 62) ≤ j ∧ j < 2 ^ 62) ∧ ∃ W : Nat → Nat → L2.St → Hp → Prop, (∃ m, W 0 m σ H1) ∧ ∀ i m σ H, W i m σ H →
      ((Itr i0 (j - i0).toNat).stop i H ∧ D.nx σ H) ∨ ((Itr i0 (j - i0).toNat).go i H ∧ ∃ N : L2.St → Hp → Prop, (∀ σ' H', N σ' H' → ∃ m', m' < m ∧ W (i + 1) m' σ' H') ∧ ∀ x H', (Itr i0 (j - i0).toNat).yld i H x H' → g x σ H' fun σ2 H2 => tb { D with nx := N, ct := N, bk := D.nx } σ2 H2)
theorem forR2 (h : al σ H fun vs H1 => xFR2 g tb D σ vs H1) : tFor (iRng2 al) g tb D σ H := h
theorem xfr2 {k : Nat} (hb : -(2 ^ 62) ≤ lo ∧ lo < 2 ^ 62 ∧ -(2 ^ 62) ≤ n ∧ n < 2 ^ 62) (Pv : Nat → L2.St → Hp → Prop) (h0 : Pv 0 σ H)
    (hs : ∀ (i : Nat) σ' H', lo + (i : Int) < n → Pv i σ' H' → tb { D with nx := Pv (i + 1), ct := Pv (i + 1), bk := D.nx } (σ'.set k (some (.int (lo + (i : Int))))) H') (hd : ∀ σ' H', Pv (n - lo).toNat σ' H' → D.nx σ' H') : xFR2 (gName k) tb D σ [.int lo, .int n] H :=
  ⟨lo, n, rfl, hb, for_range (lo := lo) (n := (n - lo).toNat) Pv h0 (fun i σ' H' hi p => hs i σ' H' (by omega) p) hd⟩
def xFL (K : PySem.W.Frag) (g : TG) (tb : TS) (D : Ends) (σ : L2.St) (x : V) (H1 : Hp) : Prop := ∃ a, x = .ref a ∧ (∃ xs, SqL K H1 a xs) ∧ ∃ W : Nat → Nat → L2.St → Hp → Prop, (∃ m, W 0 m σ H1) ∧ ∀ i m σ H, W i m σ H →
      ((Itl K a).stop i H ∧ D.nx σ H) ∨ ((Itl K a).go i H ∧ ∃ N : L2.St → Hp → Prop, (∀ σ' H', N σ' H' → ∃ m', m' < m ∧ W (i + 1) m' σ' H') ∧ ∀ x H', (Itl K a).yld i H x H' → g x σ H' fun σ2 H2 => tb { D with nx := N, ct := N, bk := D.nx } σ2 H2)
theorem forL (h : te σ H fun x H1 => xFL K g tb D σ x H1) : tFor (iList K te) g tb D σ H := h
theorem xfl (hx : SqL K H a xs) (Pv : Nat → L2.St → Hp → Prop) (h0 : Pv 0 σ H) (hl : ∀ i σ' H', i ≤ xs.length → Pv i σ' H' → SqL K H' a xs)
    (hs : ∀ i x σ' H', xs[i]? = some x → Pv i σ' H' → g x σ' H' fun σ2 H2 => tb { D with nx := Pv (i + 1), ct := Pv (i + 1), bk := D.nx } σ2 H2) (hd : ∀ σ' H', Pv xs.length σ' H' → D.nx σ' H') : xFL K g tb D σ (.ref a) H :=
  ⟨a, rfl, ⟨xs, hx⟩, for_list Pv h0 hl hs hd⟩
def xFT (K : PySem.W.Frag) (g : TG) (tb : TS) (D : Ends) (σ : L2.St) (x : V) (H1 : Hp) : Prop := ∃ a, x = .ref a ∧ (∃ xs, SqT K H1 a xs) ∧ ∃ W : Nat → Nat → L2.St → Hp → Prop, (∃ m, W 0 m σ H1) ∧ ∀ i m σ H, W i m σ H →
      ((Itt K a).stop i H ∧ D.nx σ H) ∨ ((Itt K a).go i H ∧ ∃ N : L2.St → Hp → Prop, (∀ σ' H', N σ' H' → ∃ m', m' < m ∧ W (i + 1) m' σ' H') ∧ ∀ x H', (Itt K a).yld i H x H' → g x σ H' fun σ2 H2 => tb { D with nx := N, ct := N, bk := D.nx } σ2 H2)
theorem forT (h : te σ H fun x H1 => xFT K g tb D σ x H1) : tFor (iTup K te) g tb D σ H := h
theorem xft (hx : SqT K H a xs) (Pv : Nat → L2.St → Hp → Prop) (h0 : Pv 0 σ H) (hl : ∀ i σ' H', i ≤ xs.length → Pv i σ' H' → SqT K H' a xs)
    (hs : ∀ i x σ' H', xs[i]? = some x → Pv i σ' H' → g x σ' H' fun σ2 H2 => tb { D with nx := Pv (i + 1), ct := Pv (i + 1), bk := D.nx } σ2 H2) (hd : ∀ σ' H', Pv xs.length σ' H' → D.nx σ' H') : xFT K g tb D σ (.ref a) H :=
  ⟨a, rfl, ⟨xs, hx⟩, for_tup Pv h0 hl hs hd⟩
/-- powers of written numbers -/
theorem pw {m : Int} (c : CPow i j) (h : i ^ j.toNat = m) (q : Q (.int m) H) : rI CPow (fun i j => .int (i ^ j.toNat)) (.int i) (.int j) H Q := i1 c (by rw [h]; exact q)
theorem atI_i {α : Type} {xs : List α} {i : Int} {v : α} (h0 : 0 ≤ i) (h : xs[i.toNat]? = some v) : atI xs i = some v := by
  have e : ((i.toNat : Nat) : Int) = i := Int.toNat_of_nonneg h0
  rw [← e]
  exact atI_nat h
end
end Rd
namespace Rd
open PySem PySem.Spec PyProof.Rows L2 Evl Dk
section
variable {σ : L2.St} {H : Hp} {v x : V} {K : PySem.W.Frag} {D : Ends} {ta te : TE} {a C dx : Addr} {fs : List (Str × V)} {f : Str}
def xSt (K : PySem.W.Frag) (f : Str) (y x : V) (H2 : Hp) (N : Hp → Prop) : Prop := ∃ a C dx fs, x = .ref a ∧ H2 a = some (.ins C dx fs) ∧ Cls K C ∧ NoAttr K C f ∧ fs.length < 1000 ∧ N (upd H2 a (.ins C dx (putF f y fs)))
theorem sfld (h : te σ H fun y H1 => ta σ H1 fun x H2 => xSt K f y x H2 fun H3 => D.nx σ H3) : sFld K ta te f D σ H := h
theorem xst {N : Hp → Prop} (h : H a = some (.ins C dx fs)) (c : Cls K C) (n : NoAttr K C f) (l : Nat.blt fs.length 1000 = true) (q : N (upd H a (.ins C dx (putF f v fs)))) : xSt K f v (.ref a) H N := ⟨a, C, dx, fs, rfl, h, c, n, Nat.le_of_ble_eq_true l, q⟩
def xMk (C : Addr) (sp : V → Hp → VK → Prop) (H : Hp) (Q : VK) : Prop := ∀ x dx, H x = none → H dx = none → dx ≠ x → sp (.ref x) (upd (upd H dx (.own x)) x (.ins C dx [])) (fun v H2 => v = .non ∧ Q (.ref x) H2)
theorem make {C : Addr} {sp : Sp} {dvs : List V} {E : XK} {al : TA} {Q : VK} (h : al σ H fun vs H1 => xMk C (fun x H2 Q2 => sp (x :: (vs ++ dvs)) H2 Q2 E) H1 Q) : tMake C sp dvs E al σ H Q := h
/-- a new instance, told by one fact -/
theorem xmk {C : Addr} {sp : V → Hp → VK → Prop} {H : Hp} {Q : VK} (h : ∀ x dx H', Ex H H' → H x = none → H' x = some (.ins C dx []) → sp (.ref x) H' (fun v H2 => v = .non ∧ Q (.ref x) H2)) : xMk C sp H Q := fun x dx nx nd ne =>
  h x dx _ (fun b o e => by rw [upd_ne (ne_of_none e nx), upd_ne (ne_of_none e nd)]; exact e) nx upd_same
theorem xmeth {m : Str} {P : Prop} (h : H a = some (.ins C dx fs)) (l : fs.lookup m = none) (p : P) : xMeth C m (.ref a) H P := ⟨a, dx, fs, rfl, h, l, p⟩
end
end Rd
namespace Dt
open PySem PySem.Spec PyProof.Rows L2 Evl
/-- no list within -/
def noL : PyData → Bool
  | .list _ => false
  | .tuple ds => ds.attach.all fun ⟨d, _⟩ => noL d
  | _ => true
section
variable {K : PySem.W.Frag} {H : Hp} {l : Addr} {ws : List V} {o : HO}
theorem sqt_upd {a : Addr} {xs : List V} (h : H l = some (.lst ws)) (s : SqT K H a xs) : SqT K (upd H l o) a xs := by
  rcases s with (s | ⟨ob, s⟩) | s
  · refine .inl (.inl ?_)
    rw [upd_ne (fun z => by subst z; rw [h] at s; cases s)]; exact s
  · refine .inl (.inr ⟨ob, ?_⟩)
    rw [upd_ne (fun z => by subst z; rw [h] at s; cases s)]; exact s
  · exact .inr s
mutual
theorem updL (h : H l = some (.lst ws)) : ∀ (d : PyData) (v : V), noL d = true → Dp K H v d → Dp K (upd H l o) v d
  | .none, _, _, h1 => by cases h1; exact .non
  | .bool b, _, _, h1 => by cases h1; exact .bl b
  | .int i, _, _, h1 => by cases h1; exact .int i
  | .str x, _, _, h1 => by cases h1; exact .str x
  | .list _, _, n, _ => by simp [noL] at n
  | .tuple ds, _, n, h1 => by
    cases h1 with
    | tup hs ha => exact .tup (sqt_upd h hs) (updLA h ds _ (by simpa [noL] using n) ha)
  | .dict _, _, _, h1 => by cases h1
theorem updLA (h : H l = some (.lst ws)) : ∀ (ds : List PyData) (vs : List V), (∀ d ∈ ds, noL d = true) → DpAll K H vs ds → DpAll K (upd H l o) vs ds
  | [], _, _, h1 => by cases h1; exact .nil
  | d :: ds, _, n, h1 => by
    cases h1 with
    | cons h2 h3 => exact .cons (updL h d _ (n d List.mem_cons_self) h2) (updLA h ds _ (fun d hd => n d (List.mem_cons_of_mem _ hd)) h3)
end
end
end Dt
namespace Rd
open PySem PySem.Spec PyProof.Rows L2 Evl Dk
/-- only x has changed, which was not there -/
theorem exBut {H H2 H' : Hp} {x : Addr} (e : Ex H H2) (n : H x = none) (s : ∀ b o, b ≠ x → H2 b = some o → H' b = some o) : Ex H H' := fun b o h => s b o (ne_of_none h n) (e b o h)
end Rd
namespace Rd
open PySem PySem.Spec PyProof.Rows L2 Evl Dk
section
variable {σ : L2.St} {H : Hp} {Q : VK} {te : TE} {xs : List V} {v : V} {b : Bool} {t : TT} {QB : Bool → Hp → Prop} {K : PySem.W.Frag} {l : Addr} {a C dx : Addr} {fs : List (Str × V)}
theorem evL (h : EvL te σ H xs) (q : ∀ p H', H p = none → Ex H H' → H' p = some (.lst xs) → Q (.ref p) H') : te σ H Q := h H (Ex.refl H) Q q
theorem evV (h : Ev te σ H v) (q : ∀ H', Ex H H' → Q v H') : te σ H Q := h H (Ex.refl H) Q q
theorem evYes : EvT tYes σ H true := fun H1 _ _ q => q H1 (Ex.refl H1)
theorem given_all (n : Nat) (v : Nat → V) : given n (fun _ => true) v = (List.range n).map v := by
  unfold given
  rw [List.filter_eq_self.mpr (fun _ _ => rfl)]
theorem isiOwn {b : Bool} {D : Addr} (h : H a = some (.ins C dx fs)) (cl : Cls K C) (ha : PySem.W.findIn K (.ref C) "__class__" = some (some (.builtin "object.__class__"))) (hn : PySem.W.specialIn K (.builtin "object.__class__") "__get__" = some (some (.builtin "getset_descriptor.__get__")))
    (htk : PySem.W.takesIn K (.builtin "object.__class__") = some true) (hm : PySem.W.mroIn K C (.type "object") = some true) (k : PySem.W.kitOne K (.ref C) (.ref D) = some b) (q : Q (.bl b) H) : rIsi K [.ref a, .ref D] H Q :=
  ⟨.ref a, .ref D, .ref C, .ref D, b, rfl, .own D, .base (.ins h cl ha hn htk hm), k, q⟩
theorem cat {zs : List V} {c : Addr} (h1 : H l = some (.lst xs)) (h2 : H c = some (.lst zs)) (n : xs.length + zs.length ≤ 100000) (q : ∀ p H', H p = none → Ex H H' → H' p = some (.lst (xs ++ zs)) → Q (.ref p) H') : rCat (.ref l) (.ref c) H Q :=
  ⟨l, c, xs, zs, rfl, rfl, h1, h2, sz_of n, fun p hp => q p _ hp (Ex.new hp) upd_same⟩
theorem lstRg {a b : Int} (h : -100000 ≤ a ∧ a ≤ 100000 ∧ -100000 ≤ b ∧ b ≤ 100000) (q : ∀ p H', H p = none → Ex H H' → H' p = some (.lst (rgV a b)) → Q (.ref p) H') : RgOk a b ∧ ∀ q, H q = none → Q (.ref q) (upd H q (.lst (rgV a b))) :=
  ⟨⟨by omega, by omega, by omega, by omega, by omega⟩, fun p hp => q p _ hp (Ex.new hp) upd_same⟩
theorem pw20 {m : Int} (e : (10 : Int) ^ (20 : Int).toNat = m) (q : Q (.int m) H) : rI CPow (fun i j => .int (i ^ j.toNat)) (.int 10) (.int 20) H Q := pw ⟨by decide, by decide, by decide⟩ e q
end
end Rd
namespace Rd
open PySem PySem.Spec PyProof.Rows L2 Evl Dk
def rCatS : R2 := fun x y H Q => ∃ i j, x = .str i ∧ y = .str j ∧ i.length + j.length ≤ sizeLine ∧ Q (.str (i ++ j)) H
theorem op_addS {X : Cx} : OpR X (binaryOp .Add) rCatS := op_add_str
theorem catS {H : Hp} {Q : VK} {i j : Str} (h : i.length + j.length ≤ 100000) (q : Q (.str (i ++ j)) H) : rCatS (.str i) (.str j) H Q := ⟨i, j, rfl, rfl, sz_of h, q⟩
end Rd
namespace Rd
open PySem PySem.Spec PyProof.Rows L2 Evl Dk
section
variable {σ : L2.St} {H : Hp} {Q : VK} {te tf : TE} {x y : V} {n m : Int}
def xR1 (x : V) (H1 : Hp) (Q : VK) : Prop := ∃ n, x = .int n ∧ (RgOk 0 n ∧ ∀ q, H1 q = none → Q (.ref q) (upd H1 q (.lst (rgV 0 n))))
theorem listRg1 (h : te σ H fun x H1 => xR1 x H1 Q) : tLstRg (tRg1 te) σ H Q := h
theorem xr1 (h : -100000 ≤ n ∧ n ≤ 100000) (q : ∀ p H', H p = none → Ex H H' → H' p = some (.lst (rgV 0 n)) → Q (.ref p) H') : xR1 (.int n) H Q := ⟨n, rfl, lstRg ⟨by omega, by omega, h.1, h.2⟩ q⟩
end
end Rd
namespace Rd
open PySem PySem.Spec PyProof.Rows L2 Evl Dk
section
variable {σ : L2.St} {H : Hp} {Q : VK} {te tf : TE} {x y : V} {n m : Int} {l : Addr} {xs : List V}
def xR2 (x y : V) (H1 : Hp) (Q : VK) : Prop := ∃ i j, x = .int i ∧ y = .int j ∧ (RgOk i j ∧ ∀ q, H1 q = none → Q (.ref q) (upd H1 q (.lst (rgV i j))))
theorem listRg2 (h : te σ H fun x H1 => tf σ H1 fun y H2 => xR2 x y H2 Q) : tLstRg (tRg2 te tf) σ H Q := h
theorem xr2 (h : -100000 ≤ n ∧ n ≤ 100000 ∧ -100000 ≤ m ∧ m ≤ 100000) (q : ∀ p H', H p = none → Ex H H' → H' p = some (.lst (rgV n m)) → Q (.ref p) H') : xR2 (.int n) (.int m) H Q := ⟨n, m, rfl, rfl, lstRg h q⟩
theorem eqB {a b : Bool} (q : Q (.bl (decide (a = b))) H) : rEq (.bl a) (.bl b) H Q := ⟨rfl, by rw [dB]; exact q⟩
theorem neB {a b : Bool} (q : Q (.bl (!decide (a = b))) H) : rNe (.bl a) (.bl b) H Q := ⟨rfl, by rw [dB]; exact q⟩
def rInsert : V → List V → Hp → VK → Prop := fun x vs H Q => ∃ (l : Addr) (xs : List V) (i : Int) (y : V), x = .ref l ∧ vs = [.int i, y] ∧ H l = some (.lst xs) ∧ xs.length < sizeLine ∧ 0 ≤ i ∧ i < 2 ^ 63 ∧ Q .non (upd H l (.lst (xs.take i.toNat ++ [y] ++ xs.drop i.toNat)))
theorem mt_ins {X : Cx} : MtR X "list.insert" rInsert := mt_insert
theorem insert {i : Int} {y : V} (h : H l = some (.lst xs)) (hz : xs.length < 100000) (h0 : 0 ≤ i ∧ i ≤ 100000) (q : Q .non (upd H l (.lst (xs.take i.toNat ++ [y] ++ xs.drop i.toNat)))) : rInsert (.ref l) [.int i, y] H Q :=
  ⟨l, xs, i, y, rfl, rfl, h, sz_lt hz, h0.1, by omega, q⟩
theorem rgV_get {a b : Int} {i : Nat} {y : V} (h : (rgV a b)[i]? = some y) : y = .int (a + i) ∧ (i : Int) < b - a := by
  unfold rgV at h
  rw [List.getElem?_map] at h
  by_cases hi : i < (b - a).toNat
  · rw [List.getElem?_range hi] at h
    exact ⟨(Option.some.inj h).symm, by omega⟩
  · rw [List.getElem?_eq_none (by rw [List.length_range]; omega)] at h; cases h
end
end Rd
namespace Rd
open PySem PySem.Spec PyProof.Rows L2 Evl Dk
section
variable {σ : L2.St} {H : Hp} {Q : VK} {te tl : TE} {al : TA} {x y : V} {n m : Int} {l : Addr} {xs : List V} {g : TG} {tt : TT} {vs : List Nat} {K : PySem.W.Frag} {j : Nat}
def xLcR (g : TG) (tt : TT) (te : TE) (vs : List Nat) (σ : L2.St) (ws : List V) (H : Hp) (Q : VK) : Prop := tLc (iRng1 (fun _ H Q => Q ws H)) g tt te vs σ H Q
theorem lcR1 (h : al σ H fun ws H1 => xLcR g tt te vs σ ws H1 Q) : tLc (iRng1 al) g tt te vs σ H Q := h
theorem xlcR (f : Nat → Bool) (v : Nat → V) (hn : 0 ≤ n ∧ n ≤ 40000) (hw : ∀ x, wipe ((wipe σ vs).set j (some x)) vs = wipe σ vs)
    (ht : ∀ (i : Nat) H1, Ex H H1 → (i : Int) < n → EvT tt ((wipe σ vs).set j (some (.int (i : Int)))) H1 (f i)) (he : ∀ (i : Nat) H1, Ex H H1 → (i : Int) < n → f i = true → Ev te ((wipe σ vs).set j (some (.int (i : Int)))) H1 (v i))
    (q : ∀ p H', H p = none → Ex H H' → H' p = some (.lst (given n.toNat f v)) → Q (.ref p) H') : xLcR (gName j) tt te vs σ [.int n] H Q :=
  evL (el_lcR1 f v (fun H1 _ Q q => q H1 (Ex.refl H1)) hn hw ht he) q
def xLcL (K : PySem.W.Frag) (g : TG) (tt : TT) (te : TE) (vs : List Nat) (σ : L2.St) (x : V) (H : Hp) (Q : VK) : Prop := tLc (iList K (fun _ H Q => Q x H)) g tt te vs σ H Q
theorem lcL (h : tl σ H fun x H1 => xLcL K g tt te vs σ x H1 Q) : tLc (iList K tl) g tt te vs σ H Q := h
theorem xlcL (f : Nat → Bool) (v : Nat → V) (hx : SqL K H l xs) (hz : xs.length ≤ 40000) (hw : ∀ x, wipe ((wipe σ vs).set j (some x)) vs = wipe σ vs)
    (ht : ∀ (i : Nat) (x : V) H1, Ex H H1 → xs[i]? = some x → EvT tt ((wipe σ vs).set j (some x)) H1 (f i)) (he : ∀ (i : Nat) (x : V) H1, Ex H H1 → xs[i]? = some x → f i = true → Ev te ((wipe σ vs).set j (some x)) H1 (v i))
    (q : ∀ p H', H p = none → Ex H H' → H' p = some (.lst (given xs.length f v)) → Q (.ref p) H') : xLcL K (gName j) tt te vs σ (.ref l) H Q :=
  evL (el_lcL (a := l) f v (fun H1 _ Q q => q H1 (Ex.refl H1)) hx hz hw ht he) q
end
end Rd

/-! exceptions: an own base's __init__, isinstance of an error that has a dict, an object made where its making may raise -/
namespace L2
open PySem PySem.Spec PyProof.Rows
section
variable {X : Cx} {e : Expr} {es : List Expr} {ta : TA} {p1 p2 pos : Pos} {x : Str}
/-- what the own base class at B says of its __init__ -/
structure OvB (K : PySem.W.Frag) (B : Addr) : Prop where
  ga : PySem.W.specialIn K (.ref B) "__getattribute__" = some (some (.builtin "type.__getattribute__"))
  rd : PySem.W.readsIn K B (.type "type") = true
  at_ : PySem.W.findCls K (.ref B) (.type "type") "__init__" = some (.val (.builtin "ValueError.__init__"))
/-- B.__init__(self, ..), B an own class over ValueError without an __init__ of its own -/
theorem pe_ovinit {pl : Sem Bool} {B : Addr} (hg : Gl X x) (hm : X.mg x = some (.ref B)) (T : OvB X.K B) (ha : PA X (e :: es) ta)
    (hdb : (x == ("__debug__" : Str)) = false := by decide)
    (hc : eval (.Call (.Attribute (.Name x p1) "__init__" p2) (e :: es) [] pos) X.env = (do
      let ov ← eval (.Name x p1) X.env
      standAt p2.atName
      let (f, first) ← holding [ov] (getMethod ov "__init__" pl)
      callWith pos f first (backTo pos (starEach (e :: es) X.env)) (backToKw pos (keywordEach [] X.env))) := by rfl)
    (he : starEach (e :: es) X.env = (false, eval e X.env) :: starEach es X.env := by rfl) (hpl : (backTo pos (starEach es X.env)).any (·.1) = false := by rfl) :
    PE X (.Call (.Attribute (.Name x p1) "__init__" p2) (e :: es) [] pos) (tVeI X.K ta) := by
  refine ⟨fun pins s σ H Q I h => ?_⟩
  refine PySem.W.methodCall_KW (ld_glob I hg hm ?_ hdb) hc
  refine PySem.W.method_cls I.kIn T.ga (PySem.W.cls_value I.kIn T.rd T.at_ (by decide +kernel) ?_)
  show wpAny _ _ (callWith pos (Value.builtin "ValueError.__init__") [] (backTo pos (starEach (e :: es) X.env)) []) _ _ _
  refine PyProof.Rows.callWith_method1 (thn (ha.run pos pins _ σ H _ (I.tok _) h) fun us s1 ⟨vs, H1, I1, r1, a, C, ws, ev, hl, T, ea, q⟩ => ?_) he hpl
  subst ev
  cases r1 with
  | @cons _ u0 _ ur ra rw' =>
    obtain rfl : u0 = Value.ref a := ra
    have hlen : ur.length ≤ sizeLine := by
      rw [← Paired.length rw', sizeLine_eq]
      omega
    exact oinit_ok T I1 ea hlen fun s' J => ⟨.non, H1, J, rfl, q⟩
end
/-- what isinstance and a field's reading ask of an own exception class -/
structure ExD (K : PySem.W.Frag) (C : Addr) : Prop where
  cl : (PySem.W.clsIn K C).isSome = true
  ga : PySem.W.findIn K (.ref C) "__getattribute__" = some (some (.builtin "BaseException.__getattribute__"))
  gg : PySem.W.findIn K (.ref C) "__getattr__" = some none
  ex : PySem.W.subIn K (.ref C) (.type "BaseException") = some true
  dc : PySem.W.hasDictIn K C = true
  at_ : PySem.W.findIn K (.ref C) "__class__" = some (some (.builtin "object.__class__"))
  gt : PySem.W.specialIn K (.builtin "object.__class__") "__get__" = some (some (.builtin "getset_descriptor.__get__"))
  tk : PySem.W.takesIn K (.builtin "object.__class__") = some true
  ob : PySem.W.mroIn K C (.type "object") = some true
theorem ExD.xf {K : PySem.W.Frag} {C : Addr} (T : ExD K C) : XfC K C := ⟨T.ga, T.gg, T.ex, T.dc⟩
/-- isinstance(e, c), e the exception of the class D that the suite holds, its dict at dd -/
def rIsD (K : PySem.W.Frag) (cls : Value) (d : Option Addr) (a : Addr) : List V → Hp → VK → Prop := fun xs H Q => ∃ (D : Addr) (dd : Addr) (fs : List (Str × V)) (c : V) (cv : Value) (b : Bool), xs = [.ref a, c] ∧ cls = .ref D ∧ d = some dd ∧ ExD K D ∧ H dd = some (.xd fs) ∧ ClsV c cv ∧ PySem.W.kitOne K (.ref D) cv = some b ∧ Q (.bl b) H
theorem call_isD {X : Cx} {a : Addr} {cls : Value} {d : Option Addr} {oe : Obj} {pn : List (Addr × Obj)} (hz : Zc cls d oe) (hf : ∃ vs, oe.data = .fields vs) : CallR (X.suite a ((a, oe) :: pn)) (.builtin "isinstance") (rIsD X.K cls d a) := by
  rintro pins s σ H xs us Q I r ⟨D, dd, fs, c, cv, b, rfl, rfl, rfl, T, hdd, hcv, e, q⟩
  obtain ⟨fv, hv⟩ := hf
  cases r with
  | cons rx r => cases r with
    | cons rt r =>
      cases r
      cases rx
      obtain rfl := hcv.eq rt
      have hx : ObjOk X.prog X.w H s.heap dd (.xd fs) := I.hok dd _ hdd
      obtain ⟨mA, hns, _⟩ := hx
      obtain ⟨od, ho, _⟩ := lookIn_ns hns
      have J : PySem.W.InstAt s.heap a oe D (some od) := ⟨(I.pin (a, oe) (List.mem_append.mpr (.inl List.mem_cons_self))).1, hz.1, by unfold PySem.W.notCls; rw [hv] <;> rfl, by rw [hz.2]; exact ho⟩
      refine PySem.W.kia_one (PySem.W.kitx_exc T.cl T.ga T.gg T.ex T.at_ T.gt T.tk T.ob) I.kIn J e (fun z => by cases z) fun t2 => ?_
      exact ⟨.bl b, H, I.kept (t' := t2) fun _ _ z => z, rfl, q⟩
section
variable {X : Cx} {CX : CXT} {k : Nat} {f C : Addr} {fd : FuncData} {ps : List Str} {sp : Sp} {E : L2.St → XK} {x m : Str} {p pos apos : Pos} {e o : Expr} {es : List Expr} {ta : TE} {t : TA}
theorem run_makeS {pins : List (Addr × Obj)} {σ : L2.St} {H : Hp} {s : Shared} {Q : VK} {us : List Value} {vs : List V} (M : Mk X.K C f) (F : FnOk X.prog X.w X.K X.mg X.base CX k f fd ps sp) (hr : Room (k + 1) X.A) (hb : Binds X.K fd ps [])
    (hx : PassesAt CX X σ (E σ)) (I : Inv X pins σ H s) (r : Vals vs us)
    (h : ∀ x dx, H x = none → H dx = none → dx ≠ x → sp (.ref x :: vs) (upd (upd H dx (.own x)) x (.ins C dx [])) (fun v H2 => v = .non ∧ Q (.ref x) H2) (E σ)) :
    wpAny (model X.prog X.w) X.A (call (.ref C) us) (EP X pins σ Q) X.xe s := by
  have hq := h (s.heap.objs.size + 1) s.heap.objs.size (I.hok.fresh (Nat.le_succ _)) (I.hok.fresh (Nat.le_refl _)) (Nat.ne_of_lt (Nat.lt_succ_self _))
  have I2 := Inv.made (C := C) I
  have r2 : Vals (V.ref (s.heap.objs.size + 1) :: vs) (Value.ref (s.heap.objs.size + 1) :: us) := .cons rfl r
  have hl : (Value.ref (s.heap.objs.size + 1) :: us).length = ps.length := by
    have e := r2.length
    rw [F.len _ _ _ _ hq] at e
    exact e.symm
  have b := hb _ (Value.ref (s.heap.objs.size + 1) :: us) I2.kIn (by rw [List.append_nil]; exact hl)
  rw [List.append_nil] at b
  refine wpAny_call (make_map (f := f) I.kIn M.makes M.init (beq_iff_eq.mp M.fn) (codeAny_mono (F.run _ X.stack _ _ ⟨Value.ref (s.heap.objs.size + 1) :: us, []⟩ (Value.ref (s.heap.objs.size + 1) :: us) _ _ (E σ) (hr.make C us [])
    (I2.env0.make C us []) b r2 hq) fun r s' hq' => ?_))
  cases r with
  | error e => exact hx pins _ _ e s' I2 hq'
  | ok fl =>
    cases fl with
    | ret u =>
      obtain ⟨v, H', I3, rv, ev, q3⟩ := I2.after hq'
      subst ev
      exact ⟨rv, ⟨V.ref (s.heap.objs.size + 1), H', I3, rfl, q3⟩⟩
    | next => exact False.elim hq'
    | brk => exact False.elim hq'
    | cont => exact False.elim hq'
/-- C(..) whose __init__ may raise: what is raised is wished for at the slots -/
def tMakeS (C : Addr) (sp : Sp) (E : L2.St → XK) (t : TA) : TE := fun σ H Q => t σ H fun vs H1 => ∀ x dx, H1 x = none → H1 dx = none → dx ≠ x → sp (.ref x :: vs) (upd (upd H1 dx (.own x)) x (.ins C dx [])) (fun v H2 => v = .non ∧ Q (.ref x) H2) (E σ)
theorem pe_makeS (M : Mk X.K C f) (F : FnOk X.prog X.w X.K X.mg X.base CX k f fd ps sp) (hr : Room (k + 1) X.A) (hg : Gl X x) (hm : X.mg x = some (.ref C)) (hb : Binds X.K fd ps []) (hx : ∀ σ, PassesAt CX X σ (E σ))
    (ha : PA X (e :: es) t) (hdb : (x == ("__debug__" : Str)) = false := by decide) (he : starEach (e :: es) X.env = (false, eval e X.env) :: starEach es X.env := by rfl) (hpl : (backTo pos (starEach es X.env)).any (·.1) = false := by rfl) :
    PE X (.Call (.Name x p) (e :: es) [] pos) (tMakeS C sp E t) := by
  refine ⟨fun pins s σ H Q I h => ?_⟩
  refine wpAny_Call_Name_kw (ld_glob I hg hm ?_ hdb)
  refine PySem.W.callWith_K (h₀ := X.base) I.ok.mod.kin M.kp (thn (ha.run pos pins s σ H _ I h) fun us s1 ⟨vs, H1, I1, r, q⟩ => ⟨I1.kIn, ?_⟩) he hpl
  exact run_makeS M F hr hb (hx σ) I1 r q
end
end L2
namespace Rd
open PySem PySem.Spec PyProof.Rows L2 Evl Dk
section
variable {σ : L2.St} {H : Hp} {Q : VK} {K : PySem.W.Frag} {D : Ends} {al : TA} {te : TE} {a C : Addr} {v x : V} {f : Str}
def xVeI (K : PySem.W.Frag) (vs : List V) (H1 : Hp) (Q : VK) : Prop := ∃ (a C : Addr) (ws : List V), vs = .ref a :: ws ∧ ws.length ≤ 1000 ∧ OexC K C ∧ H1 a = some (exo a C none) ∧ Q .non H1
theorem vei (h : al σ H fun vs H1 => xVeI K vs H1 Q) : tVeI K al σ H Q := h
theorem xvei {ws : List V} (T : OexC K C) (h : H a = some (exo a C none)) (n : Nat.ble ws.length 1000 = true) (q : Q .non H) : xVeI K (.ref a :: ws) H Q := ⟨a, C, ws, rfl, Nat.le_of_ble_eq_true n, T, h, q⟩
def xOst (K : PySem.W.Frag) (f : Str) (y x : V) (H2 : Hp) (N : Hp → Prop) : Prop := ∃ a C : Addr, x = .ref a ∧ OexC K C ∧ PySem.W.findIn K (.ref C) f = some none ∧
  ((H2 a = some (exo a C none) ∧ ∀ dx, H2 dx = none → dx ≠ a → N (upd (upd H2 dx (exd dx [(f, y)])) a (exo a C (some dx)))) ∨
    ∃ (dx : Addr) (fs : List (Str × V)), H2 a = some (exo a C (some dx)) ∧ H2 dx = some (exd dx fs) ∧ fs.length ≤ 900 ∧ N (upd H2 dx (exd dx ((f, y) :: fs))))
theorem ost {to : TE} (h : te σ H fun y H1 => to σ H1 fun x H2 => xOst K f y x H2 fun H3 => D.nx σ H3) : tOst K f to te D σ H := h
theorem xost {N : Hp → Prop} (T : OexC K C) (n : PySem.W.findIn K (.ref C) f = some none) (h : H a = some (exo a C none)) (q : ∀ dx, H dx = none → dx ≠ a → N (upd (upd H dx (exd dx [(f, v)])) a (exo a C (some dx)))) : xOst K f v (.ref a) H N := ⟨a, C, rfl, T, n, .inl ⟨h, q⟩⟩
/-- an exception with one field: its __init__'s promise, and the raise of it -/
def spEx1 (C : Addr) (f : Str) : Sp := fun vs H Q _ => ∃ (a : Addr) (s : Str), vs = [.ref a, .str s] ∧ s.length ≤ 1000 ∧ H a = some (exo a C none) ∧ ∀ dx, H dx = none → dx ≠ a → Q .non (upd (upd H dx (exd dx [(f, .str s)])) a (exo a C (some dx)))
def xMkO (C : Addr) (sp : Sp) (dvs vs : List V) (H1 : Hp) (Q : XK) : Prop := vs.length ≤ 1000 ∧ ∀ a, H1 a = none → sp (.ref a :: (vs ++ dvs)) (upd H1 a (exo a C none))
  (fun v H2 => v = .non ∧ ∃ (d : Addr) (fs : List (Str × V)), H2 a = some (exo a C (some d)) ∧ H2 d = some (exd d fs) ∧ H1 d = none ∧ Q (.ref C) (some d) (upd (del H2 a) d (.xd fs))) (fun _ _ _ => False)
theorem xmko1 {s : Str} {Q : XK} (hs : s.length ≤ 1000) (q : ∀ d H', H d = none → Ex H H' → H' d = some (.xd [(f, .str s)]) → Q (.ref C) (some d) H') : xMkO C (spEx1 C f) [] [.str s] H Q := by
  refine ⟨Nat.le_of_ble_eq_true rfl, fun a na => ⟨a, s, rfl, hs, upd_same, fun dx nx ne => ⟨rfl, dx, [(f, .str s)], upd_same, by rw [upd_ne ne]; exact upd_same, ?_, ?_⟩⟩⟩
  · rw [upd_ne ne] at nx; exact nx
  · have nx' : H dx = none := by rw [upd_ne ne] at nx; exact nx
    refine q dx _ nx' (fun b o hb => ?_) upd_same
    have h1 : b ≠ dx := ne_of_none hb nx'
    have h2 : b ≠ a := ne_of_none hb na
    rw [upd_ne h1, del_ne h2, upd_ne h2, upd_ne h1, upd_ne h2]
    exact hb
theorem makeS {C : Addr} {sp : Sp} {E : L2.St → XK} (h : al σ H fun vs H1 => xMk C (fun x H2 Q2 => sp (x :: vs) H2 Q2 (E σ)) H1 Q) : tMakeS C sp E al σ H Q := h
theorem callS {sp : Sp} {E : L2.St → XK} (h : al σ H fun vs H1 => sp vs H1 Q (E σ)) : tCallS sp E al σ H Q := h
end
end Rd
namespace Rd
open PySem PySem.Spec PyProof.Rows L2 Evl Dk
section
variable {H : Hp} {Q : VK} {K : PySem.W.Frag} {D dd a : Addr} {fs : List (Str × V)} {c : V} {cv : Value} {b : Bool}
theorem isD (T : ExD K D) (h : H dd = some (.xd fs)) (hc : ClsV c cv) (k : PySem.W.kitOne K (.ref D) cv = some b) (q : Q (.bl b) H) : rIsD K (.ref D) (some dd) a [.ref a, c] H Q := ⟨D, dd, fs, c, cv, b, rfl, rfl, rfl, T, h, hc, k, q⟩
/-- e.f, e the exception of the suite -/
def xXf (a : Addr) (cls : Value) (d : Option Addr) (C : Addr) (f : Str) (x : V) (H1 : Hp) (Q : VK) : Prop := x = .ref a ∧ cls = .ref C ∧ ∃ (dd : Addr) (fs : List (Str × V)) (v : V), d = some dd ∧ H1 dd = some (.xd fs) ∧ fs.lookup f = some v ∧ Q v H1
theorem xf {σ : L2.St} {te : TE} {cls : Value} {d : Option Addr} {C : Addr} {f : Str} (h : te σ H fun x H1 => xXf a cls d C f x H1 Q) : tXf a cls d C f te σ H Q := h
theorem xxf {C : Addr} {f : Str} {v : V} (h : H dd = some (.xd fs)) (l : fs.lookup f = some v) (q : Q v H) : xXf a (.ref C) (some dd) C f (.ref a) H Q := ⟨rfl, rfl, dd, fs, v, rfl, h, l, q⟩
end
end Rd


local macro_rules | `(tactic| walk_at "hp") => `(tactic| first
  | assumption | exact L2.upd_same | (refine (by assumption : Evl.Ex _ _) _ _ ?_; walk_at "hp")
  | (refine (L2.upd_ne (by assumption)).trans ?_; walk_at "hp") | (refine (L2.upd_ne (Ne.symm (by assumption))).trans ?_; walk_at "hp") | (refine (L2.upd_ne (L2.ne_of (by assumption) (by assumption) (by intro z; cases z))).trans ?_; walk_at "hp"))
local macro_rules | `(tactic| walk_at "sq") => `(tactic| first | assumption | exact L2.SqL.of (by walk_at "hp") | exact L2.SqT.of (by walk_at "hp"))
local macro_rules | `(tactic| walk_at "rd1") => `(tactic| with_reducible first
  | refine Rd.seq ?_ | refine Rd.asg ?_ | refine Rd.gnm ?_ | refine Rd.ifS ?_ | refine Rd.ret ?_ | refine Rd.retN ?_ | refine Rd.drop ?_ | refine Rd.nxt ?_ | refine Rd.brk ?_ | refine Rd.cnt ?_
  | refine Rd.var rfl ?_ | refine Rd.c ?_ | refine Rd.op ?_ | refine Rd.i0 ?_ | refine Rd.un ?_ | refine Rd.u0 ?_
  | refine Rd.test ?_ | refine Rd.tbv ?_ | refine Rd.xt ?_ | refine Rd.andT ?_ | refine Rd.orT ?_ | refine Rd.notT ?_ | refine Rd.andV ?_ | refine Rd.orV ?_ | refine Rd.notV ?_ | refine Rd.ifE ?_ | refine Rd.chain ?_
  | refine Rd.nil ?_ | refine Rd.cons ?_ | refine Rd.cb ?_ | refine Rd.call ?_ | refine Rd.tup ?_ | refine Rd.lst ?_ | refine Rd.fld ?_ | refine Rd.meth ?_ | refine Rd.bm ?_ | refine Rd.bm0 ?_
  | refine Rd.eqI ?_ | refine Rd.neI ?_ | refine Rd.eqS ?_ | refine Rd.neS ?_ | refine Rd.isN_non ?_ | refine Rd.isN_int ?_ | refine Rd.isN_ref ?_ | refine Rd.isN_str ?_ | refine Rd.notN_non ?_ | refine Rd.notN_int ?_ | refine Rd.notN_ref ?_ | refine Rd.notN_str ?_
  | refine Rd.ifTT ?_ | refine Rd.ifFF ?_ | refine Rd.ifNTT ?_ | refine Rd.ifNFF ?_
  | refine Rd.int ?_ | refine Rd.intB ?_ | refine Rd.abs ?_ | refine Rd.max2 ?_ | refine Rd.min2 ?_
  | refine Rd.sfld ?_ | refine Rd.listRg1 ?_ | refine Rd.lcR1 ?_ | refine Rd.lcL ?_ | refine Rd.listRg2 ?_ | refine Rd.eqB ?_ | refine Rd.neB ?_ | refine Rd.xf ?_ | refine Rd.vei ?_ | refine Rd.ost ?_ | refine Rd.makeS ?_ | refine Rd.callS ?_ | refine Rd.make ?_ | refine Rd.forR1 ?_ | refine Rd.forR2 ?_ | refine Rd.forL ?_ | refine Rd.forT ?_ | refine Rd.par ?_ | refine Rd.par2 ?_ | refine Rd.gcons ?_ | refine Rd.gnil ?_ | refine Rd.gsub ?_ | refine Rd.ipi ?_ | refine Rd.aug rfl ?_)
local macro_rules | `(tactic| walk_at "rd2") => `(tactic| first
  | ((with_reducible refine' Rd.pw (m := 1000000) (i := 10) (j := 6) ?c1 ?e1 ?_); (case c1 => exact ⟨by decide, by decide, by decide⟩); (case e1 => decide)) | ((with_reducible refine' Rd.pw (m := 1000000000000) (i := 10) (j := 12) ?c1 ?e1 ?_); (case c1 => exact ⟨by decide, by decide, by decide⟩); (case e1 => decide)) | ((with_reducible refine' Rd.pw (m := 1000000000000000000000000000000) (i := 10) (j := 30) ?c1 ?e1 ?_); (case c1 => exact ⟨by decide, by decide, by decide⟩); (case e1 => decide))
  | ((with_reducible refine' Rd.pw (m := 10000000000000000000000000000000) (i := 10) (j := 31) ?c1 ?e1 ?_); (case c1 => exact ⟨by decide, by decide, by decide⟩); (case e1 => decide)) | ((with_reducible refine' Rd.pw (m := 10000000000000000000000000000000000000000) (i := 10) (j := 40) ?c1 ?e1 ?_); (case c1 => exact ⟨by decide, by decide, by decide⟩); (case e1 => decide)) | ((with_reducible refine' Rd.pw (m := 100000000000000000000) (i := 10) (j := 20) ?c1 ?e1 ?_); (case c1 => exact ⟨by decide, by decide, by decide⟩); (case e1 => decide)) | ((with_reducible refine' Rd.pw (m := 10000000000000000000000000000000000000000000000000000000000000000) (i := 10) (j := 64) ?c1 ?e1 ?_); (case c1 => exact ⟨by decide, by decide, by decide⟩); (case e1 => decide)) | ((with_reducible refine' Rd.pw (m := 10000) (i := 10) (j := 4) ?c1 ?e1 ?_); (case c1 => exact ⟨by decide, by decide, by decide⟩); (case e1 => decide)) | ((with_reducible refine' Rd.pw (m := 100) (i := 10) (j := 2) ?c1 ?e1 ?_); (case c1 => exact ⟨by decide, by decide, by decide⟩); (case e1 => decide))
  | (with_reducible refine' Rd.isiInt (b := true) ?k1 ?_); (case k1 => rfl)
  | (with_reducible refine' Rd.isiInt (b := false) ?k1 ?_); (case k1 => rfl)
  | (with_reducible refine' Rd.isiBl (b := true) ?k1 ?_); (case k1 => rfl)
  | (with_reducible refine' Rd.isiBl (b := false) ?k1 ?_); (case k1 => rfl)
  | (with_reducible refine' Rd.isiStr (b := true) ?k1 ?_); (case k1 => rfl)
  | (with_reducible refine' Rd.isiStr (b := false) ?k1 ?_); (case k1 => rfl)
  | (with_reducible refine' Rd.isiNon (b := true) ?k1 ?_); (case k1 => rfl)
  | (with_reducible refine' Rd.isiNon (b := false) ?k1 ?_); (case k1 => rfl)
  | (with_reducible refine' Rd.isiLst (b := true) ?h1 ?k1 ?_); (case h1 => walk_at "hp"); (case k1 => rfl)
  | (with_reducible refine' Rd.isiLst (b := false) ?h1 ?k1 ?_); (case h1 => walk_at "hp"); (case k1 => rfl)
  | (with_reducible refine' Rd.isiTup (b := true) ?h1 ?k1 ?_); (case h1 => walk_at "hp"); (case k1 => rfl)
  | (with_reducible refine' Rd.isiTup (b := false) ?h1 ?k1 ?_); (case h1 => walk_at "hp"); (case k1 => rfl)
  | (with_reducible refine' Rd.i1 ?c1 ?_); (case c1 => first | assumption | (show (0 : Int) < _; omega) | decide | exact .inl (by decide) | exact .inr (by decide) | exact .inr ⟨by omega, by omega⟩ | exact .inl ⟨by omega, by omega⟩ | exact ⟨by decide, by decide⟩)
  | (with_reducible refine' Rd.len ?s1 ?_); (case s1 => walk_at "sq")
  | (with_reducible refine' Rd.lenT ?s1 ?_); (case s1 => walk_at "sq")
  | (with_reducible refine' Rd.xtyL ?s1 ?_); (case s1 => walk_at "sq")
  | (with_reducible refine' Rd.ixL ?s1 ?a1 ?_); (case s1 => walk_at "sq"); (case a1 => rfl)
  | (with_reducible refine' Rd.ixT ?s1 ?a1 ?_); (case s1 => walk_at "sq"); (case a1 => rfl)
  | (with_reducible refine' Rd.gtup ?s1 ?n1 ?_); (case s1 => walk_at "sq"); (case n1 => rfl)
  | (with_reducible refine' Rd.rfld ?h1 ?c1 ?n1 ?l1 ?_); (case h1 => walk_at "hp"); (case c1 => assumption); (case n1 => assumption); (case l1 => walk_at "lk")
  | (with_reducible refine' Rd.xmeth ?h1 ?l1 ?_); (case h1 => walk_at "hp"); (case l1 => walk_at "lk")
  | (with_reducible refine' Rd.xst ?h1 ?c1 ?n1 ?l1 ?_); (case h1 => walk_at "hp"); (case c1 => assumption); (case n1 => assumption); (case l1 => rfl)
  | (with_reducible refine' Rd.take ?h1 ?m1 ?_); (case h1 => walk_at "hp"); (case m1 => omega)
  | (with_reducible refine Rd.ifT (by omega) ?_) | (with_reducible refine Rd.ifF (by omega) ?_) | (with_reducible refine Rd.ifNT (by omega) ?_) | (with_reducible refine Rd.ifNF (by omega) ?_))
local macro_rules | `(tactic| walk_at "rd") => `(tactic| repeat (first | walk_at "rd1" | walk_at "rd2"))

namespace Toy
open PySem L2
def top (i : Nat) : Stmt := PySem.Challenge.pw_surebridge_k11_codes.main.body.getD i (.Pass ⟨0, 0, 0, 0⟩)
abbrev s_law_take : Stmt := top 9
theorem sc_law_take : FnScope ["deck", "many"] ["deck", "many"] (defScope s_law_take) := ⟨rfl, rfl, rfl, by decide +kernel, rfl, by decide +kernel, by decide +kernel⟩
abbrev s_law_deck : Stmt := top 8
theorem sc_law_deck : FnScope ["script", "cells", "each", "deck", "seed", "k", "cell", "rest", "at"] ["script", "cells", "each"] (defScope s_law_deck) := ⟨rfl, rfl, rfl, by decide +kernel, rfl, by decide +kernel, by decide +kernel⟩
abbrev s_InvalidMap_init_ : Stmt := inClass (top 2) 0
theorem sc_InvalidMap_init_ : FnScope ["self", "what"] ["self", "what"] (defScope s_InvalidMap_init_) := ⟨rfl, rfl, rfl, by decide +kernel, rfl, by decide +kernel, by decide +kernel⟩
abbrev s_CodeMap_init_ : Stmt := inClass (top 4) 0
theorem sc_CodeMap_init_ : FnScope ["self", "images", "image"] ["self", "images"] (defScope s_CodeMap_init_) := ⟨rfl, rfl, rfl, by decide +kernel, rfl, by decide +kernel, by decide +kernel⟩
abbrev s_CodeMap_image : Stmt := inClass (top 4) 1
theorem sc_CodeMap_image : FnScope ["self", "code"] ["self", "code"] (defScope s_CodeMap_image) := ⟨rfl, rfl, rfl, by decide +kernel, rfl, by decide +kernel, by decide +kernel⟩
abbrev s_CodeMap_then : Stmt := inClass (top 4) 2
theorem sc_CodeMap_then : FnScope ["self", "other", "found", "image"] ["self", "other"] (defScope s_CodeMap_then) := ⟨rfl, rfl, rfl, by decide +kernel, rfl, by decide +kernel, by decide +kernel⟩
abbrev s_CodeMap_domain : Stmt := inClass (top 4) 3
theorem sc_CodeMap_domain : FnScope ["self", "found", "code"] ["self"] (defScope s_CodeMap_domain) := ⟨rfl, rfl, rfl, by decide +kernel, rfl, by decide +kernel, by decide +kernel⟩
abbrev s_CodeMap_flat : Stmt := inClass (top 4) 4
theorem sc_CodeMap_flat : FnScope ["self", "image"] ["self"] (defScope s_CodeMap_flat) := ⟨rfl, rfl, rfl, by decide +kernel, rfl, by decide +kernel, by decide +kernel⟩
abbrev s_code_difference : Stmt := top 5
theorem sc_code_difference : FnScope ["first", "second", "code"] ["first", "second"] (defScope s_code_difference) := ⟨rfl, rfl, rfl, by decide +kernel, rfl, by decide +kernel, by decide +kernel⟩
abbrev s_decisive_codes : Stmt := top 6
theorem sc_decisive_codes : FnScope ["first", "second"] ["first", "second"] (defScope s_decisive_codes) := ⟨rfl, rfl, rfl, by decide +kernel, rfl, by decide +kernel, by decide +kernel⟩
abbrev s_law_same : Stmt := top 10
theorem sc_law_same : FnScope ["actual", "expected"] ["actual", "expected"] (defScope s_law_same) := ⟨rfl, rfl, rfl, by decide +kernel, rfl, by decide +kernel, by decide +kernel⟩
abbrev s_law_images : Stmt := top 11
theorem sc_law_images : FnScope ["deck", "found", "k", "image"] ["deck"] (defScope s_law_images) := ⟨rfl, rfl, rfl, by decide +kernel, rfl, by decide +kernel, by decide +kernel⟩
abbrev s_law_at : Stmt := top 13
theorem sc_law_at : FnScope ["images", "code"] ["images", "code"] (defScope s_law_at) := ⟨rfl, rfl, rfl, by decide +kernel, rfl, by decide +kernel, by decide +kernel⟩
abbrev s_law_near : Stmt := top 12
theorem sc_law_near : FnScope ["deck", "images", "digit", "found", "k"] ["deck", "images"] (defScope s_law_near) := ⟨rfl, rfl, rfl, by decide +kernel, rfl, by decide +kernel, by decide +kernel⟩
abbrev s_law_refused : Stmt := top 14
theorem sc_law_refused : FnScope ["deck", "images", "bad", "e"] ["deck", "images"] (defScope s_law_refused) := ⟨rfl, rfl, rfl, by decide +kernel, rfl, by decide +kernel, by decide +kernel⟩
abbrev s_law_images_right : Stmt := top 15
theorem sc_law_images_right : FnScope ["first", "second", "one", "two", "both", "domain", "flat", "made", "code", "expected", "there", "zero"] ["first", "second", "one", "two"] (defScope s_law_images_right) := ⟨rfl, rfl, rfl, by decide +kernel, rfl, by decide +kernel, by decide +kernel⟩
abbrev s_law : Stmt := top 16
theorem sc_law : FnScope ["script", "deck", "first", "second", "handed", "one", "two", "longer", "unlike", "code", "least", "found", "shown", "at"] ["script"] (defScope s_law) := ⟨rfl, rfl, rfl, by decide +kernel, rfl, by decide +kernel, by decide +kernel⟩
/-- where things stand -/
structure Ad where
  a_law_take : Addr
  d_law_take : FuncData
  a_law_deck : Addr
  d_law_deck : FuncData
  a_InvalidMap_init_ : Addr
  d_InvalidMap_init_ : FuncData
  a_CodeMap_init_ : Addr
  d_CodeMap_init_ : FuncData
  a_CodeMap_image : Addr
  d_CodeMap_image : FuncData
  a_CodeMap_then : Addr
  d_CodeMap_then : FuncData
  a_CodeMap_domain : Addr
  d_CodeMap_domain : FuncData
  a_CodeMap_flat : Addr
  d_CodeMap_flat : FuncData
  a_code_difference : Addr
  d_code_difference : FuncData
  a_decisive_codes : Addr
  d_decisive_codes : FuncData
  a_law_same : Addr
  d_law_same : FuncData
  a_law_images : Addr
  d_law_images : FuncData
  a_law_at : Addr
  d_law_at : FuncData
  a_law_near : Addr
  d_law_near : FuncData
  a_law_refused : Addr
  d_law_refused : FuncData
  a_law_images_right : Addr
  d_law_images_right : FuncData
  a_law : Addr
  d_law : FuncData
  c_BridgeError : Addr
  c_CodeMap : Addr
  c_InvalidMap : Addr
/-- what the top has written -/
structure Txt (K : PySem.W.Frag) (mg : Str → Option Value) (ad : Ad) : Prop where
  F_law_take : Fun K "_law_take" "_law_take" s_law_take ad.a_law_take ad.d_law_take
  b_law_take : Binds K ad.d_law_take ["deck", "many"] []
  m_law_take : mg "_law_take" = some (.ref ad.a_law_take)
  F_law_deck : Fun K "_law_deck" "_law_deck" s_law_deck ad.a_law_deck ad.d_law_deck
  b_law_deck : Binds K ad.d_law_deck ["script", "cells", "each"] []
  m_law_deck : mg "_law_deck" = some (.ref ad.a_law_deck)
  F_InvalidMap_init_ : Fun K "__init__" "InvalidMap.__init__" s_InvalidMap_init_ ad.a_InvalidMap_init_ ad.d_InvalidMap_init_
  b_InvalidMap_init_ : Binds K ad.d_InvalidMap_init_ ["self", "what"] []
  F_CodeMap_init_ : Fun K "__init__" "CodeMap.__init__" s_CodeMap_init_ ad.a_CodeMap_init_ ad.d_CodeMap_init_
  b_CodeMap_init_ : Binds K ad.d_CodeMap_init_ ["self", "images"] []
  F_CodeMap_image : Fun K "image" "CodeMap.image" s_CodeMap_image ad.a_CodeMap_image ad.d_CodeMap_image
  b_CodeMap_image : Binds K ad.d_CodeMap_image ["self", "code"] []
  me_CodeMap_image : Meth K ad.c_CodeMap "image" ad.a_CodeMap_image
  F_CodeMap_then : Fun K "then" "CodeMap.then" s_CodeMap_then ad.a_CodeMap_then ad.d_CodeMap_then
  b_CodeMap_then : Binds K ad.d_CodeMap_then ["self", "other"] []
  me_CodeMap_then : Meth K ad.c_CodeMap "then" ad.a_CodeMap_then
  F_CodeMap_domain : Fun K "domain" "CodeMap.domain" s_CodeMap_domain ad.a_CodeMap_domain ad.d_CodeMap_domain
  b_CodeMap_domain : Binds K ad.d_CodeMap_domain ["self"] []
  me_CodeMap_domain : Meth K ad.c_CodeMap "domain" ad.a_CodeMap_domain
  F_CodeMap_flat : Fun K "flat" "CodeMap.flat" s_CodeMap_flat ad.a_CodeMap_flat ad.d_CodeMap_flat
  b_CodeMap_flat : Binds K ad.d_CodeMap_flat ["self"] []
  me_CodeMap_flat : Meth K ad.c_CodeMap "flat" ad.a_CodeMap_flat
  F_code_difference : Fun K "code_difference" "code_difference" s_code_difference ad.a_code_difference ad.d_code_difference
  b_code_difference : Binds K ad.d_code_difference ["first", "second"] []
  m_code_difference : mg "code_difference" = some (.ref ad.a_code_difference)
  F_decisive_codes : Fun K "decisive_codes" "decisive_codes" s_decisive_codes ad.a_decisive_codes ad.d_decisive_codes
  b_decisive_codes : Binds K ad.d_decisive_codes ["first", "second"] []
  m_decisive_codes : mg "decisive_codes" = some (.ref ad.a_decisive_codes)
  F_law_same : Fun K "_law_same" "_law_same" s_law_same ad.a_law_same ad.d_law_same
  b_law_same : Binds K ad.d_law_same ["actual", "expected"] []
  m_law_same : mg "_law_same" = some (.ref ad.a_law_same)
  F_law_images : Fun K "_law_images" "_law_images" s_law_images ad.a_law_images ad.d_law_images
  b_law_images : Binds K ad.d_law_images ["deck"] []
  m_law_images : mg "_law_images" = some (.ref ad.a_law_images)
  F_law_at : Fun K "_law_at" "_law_at" s_law_at ad.a_law_at ad.d_law_at
  b_law_at : Binds K ad.d_law_at ["images", "code"] []
  m_law_at : mg "_law_at" = some (.ref ad.a_law_at)
  F_law_near : Fun K "_law_near" "_law_near" s_law_near ad.a_law_near ad.d_law_near
  b_law_near : Binds K ad.d_law_near ["deck", "images"] []
  m_law_near : mg "_law_near" = some (.ref ad.a_law_near)
  F_law_refused : Fun K "_law_refused" "_law_refused" s_law_refused ad.a_law_refused ad.d_law_refused
  b_law_refused : Binds K ad.d_law_refused ["deck", "images"] []
  m_law_refused : mg "_law_refused" = some (.ref ad.a_law_refused)
  F_law_images_right : Fun K "_law_images_right" "_law_images_right" s_law_images_right ad.a_law_images_right ad.d_law_images_right
  b_law_images_right : Binds K ad.d_law_images_right ["first", "second", "one", "two"] []
  m_law_images_right : mg "_law_images_right" = some (.ref ad.a_law_images_right)
  F_law : Fun K "law" "law" s_law ad.a_law ad.d_law
  b_law : Binds K ad.d_law ["script"] []
  m_law : mg "law" = some (.ref ad.a_law)
  cl_CodeMap : Cls K ad.c_CodeMap
  mg_CodeMap : mg "CodeMap" = some (.ref ad.c_CodeMap)
  mk_CodeMap : Mk K ad.c_CodeMap ad.a_CodeMap_init_
  n_CodeMap_images : NoAttr K ad.c_CodeMap "images"
  mg_BridgeError : mg "BridgeError" = some (.ref ad.c_BridgeError)
  ov_BridgeError : OvB K ad.c_BridgeError
  mg_InvalidMap : mg "InvalidMap" = some (.ref ad.c_InvalidMap)
  ox_InvalidMap : OexC K ad.c_InvalidMap
  ix_InvalidMap : PySem.W.findIn K (.ref ad.c_InvalidMap) "__init__" = some (some (.ref ad.a_InvalidMap_init_))
  tx_InvalidMap : PySem.W.typeIn K (.ref ad.a_InvalidMap_init_) = some (.type "function")
  xd_InvalidMap : ExD K ad.c_InvalidMap
  nx_InvalidMap_what : PySem.W.findIn K (.ref ad.c_InvalidMap) "what" = some none
  em_InvalidMap_InvalidMap : PySem.W.exmOne K (.ref ad.c_InvalidMap) (.ref ad.c_InvalidMap) = some true
  kt_InvalidMap_BridgeError : PySem.W.kitOne K (.ref ad.c_InvalidMap) (.ref ad.c_BridgeError) = some true
  kt_InvalidMap_ValueError : PySem.W.kitOne K (.ref ad.c_InvalidMap) (.type "ValueError") = some true
  kt_CodeMap_CodeMap : PySem.W.kitOne K (.ref ad.c_CodeMap) (.ref ad.c_CodeMap) = some true
  is_CodeMap : PySem.W.findIn K (.ref ad.c_CodeMap) "__class__" = some (some (.builtin "object.__class__"))
  io_CodeMap : PySem.W.mroIn K ad.c_CodeMap (.type "object") = some true
  is_get : PySem.W.specialIn K (.builtin "object.__class__") "__get__" = some (some (.builtin "getset_descriptor.__get__"))
  is_tk : PySem.W.takesIn K (.builtin "object.__class__") = some true
  z_ValueError : mg "ValueError" = none
  z_abs : mg "abs" = none
  z_bool : mg "bool" = none
  z_int : mg "int" = none
  z_isinstance : mg "isinstance" = none
  z_len : mg "len" = none
  z_list : mg "list" = none
  z_max : mg "max" = none
  z_range : mg "range" = none
/-- the fields of CodeMap, in order -/
def fs_CodeMap (v_images : V) : List (Str × V) := [("images", v_images)]
theorem lk_CodeMap_images (v_images : V) : (fs_CodeMap v_images).lookup ("images" : Str) = some v_images := by rfl
theorem pf_CodeMap_images (v_images : V) : putF "images" v_images ([] : List (Str × V)) = fs_CodeMap v_images := by rfl
theorem st_CodeMap_images (v_images w : V) : putF "images" w (fs_CodeMap v_images) = fs_CodeMap w := by rfl
theorem no_CodeMap_image (v_images : V) : (fs_CodeMap v_images).lookup ("image" : Str) = none := by rfl
theorem no_CodeMap_then (v_images : V) : (fs_CodeMap v_images).lookup ("then" : Str) = none := by rfl
theorem no_CodeMap_domain (v_images : V) : (fs_CodeMap v_images).lookup ("domain" : Str) = none := by rfl
theorem no_CodeMap_flat (v_images : V) : (fs_CodeMap v_images).lookup ("flat" : Str) = none := by rfl
local macro_rules | `(tactic| walk_at "lk") => `(tactic| first | exact Toy.lk_CodeMap_images _ | exact Toy.no_CodeMap_image _ | exact Toy.no_CodeMap_then _ | exact Toy.no_CodeMap_domain _ | exact Toy.no_CodeMap_flat _)
section
variable {P : Program} {w : World} {K : PySem.W.Frag} {mg : Str → Option Value} {base : Heap}
/-! ### the deck and its draws -/
theorem ok_law_takeC {ad : Ad} (T : Txt K mg ad) : FnOk P w K mg base CX0 1 ad.a_law_take ad.d_law_take ["deck", "many"] (Dk.spTakeC) := by
  refine T.F_law_take.ok sc_law_take (fun vs H Q E h => ?_) (fun cdv A outer s H vs Q E hr h => ?_)
  · obtain ⟨l, ns, m, rfl, h1, h2, h3, k⟩ := h
    rfl
  · obtain ⟨l, ns, m, rfl, h1, h2, h3, k⟩ := h
    refine ⟨_, (pss_cons (ps_if (pt_cmpR op_eq (pe_callB Rd.c_len (by rfl) T.z_len (by decide +kernel) (pa_cons (pv 0) pa_nil)) pe_int (nomark _)) (pss_one (ps_ret pe_int)) pss_nil)
      (pss_one (ps_ret (pe_op op_mod (pe_callTy Rd.c_int (by rfl) T.z_int (by decide +kernel) (pa_cons (pe_bm0 PySem.F.plainAttrs_list PySem.F.slot_list_pop PySem.F.type_list_pop mt_pop (pv 0)) pa_nil)) (pv 1))))), ?_⟩
    try dsimp only [L2.cxOf, L2.Cx.nox, L2.Cx.wish]
    change (_ : TS) _ ([some (.ref l), some (.int m)] : St) _
    have cl_CodeMap := T.cl_CodeMap
    have n_CodeMap_images := T.n_CodeMap_images
    have hd : L2.Same H H := Same.refl H
    walk_at "rd"
    refine Rd.ifd (fun c => ?_) (fun c => ?_)
    · walk_at "rd"
      have q := k 0 ns (by omega) h3 h2
      rw [Dk.upd_id h1] at q
      exact q
    · walk_at "rd"
      have hl : (ns.map V.int).length = ns.length := List.length_map ..
      have hp : 0 < ns.length := by
        rw [hl] at c
        omega
      have hz : (ns.map V.int)[(ns.map V.int).length - 1]? = some (V.int (ns[ns.length - 1]'(by omega))) := by
        rw [hl, List.getElem?_map, List.getElem?_eq_getElem (by omega)]
        rfl
      refine Rd.pop h1 hz ?_
      walk_at "rd"
      rw [← List.map_dropLast]
      exact k _ _ (Int.emod_nonneg _ (by omega)) (Int.emod_lt_of_pos _ h3) (by rw [List.length_dropLast]; omega)
theorem ok_law_take {ad : Ad} (T : Txt K mg ad) : FnOk P w K mg base CX0 1 ad.a_law_take ad.d_law_take ["deck", "many"] Dk.spTake := Dk.ok_take (ok_law_takeC T)
theorem ok_law_deckC {ad : Ad} (T : Txt K mg ad) : FnOk P w K mg base CX0 1 ad.a_law_deck ad.d_law_deck ["script", "cells", "each"] (Dk.spDeckC K) := by
  refine T.F_law_deck.ok sc_law_deck (fun vs H Q E h => ?_) (fun cdv A outer s H vs Q E hr h => ?_)
  · obtain ⟨a, ns, c, e, rfl, hS, hn, hc0, he0, hc1, he1, k⟩ := h
    rfl
  · obtain ⟨a, ns, c, e, rfl, hS, hn, hc0, he0, hc1, he1, k⟩ := h
    refine ⟨_, (pss_cons (ps_set (i := 3) sc_law_deck.nd rfl (Or.inl rfl) (pe_lst pa_nil))
      (pss_cons (ps_set (i := 4) sc_law_deck.nd rfl (Or.inl rfl) (pe_op op_add pe_int (pe_callB Rd.c_len (by rfl) T.z_len (by decide +kernel) (pa_cons (pv 0) pa_nil))))
      (pss_cons (ps_for PassesOwn.never rfl (pi_range1 rfl T.z_range (pa_cons (pv 1) pa_nil)) (pg_name (i := 5) sc_law_deck.nd rfl (Or.inl rfl)) (pss_cons (ps_set (i := 6) sc_law_deck.nd rfl (Or.inl rfl) pe_int)
      (Evl.pss_cut (ps_if (pt_cmpR op_lt (pv 5) (pe_callB Rd.c_len (by rfl) T.z_len (by decide +kernel) (pa_cons (pv 0) pa_nil)) (nomark _)) (pss_one (ps_set (i := 6) sc_law_deck.nd rfl (Or.inl rfl) (pe_ix ix_list (pv 0) (pv 5) (fun _ _ => rfl)))) pss_nil)
      (pss_cons (ps_set (i := 7) sc_law_deck.nd rfl (Or.inl rfl) (pe_callB Rd.c_abs (by rfl) T.z_abs (by decide +kernel) (pa_cons (pv 6) pa_nil)))
      (pss_one (ps_if (pt_cmpR op_ge (pv 7) (pe_op op_pow pe_int pe_int) (nomark _)) (pss_one (ps_for PassesOwn.never rfl (pi_range1 rfl T.z_range (pa_cons (pv 2) pa_nil)) (pg_name (i := 8) sc_law_deck.nd rfl (Or.inl rfl)) (pss_cons (ps_expr (pe_bm PySem.F.plainAttrs_list PySem.F.slot_list_append PySem.F.type_list_append mt_append (pv 3) (pa_cons (pe_op op_mod (pe_callTy Rd.c_int (by rfl) T.z_int (by decide +kernel) (pa_cons (pv 7) pa_nil)) pe_int) pa_nil)))
      (pss_one (ps_set (i := 7) sc_law_deck.nd rfl (Or.inl rfl) (pe_op op_fdiv (pv 7) pe_int)))))) (pss_cons (ps_set (i := 4) sc_law_deck.nd rfl (Or.inl rfl) (pe_op op_mod (pe_callTy Rd.c_int (by rfl) T.z_int (by decide +kernel) (pa_cons (pe_op op_add (pe_op op_add (pe_op op_add (pe_op op_mul (pv 4) pe_int) (pe_op op_mul pe_int (pv 7))) (pe_callTy Rd.c_int (by rfl) T.z_int (by decide +kernel) (pa_cons (pe_cmpR op_lt (pv 6) pe_int (nomark _)) pa_nil))) (pv 5)) pa_nil)) pe_int))
      (pss_one (ps_for PassesOwn.never rfl (pi_range1 rfl T.z_range (pa_cons (pv 2) pa_nil)) (pg_name (i := 8) sc_law_deck.nd rfl (Or.inl rfl)) (pss_cons (ps_set (i := 4) sc_law_deck.nd rfl (Or.inl rfl) (pe_op op_mod (pe_callTy Rd.c_int (by rfl) T.z_int (by decide +kernel) (pa_cons (pe_op op_add (pe_op op_add (pe_op op_mul (pv 4) pe_int) (pv 8)) pe_int) pa_nil)) pe_int))
      (pss_one (ps_expr (pe_bm PySem.F.plainAttrs_list PySem.F.slot_list_append PySem.F.type_list_append mt_append (pv 3) (pa_cons (pe_op op_mod (pe_callTy Rd.c_int (by rfl) T.z_int (by decide +kernel) (pa_cons (pe_op op_fdiv (pv 4) pe_int) pa_nil)) pe_int) pa_nil))))))))))))))
      (pss_cons (ps_expr (pe_bm0 PySem.F.plainAttrs_list PySem.F.slot_list_reverse PySem.F.type_list_reverse mt_reverse (pv 3)))
      (pss_one (ps_ret (pv 3))))))), ?_⟩
    try dsimp only [L2.cxOf, L2.Cx.nox, L2.Cx.wish]
    change (_ : TS) _ ([some (.ref a), some (.int c), some (.int e), none, none, none, none, none, none] : St) _
    have cl_CodeMap := T.cl_CodeMap
    have n_CodeMap_images := T.n_CodeMap_images
    walk_at "rd"
    refine Rd.xlstU rfl fun l hl => ?_
    have hS1 : SqL K (upd H l (.lst [])) a (ns.map V.int) := Evl.ex_l (Evl.Ex.new hl) hS
    walk_at "rd"
    refine Rd.xfr1 ⟨by omega, by omega⟩ (fun i σ H' => ∃ (ms : List Int) (sd : Int) (v5 v6 v7 v8 : Option V), σ = [some (.ref a), some (.int c), some (.int e), some (.ref l), some (.int sd), v5, v6, v7, v8] ∧ H' = upd H l (.lst (ms.map V.int)) ∧ ms.length ≤ i * 64)
      ⟨[], _, none, none, none, none, rfl, rfl, Nat.zero_le _⟩ ?_ ?_
    · rintro i σ H' hi ⟨ms, sd, v5, v6, v7, v8, rfl, rfl, hm⟩
      have hS2 : SqL K (upd H l (.lst (ms.map V.int))) a (ns.map V.int) := Evl.ex_l (Evl.Ex.new hl) hS
      walk_at "rd"
      refine ⟨fun σ H' => ∃ cell : Int, σ = [some (.ref a), some (.int c), some (.int e), some (.ref l), some (.int sd), some (.int i), some (.int cell), v7, v8] ∧ H' = upd H l (.lst (ms.map V.int)), ?_, ?_⟩
      · walk_at "rd"
        refine Rd.ifd (fun h1 => ?_) (fun h1 => ?_)
        · walk_at "rd"
          rw [List.length_map] at h1
          refine Rd.ixL hS2 (atI_nat (j := i) (v := V.int (ns[i]'(by omega))) (by rw [List.getElem?_map, List.getElem?_eq_getElem (by omega)]; rfl)) ?_
          walk_at "rd"
          exact ⟨_, rfl, rfl⟩
        · walk_at "rd"
          exact ⟨_, rfl, rfl⟩
      · rintro σ H' ⟨cell, rfl, rfl⟩
        walk_at "rd"
        generalize hrest : (if cell < 0 then -cell else cell) = rest0
        refine Rd.ifd (fun h1 => ?_) (fun h1 => ?_)
        · walk_at "rd"
          refine Rd.xfr1 ⟨by omega, by omega⟩ (fun j σ H' => ∃ (ms' : List Int) (rest : Int) (v8 : Option V), σ = [some (.ref a), some (.int c), some (.int e), some (.ref l), some (.int sd), some (.int i), some (.int cell), some (.int rest), v8] ∧ H' = upd H l (.lst (ms'.map V.int)) ∧ ms'.length ≤ i * 64 + j)
            ⟨ms, _, _, rfl, rfl, hm⟩ ?_ ?_
          · rintro j σ H' hj ⟨ms', rest, v8, rfl, rfl, hm'⟩
            walk_at "rd"
            refine Rd.append upd_same (by rw [List.length_map]; omega) ?_
            walk_at "rd"
            exact ⟨ms' ++ [rest % 1000003], rest / 1000003, _, rfl, by rw [upd_upd, List.map_append]; rfl, by rw [List.length_append]; simp; omega⟩
          · rintro σ H' ⟨ms', rest, v8, rfl, rfl, hm'⟩
            exact ⟨ms', sd, _, _, _, _, rfl, rfl, by omega⟩
        · walk_at "rd"
          refine Rd.xfr1 ⟨by omega, by omega⟩ (fun j σ H' => ∃ (ms' : List Int) (sd : Int) (v8 : Option V), σ = [some (.ref a), some (.int c), some (.int e), some (.ref l), some (.int sd), some (.int i), some (.int cell), some (.int rest0), v8] ∧ H' = upd H l (.lst (ms'.map V.int)) ∧ ms'.length ≤ i * 64 + j)
            ⟨ms, _, _, rfl, rfl, hm⟩ ?_ ?_
          · rintro j σ H' hj ⟨ms', sd, v8, rfl, rfl, hm'⟩
            walk_at "rd"
            refine Rd.append upd_same (by rw [List.length_map]; omega) ?_
            walk_at "rd"
            exact ⟨ms' ++ [_], _, _, rfl, by rw [upd_upd, List.map_append]; rfl, by rw [List.length_append]; simp; omega⟩
          · rintro σ H' ⟨ms', sd, v8, rfl, rfl, hm'⟩
            exact ⟨ms', sd, _, _, _, _, rfl, rfl, by omega⟩
    · rintro σ H' ⟨ms, sd, v5, v6, v7, v8, rfl, rfl, hm⟩
      walk_at "rd"
      refine Rd.reverse upd_same ?_
      walk_at "rd"
      rw [upd_upd, ← List.map_reverse]
      exact k l ms.reverse _ hl rfl (by rw [List.length_reverse]; have := Int.toNat_of_nonneg hc0; omega)
theorem ok_law_deck {ad : Ad} (T : Txt K mg ad) : FnOk P w K mg base CX0 1 ad.a_law_deck ad.d_law_deck ["script", "cells", "each"] (Dk.spDeck K) := Dk.ok_deck (ok_law_deckC T)

/-! ### code maps -/
def optV : Option Int → V
  | none => .non
  | some i => .int i
theorem optV_none : optV none = .non := rfl
theorem optV_some (i : Int) : optV (some i) = .int i := rfl
theorem optV_inj {a b : Option Int} (h : optV a = optV b) : a = b := by
  cases a <;> cases b <;> simp [optV] at h ⊢ <;> exact h
theorem scalV (a b : Option Int) : scal (optV a) (optV b) = true := by cases a <;> cases b <;> rfl
abbrev Im := List (Option Int)
def vsI (os : Im) : List V := os.map optV
theorem vsI_len (os : Im) : (vsI os).length = os.length := List.length_map ..
theorem vsI_get {os : Im} {i : Nat} {v : V} (h : (vsI os)[i]? = some v) : ∃ o, os[i]? = some o ∧ v = optV o := by
  unfold vsI at h
  rw [List.getElem?_map] at h
  cases e : os[i]? with
  | none => rw [e] at h; cases h
  | some o => rw [e] at h; exact ⟨o, rfl, (Option.some.inj h).symm⟩
def cimg (os : Im) (c : Int) : Option Int := if 0 ≤ c then (os[c.toNat]?).getD none else none
def Ok (os : Im) : Prop := (∀ n : Int, some n ∈ os → 0 ≤ n) ∧ os.length ≤ 1000
structure CodeAt (K : PySem.W.Frag) (C : Addr) (H : Hp) (s : Addr) (os : Im) : Prop where
  at_ : ∃ dx l, H s = some (.ins C dx (fs_CodeMap (.ref l))) ∧ H l = some (.lst (vsI os))
  ok : Ok os
theorem CodeAt.mono {K : PySem.W.Frag} {C : Addr} {H H' : Hp} {s : Addr} {os : Im} (h : CodeAt K C H s os) (e : Evl.Ex H H') : CodeAt K C H' s os := by
  obtain ⟨⟨dx, l, h1, h2⟩, h3⟩ := h
  exact ⟨⟨dx, l, e _ _ h1, e _ _ h2⟩, h3⟩
def bad1 : Str := "a code must not be negative"

theorem ok_InvalidMap_init_ {ad : Ad} (T : Txt K mg ad) : FnOk P w K mg base CX0 1 ad.a_InvalidMap_init_ ad.d_InvalidMap_init_ ["self", "what"] (Rd.spEx1 ad.c_InvalidMap "what") := by
  refine T.F_InvalidMap_init_.ok sc_InvalidMap_init_ (fun vs H Q E h => ?_) (fun cdv A outer s H vs Q E hr h => ?_)
  · obtain ⟨a, s1, rfl, hs, ha, k⟩ := h
    rfl
  · obtain ⟨a, s1, rfl, hs, ha, k⟩ := h
    refine ⟨_, (pss_cons (ps_expr (pe_ovinit rfl T.mg_BridgeError T.ov_BridgeError (pa_cons (pv 0) (pa_cons (pe_op Rd.op_addS pe_str (pv 1)) pa_nil))))
      (pss_one (ps_ost (pv 0) (pv 1)))), ?_⟩
    try dsimp only [L2.cxOf, L2.Cx.nox, L2.Cx.wish]
    change (_ : TS) _ ([some (.ref a), some (.str s1)] : St) _
    have cl_CodeMap := T.cl_CodeMap
    have n_CodeMap_images := T.n_CodeMap_images
    walk_at "rd"
    refine Rd.catS (by rw [show (PySem.Str.ofString "invalid map: ").length = 13 from by rfl]; omega) ?_
    walk_at "rd"
    refine Rd.xvei T.ox_InvalidMap ha rfl ?_
    walk_at "rd"
    refine Rd.xost T.ox_InvalidMap T.nx_InvalidMap_what ha fun dx nx ne => ?_
    walk_at "rd"
    exact k dx nx ne

def spCMi (C X : Addr) : Sp := fun vs H Q E => ∃ (x dx l : Addr) (os : Im), vs = [.ref x, .ref l] ∧ H x = some (.ins C dx []) ∧ H l = some (.lst (vsI os)) ∧ os.length ≤ 1000 ∧
  ((∃ n : Int, some n ∈ os ∧ n < 0) → ∀ d H', Evl.Ex H H' → H' d = some (.xd [("what", .str bad1)]) → E (.ref X) (some d) H') ∧
  ((∀ n : Int, some n ∈ os → 0 ≤ n) → ∀ (l2 : Addr) (H' : Hp), H l2 = none → H' x = some (.ins C dx (fs_CodeMap (.ref l2))) → H' l2 = some (.lst (vsI os)) → (∀ b o, b ≠ x → H b = some o → H' b = some o) → Q .non H')
theorem ok_CodeMap_init_ {ad : Ad} (T : Txt K mg ad) : FnOk P w K mg base (L2.CX P w) 3 ad.a_CodeMap_init_ ad.d_CodeMap_init_ ["self", "images"] (spCMi ad.c_CodeMap ad.c_InvalidMap) := by
  refine T.F_CodeMap_init_.okX sc_CodeMap_init_ (fun vs H Q E h => ?_) (fun cdv A outer s H vs Q E hr h => ?_)
  · obtain ⟨x, dx, l, os, rfl, hx, hl, hn, kB, kG⟩ := h
    rfl
  · obtain ⟨x, dx, l, os, rfl, hx, hl, hn, kB, kG⟩ := h
    refine ⟨_, (pss_cons (ps_for (passes_of rfl) rfl (pi_list (pv 1)) (pg_name (i := 2) sc_CodeMap_init_.nd rfl (Or.inl rfl)) (pss_one (ps_if (PW.pt (pw_and (pt_cmpR op_notN1 (pv 2) pe_non (nomark _)) (pw_and1 (pt_cmpR op_lt (pv 2) pe_int (nomark _))))) (pss_one (ps_raise rfl (takes_of rfl rfl rfl rfl) (pmk_oex T.ox_InvalidMap T.ix_InvalidMap T.tx_InvalidMap (ok_InvalidMap_init_ T) (hr.mono (by decide)) T.b_InvalidMap_init_ .nil pass0 rfl T.mg_InvalidMap (pa_cons pe_str pa_nil)))) pss_nil)))
      (pss_one (ps_fld (pv 0) (pe_callTy Rd.c_list (by rfl) T.z_list (by decide +kernel) (pa_cons (pv 1) pa_nil)) rfl))), ?_⟩
    try dsimp only [L2.cxOf, L2.Cx.nox, L2.Cx.wish]
    change (_ : TS) _ ([some (.ref x), some (.ref l), none] : St) _
    have cl_CodeMap := T.cl_CodeMap
    have n_CodeMap_images := T.n_CodeMap_images
    walk_at "rd"
    refine Rd.xfl (SqL.of hl) (fun i σ H' => ∃ v, σ = [some (.ref x), some (.ref l), v] ∧ H' = H ∧ ∀ (j : Nat) (n : Int), j < i → os[j]? = some (some n) → 0 ≤ n) ⟨none, rfl, rfl, fun j n hj => by omega⟩ (fun i σ H' _ ⟨_, _, e, _⟩ => by rw [e]; exact SqL.of hl) ?_ ?_
    · rintro i y σ Hc hi ⟨v, rfl, rfl, hno⟩
      obtain ⟨o, ho, rfl⟩ := vsI_get hi
      cases o with
      | none =>
        rw [optV_none]
        walk_at "rd"
        refine ⟨_, rfl, rfl, fun j n hj hjn => ?_⟩
        by_cases e : j = i
        · rw [e, ho] at hjn; cases hjn
        · exact hno j n (by omega) hjn
      | some n =>
        rw [optV_some]
        walk_at "rd"
        refine Rd.ifd (fun hneg => ?_) (fun hneg => ?_)
        · walk_at "rd"
          refine Rd.xmko1 (by decide) fun d H' nd e hd => ?_
          exact kB ⟨n, List.mem_of_getElem? ho, hneg⟩ d H' e hd
        · walk_at "rd"
          refine ⟨_, rfl, rfl, fun j m hj hjn => ?_⟩
          by_cases e : j = i
          · rw [e, ho] at hjn; cases hjn; omega
          · exact hno j m (by omega) hjn
    · rintro σ Hc ⟨v, rfl, rfl, hno⟩
      have hok : ∀ n : Int, some n ∈ os → 0 ≤ n := fun n hm => by
        obtain ⟨j, hj, e⟩ := List.mem_iff_getElem.mp hm
        exact hno j n (by rw [vsI_len]; exact hj) (by rw [List.getElem?_eq_getElem hj, e])
      walk_at "rd"
      refine Rd.listOf (by walk_at "sq") fun l2 H2 n2 e2 h2 => ?_
      walk_at "rd"
      rw [pf_CodeMap_images]
      have nx2 : l2 ≠ x := Ne.symm (ne_of_none hx n2)
      refine kG hok l2 _ n2 upd_same (by rw [upd_ne nx2]; exact h2) fun b o hb hbo => ?_
      rw [upd_ne hb]
      exact e2 _ _ hbo
def spCImg (C : Addr) (K : PySem.W.Frag) : Sp := fun vs H Q _ => ∃ (s : Addr) (os : Im) (c : Int), vs = [.ref s, .int c] ∧ CodeAt K C H s os ∧ Q (optV (cimg os c)) H
theorem ok_CodeMap_image {ad : Ad} (T : Txt K mg ad) : FnOk P w K mg base CX0 1 ad.a_CodeMap_image ad.d_CodeMap_image ["self", "code"] (spCImg ad.c_CodeMap K) := by
  refine T.F_CodeMap_image.ok sc_CodeMap_image (fun vs H Q E h => ?_) (fun cdv A outer s H vs Q E hr h => ?_)
  · obtain ⟨me, os, c, rfl, hC, k⟩ := h
    rfl
  · obtain ⟨me, os, c, rfl, hC, k⟩ := h
    refine ⟨_, (pss_cons (ps_if (pt_chain op_le op_lt pe_int (pv 1) (pe_callB Rd.c_len (by rfl) T.z_len (by decide +kernel) (pa_cons (pe_fld (pv 0) rfl) pa_nil))) (pss_one (ps_ret (pe_ix ix_list (pe_fld (pv 0) rfl) (pv 1) (fun _ _ => rfl)))) pss_nil)
      (pss_one (ps_ret pe_non))), ?_⟩
    try dsimp only [L2.cxOf, L2.Cx.nox, L2.Cx.wish]
    change (_ : TS) _ ([some (.ref me), some (.int c)] : St) _
    have cl_CodeMap := T.cl_CodeMap
    have n_CodeMap_images := T.n_CodeMap_images
    obtain ⟨⟨dx, l, h1, h2⟩, ok⟩ := hC
    have hl := vsI_len os
    walk_at "rd"
    refine Rd.ifd (fun c1 => ?_) (fun c1 => ?_)
    · walk_at "rd"
      refine Rd.ifd (fun c2 => ?_) (fun c2 => ?_)
      · walk_at "rd"
        rw [hl] at c2
        have hlt : c.toNat < os.length := by omega
        have hk : optV (cimg os c) = optV os[c.toNat] := by
          unfold cimg
          rw [if_pos c1, List.getElem?_eq_getElem hlt]
          rfl
        rw [hk] at k
        refine Rd.ixL (SqL.of h2) (Rd.atI_i c1 (by unfold vsI; rw [List.getElem?_map, List.getElem?_eq_getElem hlt]; rfl)) ?_
        walk_at "rd"
        exact k
      · walk_at "rd"
        have hk : cimg os c = none := by
          unfold cimg
          rw [if_pos c1, List.getElem?_eq_none (by rw [hl] at c2; omega)]
          rfl
        rw [hk] at k
        exact k
    · walk_at "rd"
      have hk : cimg os c = none := by
        unfold cimg
        rw [if_neg c1]
      rw [hk] at k
      exact k
theorem x_make {K : PySem.W.Frag} {C X : Addr} {H : Hp} {Q : VK} {E : XK} {l : Addr} {os : Im} (hl : H l = some (.lst (vsI os))) (ok : Ok os)
    (q : ∀ x H', Evl.Ex H H' → H x = none → CodeAt K C H' x os → (∀ (b : Addr) (u o : HO), H b = some u → CodeAt K C (upd H' b o) x os) → Q (.ref x) H') :
    Rd.xMk C (fun x H2 Q2 => spCMi C X (x :: ([.ref l] ++ [])) H2 Q2 E) H Q := Rd.xmk fun x dx H' e n hx =>
  ⟨x, dx, l, os, rfl, hx, e _ _ hl, ok.2, fun ⟨m, hm, hneg⟩ => absurd (ok.1 m hm) (by omega), fun _ l2 H2 n2 hx2 hl2 same => ⟨rfl, q x H2 (Rd.exBut e n same) n ⟨⟨dx, l2, hx2, hl2⟩, ok⟩ fun b u o hb =>
    ⟨⟨dx, l2, by rw [upd_ne (Ne.symm (ne_of_none hb n))]; exact hx2, by rw [upd_ne (Ne.symm (ne_of_none hb (Evl.fresh_back e n2)))]; exact hl2⟩, ok⟩⟩⟩
theorem m_code {K : PySem.W.Frag} {C s : Addr} {m : Str} {H : Hp} {os : Im} {P : Prop} (h : CodeAt K C H s os) (hm : ∀ v, (fs_CodeMap v).lookup m = none) (p : P) : Rd.xMeth C m (.ref s) H P := by
  obtain ⟨⟨dx, l, h1, h2⟩, h3⟩ := h
  exact Rd.xmeth h1 (hm _) p
theorem x_cimg {K : PySem.W.Frag} {C s : Addr} {H : Hp} {Q : VK} {E : XK} {os : Im} {c : Int} (h : CodeAt K C H s os) (q : Q (optV (cimg os c)) H) : spCImg C K (.ref s :: ([.int c] ++ [])) H Q E := ⟨s, os, c, rfl, h, q⟩
theorem cimg_mem {os : Im} {c m : Int} (h : cimg os c = some m) : some m ∈ os := by
  unfold cimg at h
  split at h
  · cases e : os[c.toNat]? with
    | none => rw [e] at h; cases h
    | some o =>
      rw [e] at h
      have h' : o = some m := h
      rw [← h']
      exact List.mem_of_getElem? e
  · cases h
def compC (os ps : Im) : Im := os.map fun o => o.bind (cimg ps)
def domC (os : Im) : Im := (List.range os.length).map fun (i : Nat) => ((os[i]?).getD none).map fun _ => (i : Int)
def flatC (os : Im) : Im := os.map fun o => o.map fun _ => (0 : Int)
theorem ok_comp {os ps : Im} (h : Ok os) (g : Ok ps) : Ok (compC os ps) := by
  refine ⟨fun n hn => ?_, by unfold compC; rw [List.length_map]; exact h.2⟩
  obtain ⟨o, _, e⟩ := List.mem_map.mp hn
  cases o with
  | none => cases e
  | some c => exact g.1 n (cimg_mem e)
theorem ok_dom {os : Im} (h : Ok os) : Ok (domC os) := by
  refine ⟨fun n hn => ?_, by unfold domC; rw [List.length_map, List.length_range]; exact h.2⟩
  obtain ⟨i, _, e⟩ := List.mem_map.mp hn
  cases e2 : (os[i]?).getD none with
  | none => rw [e2] at e; cases e
  | some c =>
    rw [e2] at e
    have e' : (i : Int) = n := Option.some.inj e
    omega
theorem ok_flat {os : Im} (h : Ok os) : Ok (flatC os) := by
  refine ⟨fun n hn => ?_, by unfold flatC; rw [List.length_map]; exact h.2⟩
  obtain ⟨o, _, e⟩ := List.mem_map.mp hn
  cases o with
  | none => cases e
  | some c =>
    have e' : (0 : Int) = n := Option.some.inj e
    omega
theorem take_snoc {α : Type} {l : List α} {i : Nat} {x : α} (h : l[i]? = some x) : l.take (i + 1) = l.take i ++ [x] := by
  rw [List.take_add_one, h]; rfl
def spThen (C : Addr) (K : PySem.W.Frag) : Sp := fun vs H Q _ => ∃ (s t : Addr) (os ps : Im), vs = [.ref s, .ref t] ∧ CodeAt K C H s os ∧ CodeAt K C H t ps ∧ ∀ x H', Evl.Ex H H' → H x = none → CodeAt K C H' x (compC os ps) → Q (.ref x) H'
theorem ok_CodeMap_then {ad : Ad} (T : Txt K mg ad) : FnOk P w K mg base CX0 5 ad.a_CodeMap_then ad.d_CodeMap_then ["self", "other"] (spThen ad.c_CodeMap K) := by
  refine T.F_CodeMap_then.ok sc_CodeMap_then (fun vs H Q E h => ?_) (fun cdv A outer s H vs Q E hr h => ?_)
  · obtain ⟨me, t, os, ps, rfl, hC, hD, k⟩ := h
    rfl
  · obtain ⟨me, t, os, ps, rfl, hC, hD, k⟩ := h
    refine ⟨_, (pss_cons (ps_set (i := 2) sc_CodeMap_then.nd rfl (Or.inl rfl) (pe_lst pa_nil))
      (pss_cons (ps_for PassesOwn.never rfl (pi_list (pe_fld (pv 0) rfl)) (pg_name (i := 3) sc_CodeMap_then.nd rfl (Or.inl rfl)) (pss_one (ps_expr (pe_bm PySem.F.plainAttrs_list PySem.F.slot_list_append PySem.F.type_list_append mt_append (pv 2) (pa_cons (pe_ifExp (pt_cmpR op_isN1 (pv 3) pe_non (nomark _)) pe_non (pe_meth (pv 1) T.cl_CodeMap T.me_CodeMap_image (ok_CodeMap_image T) (hr.mono (by decide)) T.b_CodeMap_image .nil pass0 (pa_cons (pv 3) pa_nil))) pa_nil)))))
      (pss_one (ps_ret (pe_make T.mk_CodeMap (ok_CodeMap_init_ T) (hr.mono (by decide)) rfl T.mg_CodeMap T.b_CodeMap_init_ .nil passL (pa_cons (pv 2) pa_nil)))))), ?_⟩
    try dsimp only [L2.cxOf, L2.Cx.nox, L2.Cx.wish]
    change (_ : TS) _ ([some (.ref me), some (.ref t), none, none] : St) _
    have cl_CodeMap := T.cl_CodeMap
    have n_CodeMap_images := T.n_CodeMap_images
    obtain ⟨⟨dx, l, h1, h2⟩, ok⟩ := id hC
    walk_at "rd"
    refine Rd.xlst rfl fun f H1 nf e1 hf => ?_
    walk_at "rd"
    refine Rd.xfl (K := K) (xs := vsI os) (by walk_at "sq") (fun i σ H' => ∃ v, σ = [some (.ref me), some (.ref t), some (.ref f), v] ∧ Evl.Ex H H' ∧ H' f = some (.lst (vsI (compC (os.take i) ps)))) ⟨none, rfl, e1, hf⟩ (fun i σ H' _ ⟨_, _, e, _⟩ => SqL.of (e _ _ h2)) ?_ ?_
    · rintro i y σ H2 hi ⟨v, rfl, e2, hf2⟩
      obtain ⟨o, ho, rfl⟩ := vsI_get hi
      have hz : (vsI (compC (os.take i) ps)).length < 100000 := by
        rw [vsI_len]; unfold compC; rw [List.length_map, List.length_take]; have := ok.2; omega
      have hst : vsI (compC (os.take (i + 1)) ps) = vsI (compC (os.take i) ps) ++ [optV (o.bind (cimg ps))] := by
        rw [take_snoc ho]; unfold compC vsI; rw [List.map_append, List.map_append]; rfl
      cases o with
      | none =>
        rw [optV_none]
        walk_at "rd"
        refine Rd.append hf2 hz ?_
        walk_at "rd"
        exact ⟨_, rfl, Evl.Ex.mut e2 nf, by rw [upd_same, hst]; rfl⟩
      | some c =>
        rw [optV_some]
        walk_at "rd"
        refine m_code (hD.mono e2) no_CodeMap_image ?_
        walk_at "rd"
        refine x_cimg (hD.mono e2) ?_
        walk_at "rd"
        refine Rd.append hf2 hz ?_
        walk_at "rd"
        exact ⟨_, rfl, Evl.Ex.mut e2 nf, by rw [upd_same, hst]; rfl⟩
    · rintro σ H2 ⟨v, rfl, e2, hf2⟩
      rw [vsI_len, List.take_length] at hf2
      walk_at "rd"
      refine x_make (K := K) hf2 (ok_comp ok hD.ok) fun x H3 e3 nx h3 _ => ?_
      exact k x H3 (e2.trans e3) (Evl.fresh_back e2 nx) h3
def spDom (C : Addr) (K : PySem.W.Frag) (f : Im → Im) : Sp := fun vs H Q _ => ∃ (s : Addr) (os : Im), vs = [.ref s] ∧ CodeAt K C H s os ∧ ∀ x H', Evl.Ex H H' → H x = none → CodeAt K C H' x (f os) → Q (.ref x) H'
theorem ok_CodeMap_domain {ad : Ad} (T : Txt K mg ad) : FnOk P w K mg base CX0 5 ad.a_CodeMap_domain ad.d_CodeMap_domain ["self"] (spDom ad.c_CodeMap K domC) := by
  refine T.F_CodeMap_domain.ok sc_CodeMap_domain (fun vs H Q E h => ?_) (fun cdv A outer s H vs Q E hr h => ?_)
  · obtain ⟨me, os, rfl, hC, k⟩ := h
    rfl
  · obtain ⟨me, os, rfl, hC, k⟩ := h
    refine ⟨_, (pss_cons (ps_set (i := 1) sc_CodeMap_domain.nd rfl (Or.inl rfl) (pe_lst pa_nil))
      (pss_cons (ps_for PassesOwn.never rfl (pi_range1 rfl T.z_range (pa_cons (pe_callB Rd.c_len (by rfl) T.z_len (by decide +kernel) (pa_cons (pe_fld (pv 0) rfl) pa_nil)) pa_nil)) (pg_name (i := 2) sc_CodeMap_domain.nd rfl (Or.inl rfl)) (pss_one (ps_expr (pe_bm PySem.F.plainAttrs_list PySem.F.slot_list_append PySem.F.type_list_append mt_append (pv 1) (pa_cons (pe_ifExp (pt_cmpR op_isN1 (pe_ix ix_list (pe_fld (pv 0) rfl) (pv 2) (fun _ _ => rfl)) pe_non (nomark _)) pe_non (pv 2)) pa_nil)))))
      (pss_one (ps_ret (pe_make T.mk_CodeMap (ok_CodeMap_init_ T) (hr.mono (by decide)) rfl T.mg_CodeMap T.b_CodeMap_init_ .nil passL (pa_cons (pv 1) pa_nil)))))), ?_⟩
    try dsimp only [L2.cxOf, L2.Cx.nox, L2.Cx.wish]
    change (_ : TS) _ ([some (.ref me), none, none] : St) _
    have cl_CodeMap := T.cl_CodeMap
    have n_CodeMap_images := T.n_CodeMap_images
    obtain ⟨⟨dx, l, h1, h2⟩, ok⟩ := id hC
    walk_at "rd"
    refine Rd.xlst rfl fun f H1 nf e1 hf => ?_
    walk_at "rd"
    have hl := vsI_len os
    have hlen := ok.2
    refine Rd.xfr1 ⟨by omega, by omega⟩ (fun i σ H' => ∃ v, σ = [some (.ref me), some (.ref f), v] ∧ Evl.Ex H H' ∧ H' f = some (.lst (vsI ((domC os).take i)))) ⟨none, rfl, e1, hf⟩ ?_ ?_
    · rintro i σ H2 hi ⟨v, rfl, e2, hf2⟩
      have hi' : i < os.length := by omega
      have hz : (vsI ((domC os).take i)).length < 100000 := by
        rw [vsI_len, List.length_take]; omega
      have hg : (domC os)[i]? = some (os[i].map fun _ => (i : Int)) := by
        unfold domC
        rw [List.getElem?_map, List.getElem?_range hi', Option.map_some, List.getElem?_eq_getElem hi']
        rfl
      have hst : vsI ((domC os).take (i + 1)) = vsI ((domC os).take i) ++ [optV (os[i].map fun _ => (i : Int))] := by
        rw [take_snoc hg]; unfold vsI; rw [List.map_append]; rfl
      walk_at "rd"
      refine Rd.ixL (K := K) (xs := vsI os) (by walk_at "sq") (atI_nat (by unfold vsI; rw [List.getElem?_map, List.getElem?_eq_getElem hi']; rfl)) ?_
      generalize os[i] = o at *
      cases o with
      | none =>
        rw [optV_none]
        walk_at "rd"
        refine Rd.append hf2 hz ?_
        walk_at "rd"
        exact ⟨_, rfl, Evl.Ex.mut e2 nf, by rw [upd_same, hst]; rfl⟩
      | some c =>
        rw [optV_some]
        walk_at "rd"
        refine Rd.append hf2 hz ?_
        walk_at "rd"
        exact ⟨_, rfl, Evl.Ex.mut e2 nf, by rw [upd_same, hst]; rfl⟩
    · rintro σ H2 ⟨v, rfl, e2, hf2⟩
      have hll : ((vsI os).length : Int).toNat = (domC os).length := by unfold domC; rw [List.length_map, List.length_range]; omega
      rw [hll, List.take_length] at hf2
      walk_at "rd"
      refine x_make (K := K) hf2 (ok_dom ok) fun x H3 e3 nx h3 _ => ?_
      exact k x H3 (e2.trans e3) (Evl.fresh_back e2 nx) h3
theorem ok_CodeMap_flat {ad : Ad} (T : Txt K mg ad) : FnOk P w K mg base CX0 5 ad.a_CodeMap_flat ad.d_CodeMap_flat ["self"] (spDom ad.c_CodeMap K flatC) := by
  refine T.F_CodeMap_flat.ok sc_CodeMap_flat (fun vs H Q E h => ?_) (fun cdv A outer s H vs Q E hr h => ?_)
  · obtain ⟨me, os, rfl, hC, k⟩ := h
    rfl
  · obtain ⟨me, os, rfl, hC, k⟩ := h
    refine ⟨_, (pss_one (ps_ret (pe_make T.mk_CodeMap (ok_CodeMap_init_ T) (hr.mono (by decide)) rfl T.mg_CodeMap T.b_CodeMap_init_ .nil passL (pa_cons (pe_lc (own := [("image", 1)]) (g := gName 1) (tt := tYes) rfl sc_CodeMap_flat.nd (pi_list (pe_fld (pv 0) rfl)) (blkOk_by (N := ["self", "image"]) (sc := defScope s_CodeMap_flat) (by decide +kernel)) (fun _ _ _ _ _ => (pg_name (i := 1) sc_CodeMap_flat.nd rfl (Or.inl rfl))) (fun _ _ _ _ _ => pts_nil) (fun _ _ _ _ _ => (pe_ifExp (pt_cmpR op_isN1 (pv 1) pe_non (nomark _)) pe_non pe_int))) pa_nil)))), ?_⟩
    try dsimp only [L2.cxOf, L2.Cx.nox, L2.Cx.wish]
    change (_ : TS) _ ([some (.ref me), none] : St) _
    have cl_CodeMap := T.cl_CodeMap
    have n_CodeMap_images := T.n_CodeMap_images
    obtain ⟨⟨dx, l, h1, h2⟩, ok⟩ := id hC
    have hlen := ok.2
    walk_at "rd"
    refine Rd.xlcL (xs := vsI os) (fun _ => true) (fun i => optV (((os[i]?).getD none).map fun _ => (0 : Int))) (SqL.of h2) (by rw [vsI_len]; omega) (fun _ => rfl) (fun _ _ _ _ _ => Rd.evYes) ?_ fun f H1 nf e1 hf => ?_
    · intro i y Hc ec hi _ H1 e1 Q q
      obtain ⟨o, ho, rfl⟩ := vsI_get hi
      rw [ho] at q
      cases o with
      | none =>
        rw [optV_none]
        walk_at "rd"
        exact q _ (Evl.Ex.refl _)
      | some c =>
        rw [optV_some]
        walk_at "rd"
        exact q _ (Evl.Ex.refl _)
    · have hv : Evl.given (vsI os).length (fun _ => true) (fun i => optV (((os[i]?).getD none).map fun _ => (0 : Int))) = vsI (flatC os) := by
        rw [Rd.given_all, vsI_len]
        refine List.ext_getElem? fun i => ?_
        unfold vsI flatC
        rw [List.getElem?_map, List.getElem?_map, List.getElem?_map]
        by_cases hi : i < os.length
        · rw [List.getElem?_range hi, List.getElem?_eq_getElem hi]
          rw [Option.map_some, Option.map_some, Option.map_some, List.getElem?_eq_getElem hi]
          rfl
        · rw [List.getElem?_eq_none (by rw [List.length_range]; omega), List.getElem?_eq_none (by omega)]
          rfl
      rw [hv] at hf
      walk_at "rd"
      refine x_make (K := K) hf (ok_flat ok) fun x H3 e3 nx h3 _ => ?_
      exact k x H3 (e1.trans e3) (Evl.fresh_back e1 nx) h3

def diffC (os ps : Im) : Option Int := ((List.range (max os.length ps.length)).find? fun (i : Nat) => decide (cimg os i ≠ cimg ps i)).map fun (i : Nat) => (i : Int)
theorem max_nat (a b : Nat) : (if (b : Int) > (a : Int) then (b : Int) else (a : Int)) = ((max a b : Nat) : Int) := by
  split <;> omega
theorem find_at {n i : Nat} {p : Nat → Bool} (hi : i < n) (h : p i = true) (hno : ∀ j, j < i → p j = false) : (List.range n).find? p = some i := by
  rw [List.find?_eq_some_iff_getElem]
  refine ⟨h, i, by rw [List.length_range]; exact hi, by rw [List.getElem_range], fun j hj => ?_⟩
  rw [List.getElem_range, hno j hj]; rfl
theorem find_no {n : Nat} {p : Nat → Bool} (hno : ∀ j, j < n → p j = false) : (List.range n).find? p = none := by
  rw [List.find?_eq_none]
  intro j hj
  rw [hno j (List.mem_range.mp hj)]; decide
def spDiff (C : Addr) (K : PySem.W.Frag) : Sp := fun vs H Q _ => ∃ (s t : Addr) (os ps : Im), vs = [.ref s, .ref t] ∧ CodeAt K C H s os ∧ CodeAt K C H t ps ∧ Q (optV (diffC os ps)) H
theorem neV {H : Hp} {Q : VK} {a b : Option Int} (q : Q (.bl (!decide (a = b))) H) : rNe (optV a) (optV b) H Q := by
  refine Rd.neX (scalV a b) ?_
  have e : decide (optV a = optV b) = decide (a = b) := decide_eq_decide.mpr ⟨optV_inj, congrArg optV⟩
  rw [e]; exact q
theorem ok_code_difference {ad : Ad} (T : Txt K mg ad) : FnOk P w K mg base CX0 2 ad.a_code_difference ad.d_code_difference ["first", "second"] (spDiff ad.c_CodeMap K) := by
  refine T.F_code_difference.ok sc_code_difference (fun vs H Q E h => ?_) (fun cdv A outer s H vs Q E hr h => ?_)
  · obtain ⟨me, t, os, ps, rfl, hC, hD, k⟩ := h
    rfl
  · obtain ⟨me, t, os, ps, rfl, hC, hD, k⟩ := h
    refine ⟨_, (pss_cons (ps_for PassesOwn.never rfl (pi_range1 rfl T.z_range (pa_cons (pe_callB (Rd.c_max2 rfl) (by rfl) T.z_max (by decide +kernel) (pa_cons (pe_callB Rd.c_len (by rfl) T.z_len (by decide +kernel) (pa_cons (pe_fld (pv 0) rfl) pa_nil)) (pa_cons (pe_callB Rd.c_len (by rfl) T.z_len (by decide +kernel) (pa_cons (pe_fld (pv 1) rfl) pa_nil)) pa_nil))) pa_nil)) (pg_name (i := 2) sc_code_difference.nd rfl (Or.inl rfl)) (pss_one (ps_if (pt_cmpR op_ne (pe_meth (pv 0) T.cl_CodeMap T.me_CodeMap_image (ok_CodeMap_image T) (hr.mono (by decide)) T.b_CodeMap_image .nil pass0 (pa_cons (pv 2) pa_nil)) (pe_meth (pv 1) T.cl_CodeMap T.me_CodeMap_image (ok_CodeMap_image T) (hr.mono (by decide)) T.b_CodeMap_image .nil pass0 (pa_cons (pv 2) pa_nil)) (nomark _)) (pss_one (ps_ret (pv 2))) pss_nil)))
      (pss_one (ps_ret pe_non))), ?_⟩
    try dsimp only [L2.cxOf, L2.Cx.nox, L2.Cx.wish]
    change (_ : TS) _ ([some (.ref me), some (.ref t), none] : St) _
    have cl_CodeMap := T.cl_CodeMap
    have n_CodeMap_images := T.n_CodeMap_images
    obtain ⟨⟨dx, l, h1, h2⟩, ok⟩ := id hC
    obtain ⟨⟨dx', l', h1', h2'⟩, ok'⟩ := id hD
    have hl := vsI_len os
    have hl' := vsI_len ps
    have hb := ok.2
    have hb' := ok'.2
    walk_at "rd"
    rw [hl, hl', max_nat]
    refine Rd.xfr1 ⟨by omega, by omega⟩ (fun i σ H' => ∃ v, σ = [some (.ref me), some (.ref t), v] ∧ H' = H ∧ ∀ j : Nat, j < i → cimg os j = cimg ps j) ⟨none, rfl, rfl, fun j hj => by omega⟩ ?_ ?_
    · rintro i σ Hc hi ⟨v, rfl, rfl, hno⟩
      walk_at "rd"
      refine x_cimg hC ?_
      walk_at "rd"
      refine x_cimg hD ?_
      refine neV ?_
      walk_at "rd"
      refine Rd.ifNd (fun hne => ?_) (fun heq => ?_)
      · walk_at "rd"
        have hd : diffC os ps = some (i : Int) := by
          unfold diffC
          rw [find_at (p := fun (i : Nat) => decide (cimg os i ≠ cimg ps i)) (i := i) (by omega) (decide_eq_true hne) fun j hj => decide_eq_false (fun z => z (hno j hj))]
          rfl
        rw [hd] at k
        exact k
      · walk_at "rd"
        refine ⟨_, rfl, rfl, fun j hj => ?_⟩
        by_cases e : j = i
        · rw [e]; exact heq
        · exact hno j (by omega)
    · rintro σ Hc ⟨v, rfl, rfl, hno⟩
      walk_at "rd"
      have hd : diffC os ps = none := by
        unfold diffC
        rw [find_no (p := fun (i : Nat) => decide (cimg os i ≠ cimg ps i)) fun j hj => decide_eq_false (fun z => z (hno j (by omega)))]
        rfl
      rw [hd] at k
      exact k
def spDec (C : Addr) (K : PySem.W.Frag) : Sp := fun vs H Q _ => ∃ (s t : Addr) (os ps : Im), vs = [.ref s, .ref t] ∧ CodeAt K C H s os ∧ CodeAt K C H t ps ∧ ∀ p H', H p = none → Evl.Ex H H' → H' p = some (.lst (rgV 0 ((max os.length ps.length : Nat) : Int))) → Q (.ref p) H'
theorem ok_decisive_codes {ad : Ad} (T : Txt K mg ad) : FnOk P w K mg base CX0 1 ad.a_decisive_codes ad.d_decisive_codes ["first", "second"] (spDec ad.c_CodeMap K) := by
  refine T.F_decisive_codes.ok sc_decisive_codes (fun vs H Q E h => ?_) (fun cdv A outer s H vs Q E hr h => ?_)
  · obtain ⟨me, t, os, ps, rfl, hC, hD, k⟩ := h
    rfl
  · obtain ⟨me, t, os, ps, rfl, hC, hD, k⟩ := h
    refine ⟨_, (pss_one (ps_ret (pe_listRg rfl (by rfl) T.z_list (prg_1 rfl T.z_range (pe_callB (Rd.c_max2 rfl) (by rfl) T.z_max (by decide +kernel) (pa_cons (pe_callB Rd.c_len (by rfl) T.z_len (by decide +kernel) (pa_cons (pe_fld (pv 0) rfl) pa_nil)) (pa_cons (pe_callB Rd.c_len (by rfl) T.z_len (by decide +kernel) (pa_cons (pe_fld (pv 1) rfl) pa_nil)) pa_nil))))))), ?_⟩
    try dsimp only [L2.cxOf, L2.Cx.nox, L2.Cx.wish]
    change (_ : TS) _ ([some (.ref me), some (.ref t)] : St) _
    have cl_CodeMap := T.cl_CodeMap
    have n_CodeMap_images := T.n_CodeMap_images
    obtain ⟨⟨dx, l, h1, h2⟩, ok⟩ := id hC
    obtain ⟨⟨dx', l', h1', h2'⟩, ok'⟩ := id hD
    have hl := vsI_len os
    have hl' := vsI_len ps
    have hb := ok.2
    have hb' := ok'.2
    walk_at "rd"
    rw [hl, hl', max_nat]
    refine Rd.xr1 (by omega) fun p H' np e hp => ?_
    walk_at "rd"
    exact k p H' np e hp
def spSame : Sp := fun vs H Q _ => ∃ o : Option Int, vs = [optV o, optV o] ∧ Q (.bl true) H
theorem ok_law_same {ad : Ad} (T : Txt K mg ad) : FnOk P w K mg base CX0 1 ad.a_law_same ad.d_law_same ["actual", "expected"] (spSame) := by
  refine T.F_law_same.ok sc_law_same (fun vs H Q E h => ?_) (fun cdv A outer s H vs Q E hr h => ?_)
  · obtain ⟨o, rfl, k⟩ := h
    rfl
  · obtain ⟨o, rfl, k⟩ := h
    refine ⟨_, (pss_cons (ps_if (pt_cmpR op_isN1 (pv 1) pe_non (nomark _)) (pss_one (ps_ret (pe_cmpR op_isN1 (pv 0) pe_non (nomark _)))) pss_nil)
      (pss_one (ps_ret (pe_and (pe_callB call_isi (by rfl) T.z_isinstance (by decide +kernel) (pa_cons (pv 0) (pa_cons (pe_bltn rfl T.z_int (by decide +kernel) (v := .ty "int") rfl) pa_nil))) (pe_and (pe_not (pe_callB call_isi (by rfl) T.z_isinstance (by decide +kernel) (pa_cons (pv 0) (pa_cons (pe_bltn rfl T.z_bool (by decide +kernel) (v := .ty "bool") rfl) pa_nil)))) (pe_one (pe_cmpR op_eq (pv 0) (pv 1) (nomark _)))))))), ?_⟩
    try dsimp only [L2.cxOf, L2.Cx.nox, L2.Cx.wish]
    change (_ : TS) _ ([some (optV o), some (optV o)] : St) _
    cases o with
    | none =>
      show (_ : TS) _ ([some .non, some .non] : St) _
      walk_at "rd"
      exact k
    | some i =>
      show (_ : TS) _ ([some (.int i), some (.int i)] : St) _
      walk_at "rd"
      rw [decide_eq_true rfl]
      exact k
/-- a new list of images -/
def spNew (n : Nat) : Sp := fun vs H Q _ => ∃ l : Addr, vs = [.ref l] ∧ H l = some (Dk.DkO l) ∧ ∀ (p : Addr) (os : Im) (H' : Hp), H p = none → Evl.Ex H H' → H' p = some (.lst (vsI os)) → (∀ m : Int, some m ∈ os → 0 ≤ m) → os.length ≤ n → Q (.ref p) H'
theorem pow20 : (10 : Int) ^ (20 : Int).toNat = 100000000000000000000 := by decide
theorem ok_law_images {ad : Ad} (T : Txt K mg ad) : FnOk P w K mg base CX0 2 ad.a_law_images ad.d_law_images ["deck"] (spNew 9) := by
  refine T.F_law_images.ok sc_law_images (fun vs H Q E h => ?_) (fun cdv A outer s H vs Q E hr h => ?_)
  · obtain ⟨l, rfl, h1, k⟩ := h
    rfl
  · obtain ⟨l, rfl, h1, k⟩ := h
    refine ⟨_, (pss_cons (ps_set (i := 1) sc_law_images.nd rfl (Or.inl rfl) (pe_lst pa_nil))
      (pss_cons (ps_for PassesOwn.never rfl (pi_range1 rfl T.z_range (pa_cons (pe_call (ok_law_take T) (hr.mono (by decide)) rfl T.m_law_take T.F_law_take.kp T.b_law_take .nil pass0 (pa_cons (pv 0) (pa_cons pe_int pa_nil))) pa_nil)) (pg_name (i := 2) sc_law_images.nd rfl (Or.inl rfl)) (pss_cons (ps_set (i := 3) sc_law_images.nd rfl (Or.inl rfl) (pe_call (ok_law_take T) (hr.mono (by decide)) rfl T.m_law_take T.F_law_take.kp T.b_law_take .nil pass0 (pa_cons (pv 0) (pa_cons pe_int pa_nil))))
      (Evl.pss_cut (ps_if (pt_cmpR op_eq (pe_call (ok_law_take T) (hr.mono (by decide)) rfl T.m_law_take T.F_law_take.kp T.b_law_take .nil pass0 (pa_cons (pv 0) (pa_cons pe_int pa_nil))) pe_int (nomark _)) (pss_one (ps_set (i := 3) sc_law_images.nd rfl (Or.inl rfl) (pe_op op_add (pe_op op_pow pe_int pe_int) (pv 3)))) pss_nil)
      (Evl.pss_cut (ps_if (pt_cmpR op_eq (pe_call (ok_law_take T) (hr.mono (by decide)) rfl T.m_law_take T.F_law_take.kp T.b_law_take .nil pass0 (pa_cons (pv 0) (pa_cons pe_int pa_nil))) pe_int (nomark _)) (pss_one (ps_set (i := 3) sc_law_images.nd rfl (Or.inl rfl) pe_non)) pss_nil)
      (pss_one (ps_expr (pe_bm PySem.F.plainAttrs_list PySem.F.slot_list_append PySem.F.type_list_append mt_append (pv 1) (pa_cons (pv 3) pa_nil))))))))
      (pss_one (ps_ret (pv 1))))), ?_⟩
    try dsimp only [L2.cxOf, L2.Cx.nox, L2.Cx.wish]
    change (_ : TS) _ ([some (.ref l), none, none, none] : St) _
    have cl_CodeMap := T.cl_CodeMap
    have n_CodeMap_images := T.n_CodeMap_images
    walk_at "rd"
    refine Rd.xlst rfl fun f H1 nf e1 hf => ?_
    walk_at "rd"
    intro n n0 n1
    refine Rd.xfr1 ⟨by omega, by omega⟩ (fun i σ H' => ∃ (os : Im) (v2 v3 : Option V), σ = [some (.ref l), some (.ref f), v2, v3] ∧ Evl.Ex H H' ∧ H' f = some (.lst (vsI os)) ∧ (∀ m : Int, some m ∈ os → 0 ≤ m) ∧ os.length = i)
      ⟨[], none, none, rfl, e1, hf, (fun _ h => nomatch h), rfl⟩ ?_ ?_
    · rintro i σ H2 hi ⟨os, v2, v3, rfl, e2, hf2, hok, hlen⟩
      walk_at "rd"
      intro im i0 i1
      walk_at "rd"
      refine ⟨fun σ H' => ∃ m : Int, σ = [some (.ref l), some (.ref f), some (.int i), some (.int m)] ∧ H' = H2 ∧ 0 ≤ m, ?_, ?_⟩
      · walk_at "rd"
        intro c c0 c1
        walk_at "rd"
        refine Rd.ifd (fun h => ?_) (fun h => ?_)
        · walk_at "rd"
          exact ⟨_, rfl, rfl, by omega⟩
        · walk_at "rd"
          exact ⟨_, rfl, rfl, i0⟩
      · rintro σ Hc ⟨m, rfl, rfl, hm⟩
        walk_at "rd"
        refine ⟨fun σ H' => ∃ o : Option Int, σ = [some (.ref l), some (.ref f), some (.int i), some (optV o)] ∧ H' = Hc ∧ ∀ m, o = some m → 0 ≤ m, ?_, ?_⟩
        · walk_at "rd"
          intro c c0 c1
          walk_at "rd"
          refine Rd.ifd (fun h => ?_) (fun h => ?_)
          · walk_at "rd"
            exact ⟨none, rfl, rfl, fun _ e => by cases e⟩
          · walk_at "rd"
            exact ⟨some m, rfl, rfl, fun _ e => by cases e; exact hm⟩
        · rintro σ Hd ⟨o, rfl, rfl, ho⟩
          walk_at "rd"
          refine Rd.append hf2 (by rw [vsI_len]; omega) ?_
          walk_at "rd"
          refine ⟨os ++ [o], _, _, rfl, Evl.Ex.mut e2 nf, by rw [upd_same]; unfold vsI; rw [List.map_append]; rfl, ?_, by rw [List.length_append, hlen]; rfl⟩
          intro m' hm'
          rcases List.mem_append.mp hm' with h | h
          · exact hok m' h
          · exact ho m' (List.mem_singleton.mp h).symm
    · rintro σ H2 ⟨os, v2, v3, rfl, e2, hf2, hok, hlen⟩
      walk_at "rd"
      exact k f os H2 nf e2 hf2 hok (by omega)
def spAt (K : PySem.W.Frag) : Sp := fun vs H Q _ => ∃ (l : Addr) (os : Im) (c : Option Int), vs = [.ref l, optV c] ∧ H l = some (.lst (vsI os)) ∧ Q (optV (c.bind (cimg os))) H
theorem ok_law_at {ad : Ad} (T : Txt K mg ad) : FnOk P w K mg base CX0 1 ad.a_law_at ad.d_law_at ["images", "code"] (spAt K) := by
  refine T.F_law_at.ok sc_law_at (fun vs H Q E h => ?_) (fun cdv A outer s H vs Q E hr h => ?_)
  · obtain ⟨l, os, c, rfl, hl, k⟩ := h
    rfl
  · obtain ⟨l, os, c, rfl, hl, k⟩ := h
    refine ⟨_, (pss_cons (ps_if (PW.pt (pw_or (pt_cmpR op_isN1 (pv 1) pe_non (nomark _)) (pw_or (pt_cmpR op_lt (pv 1) pe_int (nomark _)) (pw_or1 (pt_cmpR op_ge (pv 1) (pe_callB Rd.c_len (by rfl) T.z_len (by decide +kernel) (pa_cons (pv 0) pa_nil)) (nomark _)))))) (pss_one (ps_ret pe_non)) pss_nil)
      (pss_one (ps_ret (pe_ix ix_list (pv 0) (pv 1) (fun _ _ => rfl))))), ?_⟩
    try dsimp only [L2.cxOf, L2.Cx.nox, L2.Cx.wish]
    change (_ : TS) _ ([some (.ref l), some (optV c)] : St) _
    have hlen := vsI_len os
    cases c with
    | none =>
      show (_ : TS) _ ([some (.ref l), some .non] : St) _
      walk_at "rd"
      exact k
    | some c =>
      show (_ : TS) _ ([some (.ref l), some (.int c)] : St) _
      have hk : (some c).bind (cimg os) = cimg os c := rfl
      rw [hk] at k
      walk_at "rd"
      refine Rd.ifd (fun c1 => ?_) (fun c1 => ?_)
      · walk_at "rd"
        have e : cimg os c = none := by unfold cimg; rw [if_neg (by omega)]
        rw [e] at k
        exact k
      · walk_at "rd"
        refine Rd.ifd (fun c2 => ?_) (fun c2 => ?_)
        · walk_at "rd"
          have e : cimg os c = none := by
            unfold cimg
            rw [if_pos (by omega), List.getElem?_eq_none (by omega)]
            rfl
          rw [e] at k
          exact k
        · walk_at "rd"
          have hlt : c.toNat < os.length := by omega
          have e : cimg os c = os[c.toNat] := by
            unfold cimg
            rw [if_pos (by omega), List.getElem?_eq_getElem hlt]
            rfl
          rw [e] at k
          refine Rd.ixL (SqL.of hl) (Rd.atI_i (by omega) (by unfold vsI; rw [List.getElem?_map, List.getElem?_eq_getElem hlt]; rfl)) ?_
          walk_at "rd"
          exact k

theorem x_take0 {l : Addr} {m : Int} {H : Hp} {Q : VK} {E : XK} (h : H l = some (Dk.DkO l)) (hm : 0 < m) (q : ∀ k : Int, 0 ≤ k → k < m → Q (.int k) H) : Dk.spTake ([.ref l, .int m] ++ []) H Q E := ⟨l, m, rfl, h, hm, q⟩
theorem set_vsI (os : Im) (i : Nat) (o : Option Int) : (vsI os).set i (optV o) = vsI (os.set i o) := by unfold vsI; rw [List.map_set]
theorem two_at {n k : Int} (h0 : 0 ≤ k) (h1 : k < 2) (hn : 0 ≤ n) : ∃ o : Option Int, atI [V.non, .int n] k = some (optV o) ∧ ∀ m, o = some m → 0 ≤ m := by
  rcases (by omega : k = 0 ∨ k = 1) with rfl | rfl
  · exact ⟨none, rfl, fun _ e => by cases e⟩
  · exact ⟨some n, rfl, fun _ e => by cases e; exact hn⟩
def spNear : Sp := fun vs H Q _ => ∃ (l li : Addr) (os : Im), vs = [.ref l, .ref li] ∧ H l = some (Dk.DkO l) ∧ H li = some (.lst (vsI os)) ∧ (∀ m : Int, some m ∈ os → 0 ≤ m) ∧ os.length ≤ 9 ∧
  ∀ (p : Addr) (os : Im) (H' : Hp), H p = none → Evl.Ex H H' → H' p = some (.lst (vsI os)) → (∀ m : Int, some m ∈ os → 0 ≤ m) → os.length ≤ 13 → Q (.ref p) H'
theorem mem_set_or {os : Im} {i : Nat} {o : Option Int} {x : Option Int} (h : x ∈ os.set i o) : x ∈ os ∨ x = o := by
  rcases List.mem_or_eq_of_mem_set h with h | h
  · exact .inl h
  · exact .inr h
theorem ok_law_near {ad : Ad} (T : Txt K mg ad) : FnOk P w K mg base CX0 3 ad.a_law_near ad.d_law_near ["deck", "images"] (spNear) := by
  refine T.F_law_near.ok sc_law_near (fun vs H Q E h => ?_) (fun cdv A outer s H vs Q E hr h => ?_)
  · obtain ⟨l, li, os, rfl, h1, hli, hok, hlen, k⟩ := h
    rfl
  · obtain ⟨l, li, os, rfl, h1, hli, hok, hlen, k⟩ := h
    refine ⟨_, (pss_cons (ps_set (i := 2) sc_law_near.nd rfl (Or.inl rfl) (pe_call (ok_law_take T) (hr.mono (by decide)) rfl T.m_law_take T.F_law_take.kp T.b_law_take .nil pass0 (pa_cons (pv 0) (pa_cons pe_int pa_nil))))
      (pss_cons (ps_if (pt_cmpR op_eq (pv 2) pe_int (nomark _)) (pss_one (ps_ret (pe_call (ok_law_images T) (hr.mono (by decide)) rfl T.m_law_images T.F_law_images.kp T.b_law_images .nil pass0 (pa_cons (pv 0) pa_nil)))) pss_nil)
      (pss_cons (ps_set (i := 3) sc_law_near.nd rfl (Or.inl rfl) (pe_callTy Rd.c_list (by rfl) T.z_list (by decide +kernel) (pa_cons (pv 1) pa_nil)))
      (Evl.pss_cut (ps_if (PW.pt (pw_and (pt_cmpR op_eq (pv 2) pe_int (nomark _)) (pw_and1 (pt_cmpR op_gt (pe_callB Rd.c_len (by rfl) T.z_len (by decide +kernel) (pa_cons (pv 3) pa_nil)) pe_int (nomark _))))) (pss_one (ps_for PassesOwn.never rfl (pi_range1 rfl T.z_range (pa_cons (pe_call (ok_law_take T) (hr.mono (by decide)) rfl T.m_law_take T.F_law_take.kp T.b_law_take .nil pass0 (pa_cons (pv 0) (pa_cons pe_int pa_nil))) pa_nil)) (pg_name (i := 4) sc_law_near.nd rfl (Or.inl rfl)) (pss_one (ps_asg (pe_ix ix_list (pe_lst (pa_cons pe_non (pa_cons (pe_call (ok_law_take T) (hr.mono (by decide)) rfl T.m_law_take T.F_law_take.kp T.b_law_take .nil pass0 (pa_cons (pv 0) (pa_cons pe_int pa_nil))) pa_nil))) (pe_call (ok_law_take T) (hr.mono (by decide)) rfl T.m_law_take T.F_law_take.kp T.b_law_take .nil pass0 (pa_cons (pv 0) (pa_cons pe_int pa_nil))) (fun _ _ => rfl)) (pg_sub (pv 3) (pe_call (ok_law_take T) (hr.mono (by decide)) rfl T.m_law_take T.F_law_take.kp T.b_law_take .nil pass0 (pa_cons (pv 0) (pa_cons (pe_callB Rd.c_len (by rfl) T.z_len (by decide +kernel) (pa_cons (pv 3) pa_nil)) pa_nil))) set_list))))) pss_nil)
      (Evl.pss_cut (ps_if (pt_cmpR op_eq (pv 2) pe_int (nomark _)) (pss_one (ps_set (i := 3) sc_law_near.nd rfl (Or.inl rfl) (pe_op op_cat (pv 3) (pe_lc (own := [("k", 4)]) (g := gName 4) (tt := tYes) rfl sc_law_near.nd (pi_range1 rfl T.z_range (pa_cons (pe_call (ok_law_take T) (hr.mono (by decide)) rfl T.m_law_take T.F_law_take.kp T.b_law_take .nil pass0 (pa_cons (pv 0) (pa_cons pe_int pa_nil))) pa_nil)) (blkOk_by (N := ["deck", "images", "digit", "found", "k"]) (sc := defScope s_law_near) (by decide +kernel)) (fun _ _ _ _ _ => (pg_name (i := 4) sc_law_near.nd rfl (Or.inl rfl))) (fun _ _ _ _ _ => pts_nil) (fun _ _ _ _ _ => pe_non))))) pss_nil)
      (pss_one (ps_ret (pv 3)))))))), ?_⟩
    try dsimp only [L2.cxOf, L2.Cx.nox, L2.Cx.wish]
    change (_ : TS) _ ([some (.ref l), some (.ref li), none, none, none] : St) _
    walk_at "rd"
    intro d d0 d3
    walk_at "rd"
    refine Rd.ifd (fun c0 => ?_) (fun c0 => ?_)
    · walk_at "rd"
      refine ⟨l, rfl, h1, fun p os' H' np e hp ho hl => ?_⟩
      exact k p os' H' np e hp ho (by omega)
    · walk_at "rd"
      refine Rd.listOf (by walk_at "sq") fun f H1 nf e1 hf => ?_
      walk_at "rd"
      refine ⟨fun σ H' => ∃ (os' : Im) (v4 : Option V), σ = [some (.ref l), some (.ref li), some (.int d), some (.ref f), v4] ∧ Evl.Ex H H' ∧ H' f = some (.lst (vsI os')) ∧ (∀ m : Int, some m ∈ os' → 0 ≤ m) ∧ os'.length ≤ 9, ?_, ?_⟩
      · have hlf := vsI_len os
        walk_at "rd"
        refine Rd.ifd (fun c1 => ?_) (fun c1 => ?_)
        · walk_at "rd"
          refine Rd.ifd (fun c2 => ?_) (fun c2 => ?_)
          · walk_at "rd"
            intro n n0 n3
            refine Rd.xfr1 ⟨by omega, by omega⟩ (fun i σ H' => ∃ (os' : Im) (v4 : Option V), σ = [some (.ref l), some (.ref li), some (.int d), some (.ref f), v4] ∧ Evl.Ex H H' ∧ H' f = some (.lst (vsI os')) ∧ (∀ m : Int, some m ∈ os' → 0 ≤ m) ∧ os'.length = os.length)
              ⟨os, none, rfl, e1, hf, hok, rfl⟩ ?_ ?_
            · rintro i σ H2 hi ⟨os', v4, rfl, e2, hf2, hok2, hlen2⟩
              have hlf2 := vsI_len os'
              walk_at "rd"
              intro q q0 q1
              walk_at "rd"
              refine Rd.xlst rfl fun p3 H3 n3 e3 hp3 => ?_
              walk_at "rd"
              intro b b0 b1
              obtain ⟨o, ho, hon⟩ := two_at b0 b1 q0
              refine Rd.ixL (SqL.of hp3) ho ?_
              walk_at "rd"
              intro t t0 t1
              have ht : t = ((t.toNat : Nat) : Int) := (Int.toNat_of_nonneg t0).symm
              refine Rd.setL (e3 _ _ hf2) (n := t.toNat) (by rw [ht]; exact Evl.ixN_nat (by omega)) ?_
              refine ⟨os'.set t.toNat o, _, rfl, Evl.Ex.mut (e2.trans e3) nf, by rw [upd_same, set_vsI], fun m hm => ?_, by rw [List.length_set]; exact hlen2⟩
              rcases mem_set_or hm with h | h
              · exact hok2 m h
              · exact hon m h.symm
            · rintro σ H2 ⟨os', v4, rfl, e2, hf2, hok2, hlen2⟩
              exact ⟨os', _, rfl, e2, hf2, hok2, by omega⟩
          · walk_at "rd"
            exact ⟨os, _, rfl, e1, hf, hok, hlen⟩
        · walk_at "rd"
          exact ⟨os, _, rfl, e1, hf, hok, hlen⟩
      · rintro σ H2 ⟨os', v4, rfl, e2, hf2, hok2, hlen2⟩
        walk_at "rd"
        refine ⟨fun σ H' => ∃ (f' : Addr) (os' : Im) (v4 : Option V), σ = [some (.ref l), some (.ref li), some (.int d), some (.ref f'), v4] ∧ H f' = none ∧ Evl.Ex H H' ∧ H' f' = some (.lst (vsI os')) ∧ (∀ m : Int, some m ∈ os' → 0 ≤ m) ∧ os'.length ≤ 13, ?_, ?_⟩
        · walk_at "rd"
          refine Rd.ifd (fun c2 => ?_) (fun c2 => ?_)
          · walk_at "rd"
            intro n n0 n4
            refine Rd.xlcR (fun _ => true) (fun _ => .non) ⟨n0, by omega⟩ (fun _ => rfl) (fun _ _ _ _ => Rd.evYes) (fun _ _ _ _ _ _ _ _ q => q _ (Evl.Ex.refl _)) fun f2 H3 nf2 e3 hf3 => ?_
            rw [Rd.given_all] at hf3
            have hrep : (List.range n.toNat).map (fun _ => V.non) = vsI (List.replicate n.toNat none) := by
              unfold vsI
              rw [List.map_replicate, List.map_const', List.length_range]
              rfl
            rw [hrep] at hf3
            refine Rd.cat (e3 _ _ hf2) hf3 (by rw [vsI_len, vsI_len, List.length_replicate]; omega) fun p4 H4 np4 e4 hp4 => ?_
            walk_at "rd"
            refine ⟨p4, os' ++ List.replicate n.toNat none, v4, rfl, Evl.fresh_back (e2.trans e3) np4, (e2.trans e3).trans e4, by rw [hp4]; unfold vsI; rw [List.map_append], fun m hm => ?_, by rw [List.length_append, List.length_replicate]; omega⟩
            rcases List.mem_append.mp hm with h | h
            · exact hok2 m h
            · cases (List.mem_replicate.mp h).2
          · walk_at "rd"
            exact ⟨f, os', _, rfl, nf, e2, hf2, hok2, by omega⟩
        · rintro σ H3 ⟨f', os3, v4, rfl, nf3, e3, hf3, hok3, hlen3⟩
          walk_at "rd"
          exact k f' os3 H3 nf3 e3 hf3 hok3 hlen3

theorem vsI_ins (os : Im) (n : Nat) (o : Option Int) : (vsI os).take n ++ [optV o] ++ (vsI os).drop n = vsI (os.take n ++ [o] ++ os.drop n) := by
  unfold vsI
  rw [List.map_append, List.map_append, List.map_take, List.map_drop]; rfl
def spRef : Sp := fun vs H Q _ => ∃ (l li : Addr) (os : Im), vs = [.ref l, .ref li] ∧ H l = some (Dk.DkO l) ∧ H li = some (.lst (vsI os)) ∧ os.length ≤ 900 ∧ ∀ H', Evl.Ex H H' → Q (.bl true) H'
theorem ok_law_refused {ad : Ad} (T : Txt K mg ad) : FnOk P w K mg base CX0 5 ad.a_law_refused ad.d_law_refused ["deck", "images"] (spRef) := by
  refine T.F_law_refused.ok sc_law_refused (fun vs H Q E h => ?_) (fun cdv A outer s H vs Q E hr h => ?_)
  · obtain ⟨l, li, os, rfl, h1, hli, hlen, k⟩ := h
    rfl
  · obtain ⟨l, li, os, rfl, h1, hli, hlen, k⟩ := h
    refine ⟨_, (pss_cons (ps_set (i := 2) sc_law_refused.nd rfl (Or.inl rfl) (pe_callTy Rd.c_list (by rfl) T.z_list (by decide +kernel) (pa_cons (pv 1) pa_nil)))
      (pss_cons (ps_expr (pe_bm PySem.F.plainAttrs_list PySem.F.slot_list_insert PySem.F.type_list_insert Rd.mt_ins (pv 2) (pa_cons (pe_call (ok_law_take T) (hr.mono (by decide)) rfl T.m_law_take T.F_law_take.kp T.b_law_take .nil pass0 (pa_cons (pv 0) (pa_cons (pe_op op_add (pe_callB Rd.c_len (by rfl) T.z_len (by decide +kernel) (pa_cons (pv 2) pa_nil)) pe_int) pa_nil))) (pa_cons (pe_op op_sub (pe_un un_neg pe_int) (pe_op op_mul (pe_call (ok_law_take T) (hr.mono (by decide)) rfl T.m_law_take T.F_law_take.kp T.b_law_take .nil pass0 (pa_cons (pv 0) (pa_cons pe_int pa_nil))) (pe_op op_pow pe_int pe_int))) pa_nil))))
      (pss_cons (ps_try_as (i := 3) (tb := fun W => (tDrop (tMakeS _ _ (WE W) _))) (ts := fun a cls d => (tRet (tAndV (tCB (rIsD K cls d a) _) (tCB (rIsD K cls d a) _)))) (Wout := fun _ _ _ _ => False) rfl rfl sc_law_refused.nd rfl rfl ⟨rfl, by decide, Or.inl T.mg_InvalidMap⟩ takes0 (fun W pn xe tk hp => (pss_one (ps_expr (pe_makeS T.mk_CodeMap (ok_CodeMap_init_ T) (hr.mono (by decide)) rfl T.mg_CodeMap T.b_CodeMap_init_ (fun σ => passAt tk σ) (pa_cons (pv 2) pa_nil))))) (fun a oe cls d pn hz hf => (pss_one (ps_ret (pe_and (pe_callB (call_isD hz hf) (by rfl) T.z_isinstance (by decide +kernel) (pa_cons (pv 3) (pa_cons (pe_glob (v := .ref ad.c_BridgeError) rfl T.mg_BridgeError rfl) pa_nil))) (pe_one (pe_callB (call_isD hz hf) (by rfl) T.z_isinstance (by decide +kernel) (pa_cons (pv 3) (pa_cons (pe_bltn rfl T.z_ValueError (by decide +kernel) (v := .ty "ValueError") rfl) pa_nil)))))))))
      (pss_one (ps_ret pe_bl))))), ?_⟩
    try dsimp only [L2.cxOf, L2.Cx.nox, L2.Cx.wish]
    change (_ : TS) _ ([some (.ref l), some (.ref li), none, none] : St) _
    have cl_CodeMap := T.cl_CodeMap
    have n_CodeMap_images := T.n_CodeMap_images
    have hl := vsI_len os
    walk_at "rd"
    refine Rd.listOf (by walk_at "sq") fun f H1 nf e1 hf => ?_
    walk_at "rd"
    intro n n0 n1
    walk_at "rd"
    intro m m0 m3
    walk_at "rd"
    refine Rd.insert (i := n) hf (by omega) (by omega) ?_
    rw [show V.int (-1 - m * 100000000000000000000) = optV (some (-1 - m * 100000000000000000000)) from rfl, vsI_ins]
    walk_at "rd"
    refine Rd.xmk fun x dx H2 e2 nx hx => ?_
    have h2 : H2 f = some (.lst (vsI (os.take n.toNat ++ [some (-1 - m * 100000000000000000000)] ++ os.drop n.toNat))) := e2 _ _ upd_same
    have hmem : some (-1 - m * 100000000000000000000) ∈ os.take n.toNat ++ [some (-1 - m * 100000000000000000000)] ++ os.drop n.toNat := by simp
    have eH : Evl.Ex H H2 := (Evl.Ex.mut e1 nf).trans e2
    refine ⟨x, dx, f, _, rfl, hx, h2, by simp; omega, fun _ d H3 e3 hd => ?_, fun good => ?_⟩
    · refine ⟨true, T.em_InvalidMap_InvalidMap, fun _ a na => ?_, fun q => Bool.noConfusion q⟩
      walk_at "rd"
      refine Rd.isD T.xd_InvalidMap hd (.own _) T.kt_InvalidMap_BridgeError ?_
      walk_at "rd"
      refine Rd.isD T.xd_InvalidMap hd (.ty _) T.kt_InvalidMap_ValueError ?_
      walk_at "rd"
      exact k _ (eH.trans e3)
    · have := good _ hmem
      omega

theorem cimg_comp (os ps : Im) (c : Int) : cimg (compC os ps) c = (cimg os c).bind (cimg ps) := by
  unfold cimg compC
  split
  · rw [List.getElem?_map]
    cases os[c.toNat]? with
    | none => rfl
    | some o => cases o <;> rfl
  · rfl
theorem cimg_flat (os : Im) (c : Int) : cimg (flatC os) c = (cimg os c).map fun _ => 0 := by
  unfold cimg flatC
  split
  · rw [List.getElem?_map]
    cases os[c.toNat]? with
    | none => rfl
    | some o => rfl
  · rfl
theorem cimg_dom (os : Im) (c : Int) : cimg (domC os) c = (cimg os c).map fun _ => c := by
  unfold cimg domC
  split
  · rename_i h
    rw [List.getElem?_map]
    by_cases hi : c.toNat < os.length
    · rw [List.getElem?_range hi, Option.map_some, List.getElem?_eq_getElem hi]
      show Option.map (fun _ => ((c.toNat : Nat) : Int)) _ = Option.map (fun _ => c) _
      rw [Int.toNat_of_nonneg h]
    · rw [List.getElem?_eq_none (by rw [List.length_range]; omega), List.getElem?_eq_none (by omega)]
      rfl
  · rfl
theorem len_comp (os ps : Im) : (compC os ps).length = os.length := by unfold compC; rw [List.length_map]
theorem len_dom (os : Im) : (domC os).length = os.length := by unfold domC; rw [List.length_map, List.length_range]
theorem len_flat (os : Im) : (flatC os).length = os.length := by unfold flatC; rw [List.length_map]
theorem code_item {i : Nat} {y : V} (h : (rgV (-3) 21 ++ [V.int 100000000000000000000, V.int (100000000000000000000 + 5), V.int (-100000000000000000000)])[i]? = some y) : ∃ c : Int, y = .int c := by
  rcases List.mem_append.mp (List.mem_of_getElem? h) with h | h
  · obtain ⟨j, _, e⟩ := List.mem_map.mp h
    exact ⟨_, e.symm⟩
  · simp at h
    rcases h with h | h | h <;> exact ⟨_, h⟩
def spRight (C : Addr) (K : PySem.W.Frag) : Sp := fun vs H Q _ => ∃ (lf ls o t : Addr) (os ps : Im), vs = [.ref lf, .ref ls, .ref o, .ref t] ∧ H lf = some (.lst (vsI os)) ∧ H ls = some (.lst (vsI ps)) ∧ CodeAt K C H o os ∧ CodeAt K C H t ps ∧ ∀ H', Evl.Ex H H' → Q (.bl true) H'
theorem x_at {K : PySem.W.Frag} {H : Hp} {Q : VK} {E : XK} {l : Addr} {os : Im} {c : Option Int} (h : H l = some (.lst (vsI os))) (q : Q (optV (c.bind (cimg os))) H) : spAt K ([.ref l, optV c] ++ []) H Q E := ⟨l, os, c, rfl, h, q⟩
theorem x_same {H : Hp} {Q : VK} {E : XK} {a b : Option Int} (h : a = b) (q : Q (.bl true) H) : spSame ([optV a, optV b] ++ []) H Q E := by subst h; exact ⟨a, rfl, q⟩
theorem ok_law_images_right {ad : Ad} (T : Txt K mg ad) : FnOk P w K mg base CX0 6 ad.a_law_images_right ad.d_law_images_right ["first", "second", "one", "two"] (spRight ad.c_CodeMap K) := by
  refine T.F_law_images_right.ok sc_law_images_right (fun vs H Q E h => ?_) (fun cdv A outer s H vs Q E hr h => ?_)
  · obtain ⟨lf, ls, o, t, os, ps, rfl, hf, hs, hC, hD, k⟩ := h
    rfl
  · obtain ⟨lf, ls, o, t, os, ps, rfl, hf, hs, hC, hD, k⟩ := h
    refine ⟨_, (pss_cons (ps_set (i := 4) sc_law_images_right.nd rfl (Or.inl rfl) (pe_meth (pv 2) T.cl_CodeMap T.me_CodeMap_then (ok_CodeMap_then T) (hr.mono (by decide)) T.b_CodeMap_then .nil pass0 (pa_cons (pv 3) pa_nil)))
      (pss_cons (ps_set (i := 5) sc_law_images_right.nd rfl (Or.inl rfl) (pe_meth0 (pv 2) T.cl_CodeMap T.me_CodeMap_domain (ok_CodeMap_domain T) (hr.mono (by decide)) T.b_CodeMap_domain .nil pass0))
      (pss_cons (ps_set (i := 6) sc_law_images_right.nd rfl (Or.inl rfl) (pe_meth0 (pv 2) T.cl_CodeMap T.me_CodeMap_flat (ok_CodeMap_flat T) (hr.mono (by decide)) T.b_CodeMap_flat .nil pass0))
      (pss_cons (ps_for PassesOwn.never rfl (pi_tup (pe_tup (pa_cons (pv 4) (pa_cons (pv 5) (pa_cons (pv 6) pa_nil))))) (pg_name (i := 7) sc_law_images_right.nd rfl (Or.inl rfl)) (pss_one (ps_if (PW.pt (pw_or (pt_not (pt_val (pe_callB call_isi (by rfl) T.z_isinstance (by decide +kernel) (pa_cons (pv 7) (pa_cons (pe_glob (v := .ref ad.c_CodeMap) rfl T.mg_CodeMap rfl) pa_nil))))) (pw_or (pt_not (pt_val (pe_callB call_isi (by rfl) T.z_isinstance (by decide +kernel) (pa_cons (pe_fld (pv 7) rfl) (pa_cons (pe_bltn rfl T.z_list (by decide +kernel) (v := .ty "list") rfl) pa_nil))))) (pw_or1 (pt_cmpR op_ne (pe_callB Rd.c_len (by rfl) T.z_len (by decide +kernel) (pa_cons (pe_fld (pv 7) rfl) pa_nil)) (pe_callB Rd.c_len (by rfl) T.z_len (by decide +kernel) (pa_cons (pv 0) pa_nil)) (nomark _)))))) (pss_one (ps_ret pe_bl)) pss_nil)))
      (pss_cons (ps_for PassesOwn.never rfl (pi_list (pe_op op_cat (pe_listRg rfl (by rfl) T.z_list (prg_2 rfl T.z_range (pe_un un_neg pe_int) pe_int)) (pe_lst (pa_cons (pe_op op_pow pe_int pe_int) (pa_cons (pe_op op_add (pe_op op_pow pe_int pe_int) pe_int) (pa_cons (pe_un un_neg (pe_op op_pow pe_int pe_int)) pa_nil)))))) (pg_name (i := 8) sc_law_images_right.nd rfl (Or.inl rfl)) (pss_cons (ps_set (i := 9) sc_law_images_right.nd rfl (Or.inl rfl) (pe_call (ok_law_at T) (hr.mono (by decide)) rfl T.m_law_at T.F_law_at.kp T.b_law_at .nil pass0 (pa_cons (pv 0) (pa_cons (pv 8) pa_nil))))
      (pss_cons (ps_set (i := 10) sc_law_images_right.nd rfl (Or.inl rfl) pe_non)
      (pss_cons (ps_set (i := 11) sc_law_images_right.nd rfl (Or.inl rfl) pe_non)
      (Evl.pss_cut (ps_if (pt_cmpR op_notN1 (pv 9) pe_non (nomark _)) (pss_cons (ps_set (i := 10) sc_law_images_right.nd rfl (Or.inl rfl) (pv 8))
      (pss_one (ps_set (i := 11) sc_law_images_right.nd rfl (Or.inl rfl) pe_int))) pss_nil)
      (pss_cons (ps_if (PW.pt (pw_or (pt_not (pt_val (pe_call (ok_law_same T) (hr.mono (by decide)) rfl T.m_law_same T.F_law_same.kp T.b_law_same .nil pass0 (pa_cons (pe_meth (pv 2) T.cl_CodeMap T.me_CodeMap_image (ok_CodeMap_image T) (hr.mono (by decide)) T.b_CodeMap_image .nil pass0 (pa_cons (pv 8) pa_nil)) (pa_cons (pv 9) pa_nil))))) (pw_or1 (pt_not (pt_val (pe_call (ok_law_same T) (hr.mono (by decide)) rfl T.m_law_same T.F_law_same.kp T.b_law_same .nil pass0 (pa_cons (pe_meth (pv 4) T.cl_CodeMap T.me_CodeMap_image (ok_CodeMap_image T) (hr.mono (by decide)) T.b_CodeMap_image .nil pass0 (pa_cons (pv 8) pa_nil)) (pa_cons (pe_call (ok_law_at T) (hr.mono (by decide)) rfl T.m_law_at T.F_law_at.kp T.b_law_at .nil pass0 (pa_cons (pv 1) (pa_cons (pv 9) pa_nil))) pa_nil)))))))) (pss_one (ps_ret pe_bl)) pss_nil)
      (pss_one (ps_if (PW.pt (pw_or (pt_not (pt_val (pe_call (ok_law_same T) (hr.mono (by decide)) rfl T.m_law_same T.F_law_same.kp T.b_law_same .nil pass0 (pa_cons (pe_meth (pv 5) T.cl_CodeMap T.me_CodeMap_image (ok_CodeMap_image T) (hr.mono (by decide)) T.b_CodeMap_image .nil pass0 (pa_cons (pv 8) pa_nil)) (pa_cons (pv 10) pa_nil))))) (pw_or1 (pt_not (pt_val (pe_call (ok_law_same T) (hr.mono (by decide)) rfl T.m_law_same T.F_law_same.kp T.b_law_same .nil pass0 (pa_cons (pe_meth (pv 6) T.cl_CodeMap T.me_CodeMap_image (ok_CodeMap_image T) (hr.mono (by decide)) T.b_CodeMap_image .nil pass0 (pa_cons (pv 8) pa_nil)) (pa_cons (pv 11) pa_nil)))))))) (pss_one (ps_ret pe_bl)) pss_nil))))))))
      (pss_one (ps_ret pe_bl))))))), ?_⟩
    try dsimp only [L2.cxOf, L2.Cx.nox, L2.Cx.wish]
    change (_ : TS) _ ([some (.ref lf), some (.ref ls), some (.ref o), some (.ref t), none, none, none, none, none, none, none, none] : St) _
    have cl_CodeMap := T.cl_CodeMap
    have n_CodeMap_images := T.n_CodeMap_images
    walk_at "rd"
    refine m_code hC no_CodeMap_then ?_
    walk_at "rd"
    refine ⟨o, t, os, ps, rfl, hC, hD, fun b H1 e1 nb hb => ?_⟩
    walk_at "rd"
    refine m_code (hC.mono e1) no_CodeMap_domain ?_
    walk_at "rd"
    refine ⟨o, os, rfl, hC.mono e1, fun d H2 e2 nd hd => ?_⟩
    walk_at "rd"
    refine m_code ((hC.mono e1).mono e2) no_CodeMap_flat ?_
    walk_at "rd"
    refine ⟨o, os, rfl, (hC.mono e1).mono e2, fun f H3 e3 nf hfl => ?_⟩
    walk_at "rd"
    refine Rd.xtup rfl fun p H4 np e4 hp => ?_
    have hb4 := ((hb.mono e2).mono e3).mono e4
    have hd4 := (hd.mono e3).mono e4
    have hf4 := hfl.mono e4
    have e14 := ((e1.trans e2).trans e3).trans e4
    have hlen := vsI_len os
    refine Rd.xft (SqT.of hp) (fun i σ H' => ∃ v7, σ = [some (.ref lf), some (.ref ls), some (.ref o), some (.ref t), some (.ref b), some (.ref d), some (.ref f), v7, none, none, none, none] ∧ H' = H4) ⟨none, rfl, rfl⟩ (fun i σ H' _ ⟨_, _, e⟩ => by rw [e]; exact SqT.of hp) ?_ ?_
    · rintro i y σ Hc hi ⟨v7, rfl, rfl⟩
      have hy : ∃ m zs, y = .ref m ∧ CodeAt K ad.c_CodeMap Hc m zs ∧ zs.length = os.length := by
        match i, hi with
        | 0, hi => cases hi; exact ⟨_, _, rfl, hb4, len_comp _ _⟩
        | 1, hi => cases hi; exact ⟨_, _, rfl, hd4, len_dom _⟩
        | 2, hi => cases hi; exact ⟨_, _, rfl, hf4, len_flat _⟩
        | i + 3, hi => simp at hi
      obtain ⟨m, zs, rfl, hm, hmlen⟩ := hy
      obtain ⟨⟨dx, l, h1, h2⟩, ok⟩ := hm
      have hzs := vsI_len zs
      walk_at "rd"
      refine Rd.isiOwn h1 T.cl_CodeMap T.is_CodeMap T.is_get T.is_tk T.io_CodeMap T.kt_CodeMap_CodeMap ?_
      walk_at "rd"
      exact ⟨_, rfl, rfl⟩
    · rintro σ Hc ⟨v7, rfl, rfl⟩
      walk_at "rd"
      refine Rd.xr2 (by omega) fun p5 H5 n5 e5 h5 => ?_
      walk_at "rd"
      refine Rd.xlst rfl fun p6 H6 n6 e6 h6 => ?_
      walk_at "rd"
      refine Rd.cat (e6 _ _ h5) h6 (by rw [rgV_length]; decide) fun p7 H7 n7 e7 h7 => ?_
      have e47 := (e5.trans e6).trans e7
      have hC7 := (hC.mono e14).mono e47
      have hb7 := hb4.mono e47
      have hd7 := hd4.mono e47
      have hf7 := hf4.mono e47
      have hlf := e47 _ _ (e14 _ _ hf)
      have hls := e47 _ _ (e14 _ _ hs)
      walk_at "rd"
      refine Rd.xfl (K := K) (SqL.of h7) (fun i σ H' => ∃ v8 v9 v10 v11, σ = [some (.ref lf), some (.ref ls), some (.ref o), some (.ref t), some (.ref b), some (.ref d), some (.ref f), v7, v8, v9, v10, v11] ∧ H' = H7) ⟨_, _, _, _, rfl, rfl⟩ (fun i σ H' _ ⟨_, _, _, _, _, e⟩ => by rw [e]; exact SqL.of h7) ?_ ?_
      · rintro i y σ Hd hi ⟨v8, v9, v10, v11, rfl, rfl⟩
        obtain ⟨c, rfl⟩ := code_item hi
        walk_at "rd"
        refine x_at (c := some c) hlf ?_
        rw [show (some c).bind (cimg os) = cimg os c from rfl]
        walk_at "rd"
        refine ⟨fun σ H' => σ = [some (.ref lf), some (.ref ls), some (.ref o), some (.ref t), some (.ref b), some (.ref d), some (.ref f), v7, some (.int c), some (optV (cimg os c)), some (optV ((cimg os c).map fun _ => c)), some (optV ((cimg os c).map fun _ => 0))] ∧ H' = Hd, ?_, ?_⟩
        · cases cimg os c with
          | none =>
            rw [optV_none]
            walk_at "rd"
            exact ⟨rfl, rfl⟩
          | some z =>
            rw [optV_some]
            walk_at "rd"
            exact ⟨rfl, rfl⟩
        · rintro σ He ⟨rfl, rfl⟩
          walk_at "rd"
          refine m_code hC7 no_CodeMap_image ?_
          walk_at "rd"
          refine x_cimg hC7 ?_
          walk_at "rd"
          refine x_same rfl ?_
          walk_at "rd"
          refine m_code hb7 no_CodeMap_image ?_
          walk_at "rd"
          refine x_cimg hb7 ?_
          walk_at "rd"
          refine x_at hls ?_
          walk_at "rd"
          refine x_same (cimg_comp _ _ _) ?_
          walk_at "rd"
          refine m_code hd7 no_CodeMap_image ?_
          walk_at "rd"
          refine x_cimg hd7 ?_
          walk_at "rd"
          refine x_same (cimg_dom _ _) ?_
          walk_at "rd"
          refine m_code hf7 no_CodeMap_image ?_
          walk_at "rd"
          refine x_cimg hf7 ?_
          walk_at "rd"
          refine x_same (cimg_flat _ _) ?_
          walk_at "rd"
          exact ⟨_, _, _, _, rfl, rfl⟩
      · rintro σ Hd ⟨v8, v9, v10, v11, rfl, rfl⟩
        walk_at "rd"
        exact k _ (e14.trans e47)

def unl (os ps : Im) (i : Nat) : Bool := decide (cimg os i ≠ cimg ps i)
theorem diff_head (os ps : Im) : diffC os ps = (((List.range (max os.length ps.length)).filter (unl os ps)).map fun (i : Nat) => (i : Int)).head? := by
  rw [List.head?_map, List.head?_filter]
  rfl
theorem diff_comm (os ps : Im) : diffC ps os = diffC os ps := by
  unfold diffC
  rw [Nat.max_comm]
  congr 2
  funext i
  exact decide_eq_decide.mpr ⟨fun h => h.symm, fun h => h.symm⟩
def shB (os ps : Im) (n : Nat) : Bool := (List.range n).any (unl os ps)
theorem shB_succ (os ps : Im) (n : Nat) : shB os ps (n + 1) = (shB os ps n || unl os ps n) := by
  unfold shB
  rw [List.range_succ, List.any_append]
  simp
theorem shB_diff (os ps : Im) : shB os ps (max os.length ps.length) = (diffC os ps).isSome := by
  unfold shB diffC
  rw [Option.isSome_map, Bool.eq_iff_iff, List.find?_isSome, List.any_eq_true]
  rfl
def dI : Option Int → PyData
  | none => .none
  | some i => .int i
theorem dp_im {K : PySem.W.Frag} {H : Hp} : ∀ os : Im, DpAll K H (vsI os) (os.map dI)
  | [] => .nil
  | none :: os => .cons .non (dp_im os)
  | some i :: os => .cons (.int i) (dp_im os)
theorem canLay_im : ∀ os : Im, PyData.canLayAll0 (os.map dI) = true
  | [] => rfl
  | none :: os => by rw [List.map_cons]; show (true && PyData.canLayAll0 (os.map dI)) = true; rw [canLay_im os]; rfl
  | some i :: os => by rw [List.map_cons]; show (true && PyData.canLayAll0 (os.map dI)) = true; rw [canLay_im os]; rfl
theorem depth_im : ∀ os : Im, PyData.depthAll (os.map dI) ≤ 3
  | [] => by decide
  | none :: os => by
    have h := depth_im os
    rw [List.map_cons]
    simp [dI, PyData.depthAll, PyData.depth] at h ⊢
    omega
  | some i :: os => by
    have h := depth_im os
    rw [List.map_cons]
    simp [dI, PyData.depthAll, PyData.depth] at h ⊢
    omega
theorem shaped_im (os : Im) : SeqAt.shaped (.list (os.map dI)) = true := by
  have h := depth_im os
  unfold SeqAt.shaped
  rw [show PyData.canLay0 (.list (os.map dI)) = PyData.canLayAll0 (os.map dI) from by simp [PyData.canLay0], canLay_im]
  simp [PyData.depth]
  omega
def spLaw (K : PySem.W.Frag) : Sp := fun vs H Q _ => ∃ (a : Addr) (ns : List Int), vs = [.ref a] ∧ SqL K H a (ns.map V.int) ∧ ns.length ≤ 63 ∧ ∀ H', Q (.bl true) H'
theorem ok_law {ad : Ad} (T : Txt K mg ad) : FnOk P w K mg base CX0 7 ad.a_law ad.d_law ["script"] (spLaw K) := by
  refine T.F_law.ok sc_law (fun vs H Q E h => ?_) (fun cdv A outer s H vs Q E hr h => ?_)
  · obtain ⟨a, ns, rfl, hS, hn, k⟩ := h
    rfl
  · obtain ⟨a, ns, rfl, hS, hn, k⟩ := h
    refine ⟨_, (pss_cons (ps_set (i := 1) sc_law.nd rfl (Or.inl rfl) (pe_call (ok_law_deck T) (hr.mono (by decide)) rfl T.m_law_deck T.F_law_deck.kp T.b_law_deck .nil pass0 (pa_cons (pv 0) (pa_cons pe_int (pa_cons pe_int pa_nil)))))
      (pss_cons (ps_set (i := 2) sc_law.nd rfl (Or.inr rfl) (pe_call (ok_law_images T) (hr.mono (by decide)) rfl T.m_law_images T.F_law_images.kp T.b_law_images .nil pass0 (pa_cons (pv 1) pa_nil)))
      (pss_cons (ps_set (i := 3) sc_law.nd rfl (Or.inr rfl) (pe_call (ok_law_near T) (hr.mono (by decide)) rfl T.m_law_near T.F_law_near.kp T.b_law_near .nil pass0 (pa_cons (pv 1) (pa_cons (pv 2) pa_nil))))
      (pss_cons (ps_set (i := 4) sc_law.nd rfl (Or.inl rfl) (pe_callTy Rd.c_list (by rfl) T.z_list (by decide +kernel) (pa_cons (pv 2) pa_nil)))
      (pss_cons (ps_set (i := 5) sc_law.nd rfl (Or.inl rfl) (pe_make T.mk_CodeMap (ok_CodeMap_init_ T) (hr.mono (by decide)) rfl T.mg_CodeMap T.b_CodeMap_init_ .nil passL (pa_cons (pv 4) pa_nil)))
      (pss_cons (ps_expr (pe_bm PySem.F.plainAttrs_list PySem.F.slot_list_append PySem.F.type_list_append mt_append (pv 4) (pa_cons pe_int pa_nil)))
      (pss_cons (ps_set (i := 6) sc_law.nd rfl (Or.inl rfl) (pe_make T.mk_CodeMap (ok_CodeMap_init_ T) (hr.mono (by decide)) rfl T.mg_CodeMap T.b_CodeMap_init_ .nil passL (pa_cons (pe_callTy Rd.c_list (by rfl) T.z_list (by decide +kernel) (pa_cons (pv 3) pa_nil)) pa_nil)))
      (pss_cons (ps_if (PW.pt (pw_or (pt_not (pt_val (pe_callB call_isi (by rfl) T.z_isinstance (by decide +kernel) (pa_cons (pe_fld (pv 5) rfl) (pa_cons (pe_bltn rfl T.z_list (by decide +kernel) (v := .ty "list") rfl) pa_nil))))) (pw_or (pt_cmpR (op_neD hr.units) (pe_fld (pv 5) rfl) (pv 2) (nomark _)) (pw_or1 (pt_not (pt_val (pe_call (ok_law_images_right T) (hr.mono (by decide)) rfl T.m_law_images_right T.F_law_images_right.kp T.b_law_images_right .nil pass0 (pa_cons (pv 2) (pa_cons (pv 3) (pa_cons (pv 5) (pa_cons (pv 6) pa_nil))))))))))) (pss_one (ps_ret pe_bl)) pss_nil)
      (pss_cons (ps_set (i := 7) sc_law.nd rfl (Or.inl rfl) (pe_callB (Rd.c_max2 rfl) (by rfl) T.z_max (by decide +kernel) (pa_cons (pe_callB Rd.c_len (by rfl) T.z_len (by decide +kernel) (pa_cons (pv 2) pa_nil)) (pa_cons (pe_callB Rd.c_len (by rfl) T.z_len (by decide +kernel) (pa_cons (pv 3) pa_nil)) pa_nil))))
      (pss_cons (ps_setLc (i := 8) (own := [("code", 9)]) (g := gName 9) rfl sc_law.nd rfl rfl (sw_true rfl rfl rfl (by decide +kernel)) (pi_range1 rfl T.z_range (pa_cons (pv 7) pa_nil)) (blkOk_by (N := ["script", "deck", "first", "second", "handed", "one", "two", "longer", "unlike", "code", "least", "found", "shown", "at"]) (sc := defScope s_law) (by decide +kernel)) (fun _ _ _ _ _ => (pg_name (i := 9) sc_law.nd rfl (Or.inl rfl))) (fun _ _ _ _ _ => (pts_one (pt_cmpR op_ne (pe_call (ok_law_at T) (hr.mono (by decide)) rfl T.m_law_at T.F_law_at.kp T.b_law_at .nil pass0 (pa_cons (pv 2) (pa_cons (pv 9) pa_nil))) (pe_call (ok_law_at T) (hr.mono (by decide)) rfl T.m_law_at T.F_law_at.kp T.b_law_at .nil pass0 (pa_cons (pv 3) (pa_cons (pv 9) pa_nil))) (nomark _)))) (fun _ _ _ _ _ => (pv 9)))
      (pss_cons (ps_set (i := 10) sc_law.nd rfl (Or.inl rfl) pe_non)
      (Evl.pss_cut (ps_if (pt_cmpR op_gt (pe_callB Rd.c_len (by rfl) T.z_len (by decide +kernel) (pa_cons (pv 8) pa_nil)) pe_int (nomark _)) (pss_one (ps_set (i := 10) sc_law.nd rfl (Or.inl rfl) (pe_ix ix_list (pv 8) pe_int (fun _ _ => rfl)))) pss_nil)
      (pss_cons (ps_if (PW.pt (pw_or (pt_not (pt_val (pe_call (ok_law_same T) (hr.mono (by decide)) rfl T.m_law_same T.F_law_same.kp T.b_law_same .nil pass0 (pa_cons (pe_call (ok_code_difference T) (hr.mono (by decide)) rfl T.m_code_difference T.F_code_difference.kp T.b_code_difference .nil pass0 (pa_cons (pv 5) (pa_cons (pv 6) pa_nil))) (pa_cons (pv 10) pa_nil))))) (pw_or1 (pt_not (pt_val (pe_call (ok_law_same T) (hr.mono (by decide)) rfl T.m_law_same T.F_law_same.kp T.b_law_same .nil pass0 (pa_cons (pe_call (ok_code_difference T) (hr.mono (by decide)) rfl T.m_code_difference T.F_code_difference.kp T.b_code_difference .nil pass0 (pa_cons (pv 6) (pa_cons (pv 5) pa_nil))) (pa_cons (pv 10) pa_nil)))))))) (pss_one (ps_ret pe_bl)) pss_nil)
      (pss_cons (ps_set (i := 11) sc_law.nd rfl (Or.inl rfl) (pe_call (ok_decisive_codes T) (hr.mono (by decide)) rfl T.m_decisive_codes T.F_decisive_codes.kp T.b_decisive_codes .nil pass0 (pa_cons (pv 5) (pa_cons (pv 6) pa_nil))))
      (pss_cons (ps_if (PW.pt (pw_or (pt_not (pt_val (pe_callB call_isi (by rfl) T.z_isinstance (by decide +kernel) (pa_cons (pv 11) (pa_cons (pe_bltn rfl T.z_list (by decide +kernel) (v := .ty "list") rfl) pa_nil))))) (pw_or1 (pt_cmpR op_gt (pe_callB Rd.c_len (by rfl) T.z_len (by decide +kernel) (pa_cons (pv 11) pa_nil)) (pv 7) (nomark _))))) (pss_one (ps_ret pe_bl)) pss_nil)
      (pss_cons (ps_set (i := 12) sc_law.nd rfl (Or.inl rfl) pe_bl)
      (pss_cons (ps_for PassesOwn.never rfl (pi_range1 rfl T.z_range (pa_cons (pe_callB Rd.c_len (by rfl) T.z_len (by decide +kernel) (pa_cons (pv 11) pa_nil)) pa_nil)) (pg_name (i := 13) sc_law.nd rfl (Or.inl rfl)) (pss_cons (ps_if (PW.pt (pw_or (pt_not (pt_val (pe_callB call_isi (by rfl) T.z_isinstance (by decide +kernel) (pa_cons (pe_ix ix_list (pv 11) (pv 13) (fun _ _ => rfl)) (pa_cons (pe_bltn rfl T.z_int (by decide +kernel) (v := .ty "int") rfl) pa_nil))))) (pw_or (pt_val (pe_callB call_isi (by rfl) T.z_isinstance (by decide +kernel) (pa_cons (pe_ix ix_list (pv 11) (pv 13) (fun _ _ => rfl)) (pa_cons (pe_bltn rfl T.z_bool (by decide +kernel) (v := .ty "bool") rfl) pa_nil)))) (pw_or1 (PW.pt (pw_and (pt_cmpR op_gt (pv 13) pe_int (nomark _)) (pw_and1 (pt_cmpR op_ge (pe_ix ix_list (pv 11) (pe_op op_sub (pv 13) pe_int) (fun _ _ => rfl)) (pe_ix ix_list (pv 11) (pv 13) (fun _ _ => rfl)) (nomark _))))))))) (pss_one (ps_ret pe_bl)) pss_nil)
      (pss_one (ps_set (i := 12) sc_law.nd rfl (Or.inl rfl) (pe_or (pv 12) (pe_one (pe_cmpR op_ne (pe_call (ok_law_at T) (hr.mono (by decide)) rfl T.m_law_at T.F_law_at.kp T.b_law_at .nil pass0 (pa_cons (pv 2) (pa_cons (pe_ix ix_list (pv 11) (pv 13) (fun _ _ => rfl)) pa_nil))) (pe_call (ok_law_at T) (hr.mono (by decide)) rfl T.m_law_at T.F_law_at.kp T.b_law_at .nil pass0 (pa_cons (pv 3) (pa_cons (pe_ix ix_list (pv 11) (pv 13) (fun _ _ => rfl)) pa_nil))) (nomark _))))))))
      (pss_one (ps_ret (pe_and (pe_cmpR op_eq (pv 12) (pe_cmpR op_notN1 (pv 10) pe_non (nomark _)) (nomark _)) (pe_and (pe_call (ok_law_refused T) (hr.mono (by decide)) rfl T.m_law_refused T.F_law_refused.kp T.b_law_refused .nil pass0 (pa_cons (pv 1) (pa_cons (pv 2) pa_nil))) (pe_one (pe_cmpR (op_eqD hr.units) (pe_fld (pv 5) rfl) (pv 2) (nomark _)))))))))))))))))))))))), ?_⟩
    try dsimp only [L2.cxOf, L2.Cx.nox, L2.Cx.wish]
    change (_ : TS) _ ([some (.ref a), none, none, none, none, none, none, none, none, none, none, none, none, none] : St) _
    have cl_CodeMap := T.cl_CodeMap
    have n_CodeMap_images := T.n_CodeMap_images
    walk_at "rd"
    refine ⟨a, ns, 16, 12, rfl, hS, hn, by decide, by decide, by decide, by decide, fun l hl => ?_⟩
    have hD : (upd H l (Dk.DkO l)) l = some (Dk.DkO l) := upd_same
    generalize upd H l (Dk.DkO l) = H0 at *
    walk_at "rd"
    refine ⟨l, rfl, hD, fun lf os H1 nf e1 hf hfo hfl => ?_⟩
    walk_at "rd"
    refine ⟨l, lf, os, rfl, e1 _ _ hD, hf, hfo, hfl, fun ls ps H2 ns2 e2 hs hso hsl => ?_⟩
    have hf2 := e2 _ _ hf
    walk_at "rd"
    refine Rd.listOf (by walk_at "sq") fun lh H3 nh e3 hh => ?_
    walk_at "rd"
    refine x_make (K := K) hh ⟨hfo, by omega⟩ fun o H4 e4 no hO hO' => ?_
    have hh4 := e4 _ _ hh
    walk_at "rd"
    refine Rd.append hh4 (by rw [vsI_len]; omega) ?_
    have hO5 : CodeAt K ad.c_CodeMap (upd H4 lh (.lst (vsI os ++ [.int 3]))) o os := hO' _ _ _ hh
    have e25 : Evl.Ex H2 (upd H4 lh (.lst (vsI os ++ [.int 3]))) := Evl.Ex.mut (e3.trans e4) nh
    generalize upd H4 lh (.lst (vsI os ++ [.int 3])) = H5 at *
    have hs5 := e25 _ _ hs
    walk_at "rd"
    refine Rd.listOf (by walk_at "sq") fun lk H6 nk e6 hk => ?_
    walk_at "rd"
    refine x_make (K := K) hk ⟨hso, by omega⟩ fun t H7 e7 nt hT _ => ?_
    have hO7 := (hO5.mono e6).mono e7
    have e57 := e6.trans e7
    have hf7 := e57 _ _ (e25 _ _ hf2)
    have hs7 := e57 _ _ hs5
    have hD7 : H7 l = some (Dk.DkO l) := e57 _ _ (e25 _ _ (e2 _ _ (e1 _ _ hD)))
    obtain ⟨⟨dxo, lo, hO71, hO72⟩, oko⟩ := id hO7
    walk_at "rd"
    refine Rd.neDr (Dt.ofL hO72 (dp_im os)) (Dt.ofL hf7 (dp_im os)) (shaped_im os) ?_
    walk_at "rd"
    refine ⟨lf, ls, o, t, os, ps, rfl, hf7, hs7, hO7, hT, fun H8 e8 => ?_⟩
    have hf8 := e8 _ _ hf7
    have hs8 := e8 _ _ hs7
    have hO8 := hO7.mono e8
    have hT8 := hT.mono e8
    have hlf := vsI_len os
    have hls := vsI_len ps
    walk_at "rd"
    rw [hlf, hls, max_nat]
    generalize hN : max os.length ps.length = N at *
    have hNb : N ≤ 13 := by omega
    refine Rd.xlcR (unl os ps) (fun i => .int (i : Int)) ⟨by omega, by omega⟩ (fun _ => rfl) ?_ ?_ fun lu H9 nu e9 hu => ?_
    · intro i Hc ec hi H' e' Q q
      have hfc := (ec.trans e') _ _ hf8
      have hsc := (ec.trans e') _ _ hs8
      walk_at "rd"
      refine ⟨lf, os, some (i : Int), rfl, hfc, ?_⟩
      dsimp only
      walk_at "rd"
      refine ⟨ls, ps, some (i : Int), rfl, hsc, ?_⟩
      refine neV ?_
      walk_at "rd"
      have hb : (!decide ((some (i : Int)).bind (cimg os) = (some (i : Int)).bind (cimg ps))) = unl os ps i := by
        show (!decide (cimg os i = cimg ps i)) = decide (cimg os i ≠ cimg ps i)
        by_cases h : cimg os i = cimg ps i
        · rw [decide_eq_true h, decide_eq_false (fun z => z h)]; rfl
        · rw [decide_eq_false h, decide_eq_true h]; rfl
      rw [hb]
      exact q _ (Evl.Ex.refl _)
    · intro i Hc ec hi _ H' e' Q q
      walk_at "rd"
      exact q _ (Evl.Ex.refl _)
    have hdh := diff_head os ps
    rw [hN] at hdh
    have hu2 : H9 lu = some (.lst (((List.range N).filter (unl os ps)).map fun (i : Nat) => V.int (i : Int))) := hu
    generalize (List.range N).filter (unl os ps) = ul at *
    have hO9 := hO8.mono e9
    have hT9 := hT8.mono e9
    have hf9 := e9 _ _ hf8
    have hs9 := e9 _ _ hs8
    have hD9 : H9 l = some (Dk.DkO l) := e9 _ _ (e8 _ _ hD7)
    walk_at "rd"
    refine ⟨fun σ H' => ∃ v9, σ = [some (.ref a), some (.ref l), some (.ref lf), some (.ref ls), some (.ref lh), some (.ref o), some (.ref t), some (.int N), some (.ref lu), v9, some (optV (diffC os ps)), none, none, none] ∧ H' = H9, ?_, ?_⟩
    · cases ul with
      | nil =>
        rw [hdh]
        walk_at "rd"
        exact ⟨_, rfl, rfl⟩
      | cons i r =>
        rw [hdh]
        walk_at "rd"
        refine Rd.ifT (by simp) ?_
        walk_at "rd"
        refine Rd.ixL (SqL.of hu2) (Rd.atI_i (v := .int (i : Int)) (by decide) rfl) ?_
        walk_at "rd"
        exact ⟨_, rfl, rfl⟩
    · rintro σ Hc ⟨v9, rfl, rfl⟩
      walk_at "rd"
      refine ⟨o, t, os, ps, rfl, hO9, hT9, ?_⟩
      walk_at "rd"
      refine x_same rfl ?_
      walk_at "rd"
      refine ⟨t, o, ps, os, rfl, hT9, hO9, ?_⟩
      walk_at "rd"
      refine x_same (diff_comm _ _) ?_
      walk_at "rd"
      refine ⟨o, t, os, ps, rfl, hO9, hT9, fun ld H10 nd e10 hd => ?_⟩
      rw [hN] at hd
      have hf10 := e10 _ _ hf9
      have hs10 := e10 _ _ hs9
      have hrl : (rgV 0 (N : Int)).length = N := by rw [rgV_length]; omega
      walk_at "rd"
      rw [hrl]
      refine Rd.xfr1 ⟨by omega, by omega⟩ (fun i σ H' => ∃ v13, σ = [some (.ref a), some (.ref l), some (.ref lf), some (.ref ls), some (.ref lh), some (.ref o), some (.ref t), some (.int N), some (.ref lu), v9, some (optV (diffC os ps)), some (.ref ld), some (.bl (shB os ps i)), v13] ∧ H' = H10) ⟨_, rfl, rfl⟩ ?_ ?_
      · rintro i σ Hd hi ⟨v13, rfl, rfl⟩
        have hat : ∀ j : Nat, j < N → atI (rgV 0 (N : Int)) (j : Int) = some (.int (j : Int)) := fun j hj => atI_nat (by
          unfold rgV
          rw [List.getElem?_map, List.getElem?_range (by omega)]
          show some (V.int (0 + (j : Int))) = _
          rw [Int.zero_add])
        have hati := hat i (by omega)
        walk_at "rd"
        refine Rd.ixL (SqL.of hd) hati ?_
        walk_at "rd"
        refine Rd.ixL (SqL.of hd) hati ?_
        walk_at "rd"
        refine Rd.ifd (fun c => ?_) (fun c => ?_)
        · have hp := hat (i - 1) (by omega)
          rw [show (((i - 1 : Nat)) : Int) = (i : Int) - 1 from by omega] at hp
          walk_at "rd"
          refine Rd.ixL (SqL.of hd) hp ?_
          walk_at "rd"
          refine Rd.ixL (SqL.of hd) hati ?_
          walk_at "rd"
          refine Rd.ifb (fun hb => ?_) (fun hb => ?_)
          · walk_at "rd"
            exact ⟨_, by rw [shB_succ, hb]; rfl, rfl⟩
          · walk_at "rd"
            refine Rd.ixL (SqL.of hd) hati ?_
            walk_at "rd"
            refine x_at (c := some (i : Int)) hf10 ?_
            walk_at "rd"
            refine Rd.ixL (SqL.of hd) hati ?_
            walk_at "rd"
            refine x_at (c := some (i : Int)) hs10 ?_
            refine neV ?_
            have hbb : (!decide ((some (i : Int)).bind (cimg os) = (some (i : Int)).bind (cimg ps))) = shB os ps (i + 1) := by
              rw [shB_succ, hb]
              show (!decide (cimg os i = cimg ps i)) = decide (cimg os i ≠ cimg ps i)
              by_cases h : cimg os i = cimg ps i
              · rw [decide_eq_true h, decide_eq_false (fun z => z h)]; rfl
              · rw [decide_eq_false h, decide_eq_true h]; rfl
            rw [hbb]
            walk_at "rd"
            exact ⟨_, rfl, rfl⟩
        · walk_at "rd"
          refine Rd.ifb (fun hb => ?_) (fun hb => ?_)
          · walk_at "rd"
            exact ⟨_, by rw [shB_succ, hb]; rfl, rfl⟩
          · walk_at "rd"
            refine Rd.ixL (SqL.of hd) hati ?_
            walk_at "rd"
            refine x_at (c := some (i : Int)) hf10 ?_
            walk_at "rd"
            refine Rd.ixL (SqL.of hd) hati ?_
            walk_at "rd"
            refine x_at (c := some (i : Int)) hs10 ?_
            refine neV ?_
            have hbb : (!decide ((some (i : Int)).bind (cimg os) = (some (i : Int)).bind (cimg ps))) = shB os ps (i + 1) := by
              rw [shB_succ, hb]
              show (!decide (cimg os i = cimg ps i)) = decide (cimg os i ≠ cimg ps i)
              by_cases h : cimg os i = cimg ps i
              · rw [decide_eq_true h, decide_eq_false (fun z => z h)]; rfl
              · rw [decide_eq_false h, decide_eq_true h]; rfl
            rw [hbb]
            walk_at "rd"
            exact ⟨_, rfl, rfl⟩
      · rintro σ Hd ⟨v13, rfl, rfl⟩
        have hsh := shB_diff os ps
        rw [hN] at hsh
        rw [Int.toNat_natCast, hsh]
        have eHd := e10
        have hOd := hO9.mono e10
        obtain ⟨⟨dxe, le, hOe1, hOe2⟩, oke⟩ := id hOd
        have hDd : Hd l = some (Dk.DkO l) := e10 _ _ hD9
        cases diffC os ps with
        | none =>
          rw [optV_none]
          walk_at "rd"
          refine Rd.ifT rfl ?_
          walk_at "rd"
          refine ⟨l, lf, os, rfl, hDd, hf10, by omega, fun H11 e11 => ?_⟩
          have hOe1' := e11 _ _ hOe1
          walk_at "rd"
          refine Rd.eqDr (Dt.ofL (e11 _ _ hOe2) (dp_im os)) (Dt.ofL (e11 _ _ hf10) (dp_im os)) (shaped_im os) ?_
          walk_at "rd"
          exact k _
        | some z =>
          rw [optV_some]
          walk_at "rd"
          refine Rd.ifT rfl ?_
          walk_at "rd"
          refine ⟨l, lf, os, rfl, hDd, hf10, by omega, fun H11 e11 => ?_⟩
          have hOe1' := e11 _ _ hOe1
          walk_at "rd"
          refine Rd.eqDr (Dt.ofL (e11 _ _ hOe2) (dp_im os)) (Dt.ofL (e11 _ _ hf10) (dp_im os)) (shaped_im os) ?_
          walk_at "rd"
          exact k _

end
theorem all_mk {K : PySem.W.Frag} {h : Heap} {mg : Str → Option Value} {fa : Addr} (X : K.In h) (G : h.Ns mainGlobals mg) (hfa : mg "law" = some (.ref fa))
    {c_BridgeError : Addr}
    {c_CodeMap : Addr}
    {c_InvalidMap : Addr}
    {nm_InvalidMap q_InvalidMap : Str} {N_InvalidMap : Addr} {bs_InvalidMap : List Value} {sn_InvalidMap : List Str} {sub_InvalidMap : List Value} {ab_InvalidMap : Bool} {col_InvalidMap : Option Bool} {dd_InvalidMap : Option Addr} {m0_InvalidMap m1_InvalidMap m2_InvalidMap m3_InvalidMap m5_InvalidMap : Option Value}
    {f_law_take : Addr} {oc_law_take kV_law_take dc_law_take pm_law_take cd_law_take ct_law_take : Value} {od_law_take an_law_take : Option Addr} {sl_law_take : Array (Option Value)}
    {f_law_deck : Addr} {oc_law_deck kV_law_deck dc_law_deck pm_law_deck cd_law_deck ct_law_deck : Value} {od_law_deck an_law_deck : Option Addr} {sl_law_deck : Array (Option Value)}
    {f_InvalidMap_init_ : Addr} {oc_InvalidMap_init_ kV_InvalidMap_init_ dc_InvalidMap_init_ pm_InvalidMap_init_ cd_InvalidMap_init_ ct_InvalidMap_init_ : Value} {od_InvalidMap_init_ an_InvalidMap_init_ : Option Addr} {sl_InvalidMap_init_ : Array (Option Value)}
    {f_CodeMap_init_ : Addr} {oc_CodeMap_init_ kV_CodeMap_init_ dc_CodeMap_init_ pm_CodeMap_init_ cd_CodeMap_init_ ct_CodeMap_init_ : Value} {od_CodeMap_init_ an_CodeMap_init_ : Option Addr} {sl_CodeMap_init_ : Array (Option Value)}
    {f_CodeMap_image : Addr} {oc_CodeMap_image kV_CodeMap_image dc_CodeMap_image pm_CodeMap_image cd_CodeMap_image ct_CodeMap_image : Value} {od_CodeMap_image an_CodeMap_image : Option Addr} {sl_CodeMap_image : Array (Option Value)}
    {f_CodeMap_then : Addr} {oc_CodeMap_then kV_CodeMap_then dc_CodeMap_then pm_CodeMap_then cd_CodeMap_then ct_CodeMap_then : Value} {od_CodeMap_then an_CodeMap_then : Option Addr} {sl_CodeMap_then : Array (Option Value)}
    {f_CodeMap_domain : Addr} {oc_CodeMap_domain kV_CodeMap_domain dc_CodeMap_domain pm_CodeMap_domain cd_CodeMap_domain ct_CodeMap_domain : Value} {od_CodeMap_domain an_CodeMap_domain : Option Addr} {sl_CodeMap_domain : Array (Option Value)}
    {f_CodeMap_flat : Addr} {oc_CodeMap_flat kV_CodeMap_flat dc_CodeMap_flat pm_CodeMap_flat cd_CodeMap_flat ct_CodeMap_flat : Value} {od_CodeMap_flat an_CodeMap_flat : Option Addr} {sl_CodeMap_flat : Array (Option Value)}
    {f_code_difference : Addr} {oc_code_difference kV_code_difference dc_code_difference pm_code_difference cd_code_difference ct_code_difference : Value} {od_code_difference an_code_difference : Option Addr} {sl_code_difference : Array (Option Value)}
    {f_decisive_codes : Addr} {oc_decisive_codes kV_decisive_codes dc_decisive_codes pm_decisive_codes cd_decisive_codes ct_decisive_codes : Value} {od_decisive_codes an_decisive_codes : Option Addr} {sl_decisive_codes : Array (Option Value)}
    {f_law_same : Addr} {oc_law_same kV_law_same dc_law_same pm_law_same cd_law_same ct_law_same : Value} {od_law_same an_law_same : Option Addr} {sl_law_same : Array (Option Value)}
    {f_law_images : Addr} {oc_law_images kV_law_images dc_law_images pm_law_images cd_law_images ct_law_images : Value} {od_law_images an_law_images : Option Addr} {sl_law_images : Array (Option Value)}
    {f_law_at : Addr} {oc_law_at kV_law_at dc_law_at pm_law_at cd_law_at ct_law_at : Value} {od_law_at an_law_at : Option Addr} {sl_law_at : Array (Option Value)}
    {f_law_near : Addr} {oc_law_near kV_law_near dc_law_near pm_law_near cd_law_near ct_law_near : Value} {od_law_near an_law_near : Option Addr} {sl_law_near : Array (Option Value)}
    {f_law_refused : Addr} {oc_law_refused kV_law_refused dc_law_refused pm_law_refused cd_law_refused ct_law_refused : Value} {od_law_refused an_law_refused : Option Addr} {sl_law_refused : Array (Option Value)}
    {f_law_images_right : Addr} {oc_law_images_right kV_law_images_right dc_law_images_right pm_law_images_right cd_law_images_right ct_law_images_right : Value} {od_law_images_right an_law_images_right : Option Addr} {sl_law_images_right : Array (Option Value)}
    {f_law : Addr} {oc_law kV_law dc_law pm_law cd_law ct_law : Value} {od_law an_law : Option Addr} {sl_law : Array (Option Value)}
    (A_BridgeError : PySem.W.nsIn K mainGlobals "BridgeError" = some (some (.ref c_BridgeError)))
    (A_CodeMap : PySem.W.nsIn K mainGlobals "CodeMap" = some (some (.ref c_CodeMap)))
    (A_InvalidMap : PySem.W.nsIn K mainGlobals "InvalidMap" = some (some (.ref c_InvalidMap)))
    (a_law_take : PySem.W.nsIn K mainGlobals "_law_take" = some (some (.ref f_law_take)))
    (l_law_take : K.lookup f_law_take = some ⟨oc_law_take, od_law_take, .func (PySem.W.fnOf "_law_take" "_law_take" (defArgs s_law_take) (defBody s_law_take) (defScope s_law_take) .none kV_law_take dc_law_take pm_law_take an_law_take cd_law_take ct_law_take), sl_law_take⟩)
    (c_law_take : PySem.W.codeIn K cd_law_take "_law_take" = true)
    (k_law_take : PySem.W.keepIn K (.ref f_law_take) = true)
    (a_law_deck : PySem.W.nsIn K mainGlobals "_law_deck" = some (some (.ref f_law_deck)))
    (l_law_deck : K.lookup f_law_deck = some ⟨oc_law_deck, od_law_deck, .func (PySem.W.fnOf "_law_deck" "_law_deck" (defArgs s_law_deck) (defBody s_law_deck) (defScope s_law_deck) .none kV_law_deck dc_law_deck pm_law_deck an_law_deck cd_law_deck ct_law_deck), sl_law_deck⟩)
    (c_law_deck : PySem.W.codeIn K cd_law_deck "_law_deck" = true)
    (k_law_deck : PySem.W.keepIn K (.ref f_law_deck) = true)
    (a_InvalidMap_init_ : PySem.W.findIn K (.ref c_InvalidMap) "__init__" = some (some (.ref f_InvalidMap_init_)))
    (i_InvalidMap_init_ : PySem.W.isFn K (.ref f_InvalidMap_init_) = true)
    (l_InvalidMap_init_ : K.lookup f_InvalidMap_init_ = some ⟨oc_InvalidMap_init_, od_InvalidMap_init_, .func (PySem.W.fnOf "__init__" "InvalidMap.__init__" (defArgs s_InvalidMap_init_) (defBody s_InvalidMap_init_) (defScope s_InvalidMap_init_) .none kV_InvalidMap_init_ dc_InvalidMap_init_ pm_InvalidMap_init_ an_InvalidMap_init_ cd_InvalidMap_init_ ct_InvalidMap_init_), sl_InvalidMap_init_⟩)
    (c_InvalidMap_init_ : PySem.W.codeIn K cd_InvalidMap_init_ "InvalidMap.__init__" = true)
    (k_InvalidMap_init_ : PySem.W.keepIn K (.ref f_InvalidMap_init_) = true)
    (a_CodeMap_init_ : PySem.W.findIn K (.ref c_CodeMap) "__init__" = some (some (.ref f_CodeMap_init_)))
    (i_CodeMap_init_ : PySem.W.isFn K (.ref f_CodeMap_init_) = true)
    (l_CodeMap_init_ : K.lookup f_CodeMap_init_ = some ⟨oc_CodeMap_init_, od_CodeMap_init_, .func (PySem.W.fnOf "__init__" "CodeMap.__init__" (defArgs s_CodeMap_init_) (defBody s_CodeMap_init_) (defScope s_CodeMap_init_) .none kV_CodeMap_init_ dc_CodeMap_init_ pm_CodeMap_init_ an_CodeMap_init_ cd_CodeMap_init_ ct_CodeMap_init_), sl_CodeMap_init_⟩)
    (c_CodeMap_init_ : PySem.W.codeIn K cd_CodeMap_init_ "CodeMap.__init__" = true)
    (k_CodeMap_init_ : PySem.W.keepIn K (.ref f_CodeMap_init_) = true)
    (a_CodeMap_image : PySem.W.findIn K (.ref c_CodeMap) "image" = some (some (.ref f_CodeMap_image)))
    (i_CodeMap_image : PySem.W.isFn K (.ref f_CodeMap_image) = true)
    (l_CodeMap_image : K.lookup f_CodeMap_image = some ⟨oc_CodeMap_image, od_CodeMap_image, .func (PySem.W.fnOf "image" "CodeMap.image" (defArgs s_CodeMap_image) (defBody s_CodeMap_image) (defScope s_CodeMap_image) .none kV_CodeMap_image dc_CodeMap_image pm_CodeMap_image an_CodeMap_image cd_CodeMap_image ct_CodeMap_image), sl_CodeMap_image⟩)
    (c_CodeMap_image : PySem.W.codeIn K cd_CodeMap_image "CodeMap.image" = true)
    (k_CodeMap_image : PySem.W.keepIn K (.ref f_CodeMap_image) = true)
    (a_CodeMap_then : PySem.W.findIn K (.ref c_CodeMap) "then" = some (some (.ref f_CodeMap_then)))
    (i_CodeMap_then : PySem.W.isFn K (.ref f_CodeMap_then) = true)
    (l_CodeMap_then : K.lookup f_CodeMap_then = some ⟨oc_CodeMap_then, od_CodeMap_then, .func (PySem.W.fnOf "then" "CodeMap.then" (defArgs s_CodeMap_then) (defBody s_CodeMap_then) (defScope s_CodeMap_then) .none kV_CodeMap_then dc_CodeMap_then pm_CodeMap_then an_CodeMap_then cd_CodeMap_then ct_CodeMap_then), sl_CodeMap_then⟩)
    (c_CodeMap_then : PySem.W.codeIn K cd_CodeMap_then "CodeMap.then" = true)
    (k_CodeMap_then : PySem.W.keepIn K (.ref f_CodeMap_then) = true)
    (a_CodeMap_domain : PySem.W.findIn K (.ref c_CodeMap) "domain" = some (some (.ref f_CodeMap_domain)))
    (i_CodeMap_domain : PySem.W.isFn K (.ref f_CodeMap_domain) = true)
    (l_CodeMap_domain : K.lookup f_CodeMap_domain = some ⟨oc_CodeMap_domain, od_CodeMap_domain, .func (PySem.W.fnOf "domain" "CodeMap.domain" (defArgs s_CodeMap_domain) (defBody s_CodeMap_domain) (defScope s_CodeMap_domain) .none kV_CodeMap_domain dc_CodeMap_domain pm_CodeMap_domain an_CodeMap_domain cd_CodeMap_domain ct_CodeMap_domain), sl_CodeMap_domain⟩)
    (c_CodeMap_domain : PySem.W.codeIn K cd_CodeMap_domain "CodeMap.domain" = true)
    (k_CodeMap_domain : PySem.W.keepIn K (.ref f_CodeMap_domain) = true)
    (a_CodeMap_flat : PySem.W.findIn K (.ref c_CodeMap) "flat" = some (some (.ref f_CodeMap_flat)))
    (i_CodeMap_flat : PySem.W.isFn K (.ref f_CodeMap_flat) = true)
    (l_CodeMap_flat : K.lookup f_CodeMap_flat = some ⟨oc_CodeMap_flat, od_CodeMap_flat, .func (PySem.W.fnOf "flat" "CodeMap.flat" (defArgs s_CodeMap_flat) (defBody s_CodeMap_flat) (defScope s_CodeMap_flat) .none kV_CodeMap_flat dc_CodeMap_flat pm_CodeMap_flat an_CodeMap_flat cd_CodeMap_flat ct_CodeMap_flat), sl_CodeMap_flat⟩)
    (c_CodeMap_flat : PySem.W.codeIn K cd_CodeMap_flat "CodeMap.flat" = true)
    (k_CodeMap_flat : PySem.W.keepIn K (.ref f_CodeMap_flat) = true)
    (a_code_difference : PySem.W.nsIn K mainGlobals "code_difference" = some (some (.ref f_code_difference)))
    (l_code_difference : K.lookup f_code_difference = some ⟨oc_code_difference, od_code_difference, .func (PySem.W.fnOf "code_difference" "code_difference" (defArgs s_code_difference) (defBody s_code_difference) (defScope s_code_difference) .none kV_code_difference dc_code_difference pm_code_difference an_code_difference cd_code_difference ct_code_difference), sl_code_difference⟩)
    (c_code_difference : PySem.W.codeIn K cd_code_difference "code_difference" = true)
    (k_code_difference : PySem.W.keepIn K (.ref f_code_difference) = true)
    (a_decisive_codes : PySem.W.nsIn K mainGlobals "decisive_codes" = some (some (.ref f_decisive_codes)))
    (l_decisive_codes : K.lookup f_decisive_codes = some ⟨oc_decisive_codes, od_decisive_codes, .func (PySem.W.fnOf "decisive_codes" "decisive_codes" (defArgs s_decisive_codes) (defBody s_decisive_codes) (defScope s_decisive_codes) .none kV_decisive_codes dc_decisive_codes pm_decisive_codes an_decisive_codes cd_decisive_codes ct_decisive_codes), sl_decisive_codes⟩)
    (c_decisive_codes : PySem.W.codeIn K cd_decisive_codes "decisive_codes" = true)
    (k_decisive_codes : PySem.W.keepIn K (.ref f_decisive_codes) = true)
    (a_law_same : PySem.W.nsIn K mainGlobals "_law_same" = some (some (.ref f_law_same)))
    (l_law_same : K.lookup f_law_same = some ⟨oc_law_same, od_law_same, .func (PySem.W.fnOf "_law_same" "_law_same" (defArgs s_law_same) (defBody s_law_same) (defScope s_law_same) .none kV_law_same dc_law_same pm_law_same an_law_same cd_law_same ct_law_same), sl_law_same⟩)
    (c_law_same : PySem.W.codeIn K cd_law_same "_law_same" = true)
    (k_law_same : PySem.W.keepIn K (.ref f_law_same) = true)
    (a_law_images : PySem.W.nsIn K mainGlobals "_law_images" = some (some (.ref f_law_images)))
    (l_law_images : K.lookup f_law_images = some ⟨oc_law_images, od_law_images, .func (PySem.W.fnOf "_law_images" "_law_images" (defArgs s_law_images) (defBody s_law_images) (defScope s_law_images) .none kV_law_images dc_law_images pm_law_images an_law_images cd_law_images ct_law_images), sl_law_images⟩)
    (c_law_images : PySem.W.codeIn K cd_law_images "_law_images" = true)
    (k_law_images : PySem.W.keepIn K (.ref f_law_images) = true)
    (a_law_at : PySem.W.nsIn K mainGlobals "_law_at" = some (some (.ref f_law_at)))
    (l_law_at : K.lookup f_law_at = some ⟨oc_law_at, od_law_at, .func (PySem.W.fnOf "_law_at" "_law_at" (defArgs s_law_at) (defBody s_law_at) (defScope s_law_at) .none kV_law_at dc_law_at pm_law_at an_law_at cd_law_at ct_law_at), sl_law_at⟩)
    (c_law_at : PySem.W.codeIn K cd_law_at "_law_at" = true)
    (k_law_at : PySem.W.keepIn K (.ref f_law_at) = true)
    (a_law_near : PySem.W.nsIn K mainGlobals "_law_near" = some (some (.ref f_law_near)))
    (l_law_near : K.lookup f_law_near = some ⟨oc_law_near, od_law_near, .func (PySem.W.fnOf "_law_near" "_law_near" (defArgs s_law_near) (defBody s_law_near) (defScope s_law_near) .none kV_law_near dc_law_near pm_law_near an_law_near cd_law_near ct_law_near), sl_law_near⟩)
    (c_law_near : PySem.W.codeIn K cd_law_near "_law_near" = true)
    (k_law_near : PySem.W.keepIn K (.ref f_law_near) = true)
    (a_law_refused : PySem.W.nsIn K mainGlobals "_law_refused" = some (some (.ref f_law_refused)))
    (l_law_refused : K.lookup f_law_refused = some ⟨oc_law_refused, od_law_refused, .func (PySem.W.fnOf "_law_refused" "_law_refused" (defArgs s_law_refused) (defBody s_law_refused) (defScope s_law_refused) .none kV_law_refused dc_law_refused pm_law_refused an_law_refused cd_law_refused ct_law_refused), sl_law_refused⟩)
    (c_law_refused : PySem.W.codeIn K cd_law_refused "_law_refused" = true)
    (k_law_refused : PySem.W.keepIn K (.ref f_law_refused) = true)
    (a_law_images_right : PySem.W.nsIn K mainGlobals "_law_images_right" = some (some (.ref f_law_images_right)))
    (l_law_images_right : K.lookup f_law_images_right = some ⟨oc_law_images_right, od_law_images_right, .func (PySem.W.fnOf "_law_images_right" "_law_images_right" (defArgs s_law_images_right) (defBody s_law_images_right) (defScope s_law_images_right) .none kV_law_images_right dc_law_images_right pm_law_images_right an_law_images_right cd_law_images_right ct_law_images_right), sl_law_images_right⟩)
    (c_law_images_right : PySem.W.codeIn K cd_law_images_right "_law_images_right" = true)
    (k_law_images_right : PySem.W.keepIn K (.ref f_law_images_right) = true)
    (a_law : PySem.W.nsIn K mainGlobals "law" = some (some (.ref f_law)))
    (l_law : K.lookup f_law = some ⟨oc_law, od_law, .func (PySem.W.fnOf "law" "law" (defArgs s_law) (defBody s_law) (defScope s_law) .none kV_law dc_law pm_law an_law cd_law ct_law), sl_law⟩)
    (c_law : PySem.W.codeIn K cd_law "law" = true)
    (k_law : PySem.W.keepIn K (.ref f_law) = true)
    (pg_CodeMap : PySem.W.plainGet K c_CodeMap Str.empty = true)
    (hd_CodeMap : PySem.W.hasDictIn K c_CodeMap = true)
    (po_CodeMap : PySem.W.plainOver K c_CodeMap = true)
    (sa_CodeMap : PySem.W.findIn K (.ref c_CodeMap) "__setattr__" = some (some (.builtin "object.__setattr__")))
    (mk_CodeMap : PySem.W.makesIn K c_CodeMap = true)
    (kc_CodeMap : PySem.W.keepIn K (.ref c_CodeMap) = true)
    (n_CodeMap_images : PySem.W.findIn K (.ref c_CodeMap) "images" = some none)
    (ex_BridgeError : PySem.W.subIn K (.ref c_BridgeError) (.type "BaseException") = some true)
    (ty_BridgeError : PySem.W.typeIn K (.ref c_BridgeError) = some (.type "type"))
    (yd_BridgeError : PySem.W.hasDictIn K c_BridgeError = true)
    (og_BridgeError : PySem.W.specialIn K (.ref c_BridgeError) "__getattribute__" = some (some (.builtin "type.__getattribute__")))
    (or_BridgeError : PySem.W.readsIn K c_BridgeError (.type "type") = true)
    (of_BridgeError : PySem.W.findCls K (.ref c_BridgeError) (.type "type") "__init__" = some (.val (.builtin "ValueError.__init__")))
    (ex_InvalidMap : PySem.W.subIn K (.ref c_InvalidMap) (.type "BaseException") = some true)
    (ty_InvalidMap : PySem.W.typeIn K (.ref c_InvalidMap) = some (.type "type"))
    (yd_InvalidMap : PySem.W.hasDictIn K c_InvalidMap = true)
    (xL_InvalidMap : K.lookup c_InvalidMap = some (excClassObj nm_InvalidMap q_InvalidMap c_InvalidMap N_InvalidMap bs_InvalidMap [.ref c_BridgeError, .type "ValueError", .type "Exception", .type "BaseException", .type "object"] true sn_InvalidMap sub_InvalidMap ab_InvalidMap col_InvalidMap dd_InvalidMap m0_InvalidMap m1_InvalidMap m2_InvalidMap m3_InvalidMap m5_InvalidMap "ValueError.__new__"))
    (sx_InvalidMap : PySem.W.findIn K (.ref c_InvalidMap) "__setattr__" = some (some (.builtin "object.__setattr__")))
    (kx_InvalidMap : PySem.W.keepIn K (.ref c_InvalidMap) = true)
    (tf_InvalidMap : PySem.W.typeIn K (.ref f_InvalidMap_init_) = some (.type "function"))
    (ya_InvalidMap : PySem.W.findIn K (.ref c_InvalidMap) "__getattribute__" = some (some (.builtin "BaseException.__getattribute__")))
    (yg_InvalidMap : PySem.W.findIn K (.ref c_InvalidMap) "__getattr__" = some none)
    (yk_InvalidMap : PySem.W.findIn K (.ref c_InvalidMap) "__class__" = some (some (.builtin "object.__class__")))
    (yo_InvalidMap : PySem.W.mroIn K c_InvalidMap (.type "object") = some true)
    (nx_InvalidMap_what : PySem.W.findIn K (.ref c_InvalidMap) "what" = some none)
    (sb_InvalidMap_InvalidMap : PySem.W.subIn K (.ref c_InvalidMap) (.ref c_InvalidMap) = some true)
    (kt_InvalidMap_BridgeError : PySem.W.kitOne K (.ref c_InvalidMap) (.ref c_BridgeError) = some true)
    (kt_InvalidMap_ValueError : PySem.W.kitOne K (.ref c_InvalidMap) (.type "ValueError") = some true)
    (kt_CodeMap_CodeMap : PySem.W.kitOne K (.ref c_CodeMap) (.ref c_CodeMap) = some true)
    (is_CodeMap : PySem.W.findIn K (.ref c_CodeMap) "__class__" = some (some (.builtin "object.__class__")))
    (io_CodeMap : PySem.W.mroIn K c_CodeMap (.type "object") = some true)
    (is_get : PySem.W.specialIn K (.builtin "object.__class__") "__get__" = some (some (.builtin "getset_descriptor.__get__")))
    (is_tk : PySem.W.takesIn K (.builtin "object.__class__") = some true)
    (z_ValueError : PySem.W.nsIn K mainGlobals "ValueError" = some none)
    (z_abs : PySem.W.nsIn K mainGlobals "abs" = some none)
    (z_bool : PySem.W.nsIn K mainGlobals "bool" = some none)
    (z_int : PySem.W.nsIn K mainGlobals "int" = some none)
    (z_isinstance : PySem.W.nsIn K mainGlobals "isinstance" = some none)
    (z_len : PySem.W.nsIn K mainGlobals "len" = some none)
    (z_list : PySem.W.nsIn K mainGlobals "list" = some none)
    (z_max : PySem.W.nsIn K mainGlobals "max" = some none)
    (z_range : PySem.W.nsIn K mainGlobals "range" = some none)
    : ∃ ad : Ad, Txt K mg ad ∧ fa = ad.a_law ∧ ∀ (s : Shared) (v : Value), BindsTo s ad.d_law ⟨[v], []⟩ [("script", v)] := by
  have e := hfa.symm.trans (PySem.W.mg_of X G a_law)
  cases e
  have F_law_take := fun_mk (st := s_law_take) l_law_take c_law_take k_law_take
  have b_law_take := F_law_take.binds (ps := ["deck", "many"]) fun _ _ _ _ _ _ us hl => match us, hl with | [_, _], _ => rfl
  have F_law_deck := fun_mk (st := s_law_deck) l_law_deck c_law_deck k_law_deck
  have b_law_deck := F_law_deck.binds (ps := ["script", "cells", "each"]) fun _ _ _ _ _ _ us hl => match us, hl with | [_, _, _], _ => rfl
  have F_InvalidMap_init_ := fun_mk (st := s_InvalidMap_init_) l_InvalidMap_init_ c_InvalidMap_init_ k_InvalidMap_init_
  have b_InvalidMap_init_ := F_InvalidMap_init_.binds (ps := ["self", "what"]) fun _ _ _ _ _ _ us hl => match us, hl with | [_, _], _ => rfl
  have F_CodeMap_init_ := fun_mk (st := s_CodeMap_init_) l_CodeMap_init_ c_CodeMap_init_ k_CodeMap_init_
  have b_CodeMap_init_ := F_CodeMap_init_.binds (ps := ["self", "images"]) fun _ _ _ _ _ _ us hl => match us, hl with | [_, _], _ => rfl
  have F_CodeMap_image := fun_mk (st := s_CodeMap_image) l_CodeMap_image c_CodeMap_image k_CodeMap_image
  have b_CodeMap_image := F_CodeMap_image.binds (ps := ["self", "code"]) fun _ _ _ _ _ _ us hl => match us, hl with | [_, _], _ => rfl
  have F_CodeMap_then := fun_mk (st := s_CodeMap_then) l_CodeMap_then c_CodeMap_then k_CodeMap_then
  have b_CodeMap_then := F_CodeMap_then.binds (ps := ["self", "other"]) fun _ _ _ _ _ _ us hl => match us, hl with | [_, _], _ => rfl
  have F_CodeMap_domain := fun_mk (st := s_CodeMap_domain) l_CodeMap_domain c_CodeMap_domain k_CodeMap_domain
  have b_CodeMap_domain := F_CodeMap_domain.binds (ps := ["self"]) fun _ _ _ _ _ _ us hl => match us, hl with | [_], _ => rfl
  have F_CodeMap_flat := fun_mk (st := s_CodeMap_flat) l_CodeMap_flat c_CodeMap_flat k_CodeMap_flat
  have b_CodeMap_flat := F_CodeMap_flat.binds (ps := ["self"]) fun _ _ _ _ _ _ us hl => match us, hl with | [_], _ => rfl
  have F_code_difference := fun_mk (st := s_code_difference) l_code_difference c_code_difference k_code_difference
  have b_code_difference := F_code_difference.binds (ps := ["first", "second"]) fun _ _ _ _ _ _ us hl => match us, hl with | [_, _], _ => rfl
  have F_decisive_codes := fun_mk (st := s_decisive_codes) l_decisive_codes c_decisive_codes k_decisive_codes
  have b_decisive_codes := F_decisive_codes.binds (ps := ["first", "second"]) fun _ _ _ _ _ _ us hl => match us, hl with | [_, _], _ => rfl
  have F_law_same := fun_mk (st := s_law_same) l_law_same c_law_same k_law_same
  have b_law_same := F_law_same.binds (ps := ["actual", "expected"]) fun _ _ _ _ _ _ us hl => match us, hl with | [_, _], _ => rfl
  have F_law_images := fun_mk (st := s_law_images) l_law_images c_law_images k_law_images
  have b_law_images := F_law_images.binds (ps := ["deck"]) fun _ _ _ _ _ _ us hl => match us, hl with | [_], _ => rfl
  have F_law_at := fun_mk (st := s_law_at) l_law_at c_law_at k_law_at
  have b_law_at := F_law_at.binds (ps := ["images", "code"]) fun _ _ _ _ _ _ us hl => match us, hl with | [_, _], _ => rfl
  have F_law_near := fun_mk (st := s_law_near) l_law_near c_law_near k_law_near
  have b_law_near := F_law_near.binds (ps := ["deck", "images"]) fun _ _ _ _ _ _ us hl => match us, hl with | [_, _], _ => rfl
  have F_law_refused := fun_mk (st := s_law_refused) l_law_refused c_law_refused k_law_refused
  have b_law_refused := F_law_refused.binds (ps := ["deck", "images"]) fun _ _ _ _ _ _ us hl => match us, hl with | [_, _], _ => rfl
  have F_law_images_right := fun_mk (st := s_law_images_right) l_law_images_right c_law_images_right k_law_images_right
  have b_law_images_right := F_law_images_right.binds (ps := ["first", "second", "one", "two"]) fun _ _ _ _ _ _ us hl => match us, hl with | [_, _, _, _], _ => rfl
  have F_law := fun_mk (st := s_law) l_law c_law k_law
  have b_law := F_law.binds (ps := ["script"]) fun _ _ _ _ _ _ us hl => match us, hl with | [_], _ => rfl
  refine ⟨⟨f_law_take, (PySem.W.fnOf "_law_take" "_law_take" (defArgs s_law_take) (defBody s_law_take) (defScope s_law_take) .none kV_law_take dc_law_take pm_law_take an_law_take cd_law_take ct_law_take), f_law_deck, (PySem.W.fnOf "_law_deck" "_law_deck" (defArgs s_law_deck) (defBody s_law_deck) (defScope s_law_deck) .none kV_law_deck dc_law_deck pm_law_deck an_law_deck cd_law_deck ct_law_deck), f_InvalidMap_init_, (PySem.W.fnOf "__init__" "InvalidMap.__init__" (defArgs s_InvalidMap_init_) (defBody s_InvalidMap_init_) (defScope s_InvalidMap_init_) .none kV_InvalidMap_init_ dc_InvalidMap_init_ pm_InvalidMap_init_ an_InvalidMap_init_ cd_InvalidMap_init_ ct_InvalidMap_init_), f_CodeMap_init_, (PySem.W.fnOf "__init__" "CodeMap.__init__" (defArgs s_CodeMap_init_) (defBody s_CodeMap_init_) (defScope s_CodeMap_init_) .none kV_CodeMap_init_ dc_CodeMap_init_ pm_CodeMap_init_ an_CodeMap_init_ cd_CodeMap_init_ ct_CodeMap_init_), f_CodeMap_image, (PySem.W.fnOf "image" "CodeMap.image" (defArgs s_CodeMap_image) (defBody s_CodeMap_image) (defScope s_CodeMap_image) .none kV_CodeMap_image dc_CodeMap_image pm_CodeMap_image an_CodeMap_image cd_CodeMap_image ct_CodeMap_image), f_CodeMap_then, (PySem.W.fnOf "then" "CodeMap.then" (defArgs s_CodeMap_then) (defBody s_CodeMap_then) (defScope s_CodeMap_then) .none kV_CodeMap_then dc_CodeMap_then pm_CodeMap_then an_CodeMap_then cd_CodeMap_then ct_CodeMap_then), f_CodeMap_domain, (PySem.W.fnOf "domain" "CodeMap.domain" (defArgs s_CodeMap_domain) (defBody s_CodeMap_domain) (defScope s_CodeMap_domain) .none kV_CodeMap_domain dc_CodeMap_domain pm_CodeMap_domain an_CodeMap_domain cd_CodeMap_domain ct_CodeMap_domain), f_CodeMap_flat, (PySem.W.fnOf "flat" "CodeMap.flat" (defArgs s_CodeMap_flat) (defBody s_CodeMap_flat) (defScope s_CodeMap_flat) .none kV_CodeMap_flat dc_CodeMap_flat pm_CodeMap_flat an_CodeMap_flat cd_CodeMap_flat ct_CodeMap_flat), f_code_difference, (PySem.W.fnOf "code_difference" "code_difference" (defArgs s_code_difference) (defBody s_code_difference) (defScope s_code_difference) .none kV_code_difference dc_code_difference pm_code_difference an_code_difference cd_code_difference ct_code_difference), f_decisive_codes, (PySem.W.fnOf "decisive_codes" "decisive_codes" (defArgs s_decisive_codes) (defBody s_decisive_codes) (defScope s_decisive_codes) .none kV_decisive_codes dc_decisive_codes pm_decisive_codes an_decisive_codes cd_decisive_codes ct_decisive_codes), f_law_same, (PySem.W.fnOf "_law_same" "_law_same" (defArgs s_law_same) (defBody s_law_same) (defScope s_law_same) .none kV_law_same dc_law_same pm_law_same an_law_same cd_law_same ct_law_same), f_law_images, (PySem.W.fnOf "_law_images" "_law_images" (defArgs s_law_images) (defBody s_law_images) (defScope s_law_images) .none kV_law_images dc_law_images pm_law_images an_law_images cd_law_images ct_law_images), f_law_at, (PySem.W.fnOf "_law_at" "_law_at" (defArgs s_law_at) (defBody s_law_at) (defScope s_law_at) .none kV_law_at dc_law_at pm_law_at an_law_at cd_law_at ct_law_at), f_law_near, (PySem.W.fnOf "_law_near" "_law_near" (defArgs s_law_near) (defBody s_law_near) (defScope s_law_near) .none kV_law_near dc_law_near pm_law_near an_law_near cd_law_near ct_law_near), f_law_refused, (PySem.W.fnOf "_law_refused" "_law_refused" (defArgs s_law_refused) (defBody s_law_refused) (defScope s_law_refused) .none kV_law_refused dc_law_refused pm_law_refused an_law_refused cd_law_refused ct_law_refused), f_law_images_right, (PySem.W.fnOf "_law_images_right" "_law_images_right" (defArgs s_law_images_right) (defBody s_law_images_right) (defScope s_law_images_right) .none kV_law_images_right dc_law_images_right pm_law_images_right an_law_images_right cd_law_images_right ct_law_images_right), fa, (PySem.W.fnOf "law" "law" (defArgs s_law) (defBody s_law) (defScope s_law) .none kV_law dc_law pm_law an_law cd_law ct_law), c_BridgeError, c_CodeMap, c_InvalidMap⟩, ?_, rfl, fun s v => .of_eq rfl⟩
  exact {
    F_law_take := F_law_take
    b_law_take := b_law_take
    m_law_take := PySem.W.mg_of X G a_law_take
    F_law_deck := F_law_deck
    b_law_deck := b_law_deck
    m_law_deck := PySem.W.mg_of X G a_law_deck
    F_InvalidMap_init_ := F_InvalidMap_init_
    b_InvalidMap_init_ := b_InvalidMap_init_
    F_CodeMap_init_ := F_CodeMap_init_
    b_CodeMap_init_ := b_CodeMap_init_
    F_CodeMap_image := F_CodeMap_image
    b_CodeMap_image := b_CodeMap_image
    me_CodeMap_image := ⟨a_CodeMap_image, i_CodeMap_image, k_CodeMap_image⟩
    F_CodeMap_then := F_CodeMap_then
    b_CodeMap_then := b_CodeMap_then
    me_CodeMap_then := ⟨a_CodeMap_then, i_CodeMap_then, k_CodeMap_then⟩
    F_CodeMap_domain := F_CodeMap_domain
    b_CodeMap_domain := b_CodeMap_domain
    me_CodeMap_domain := ⟨a_CodeMap_domain, i_CodeMap_domain, k_CodeMap_domain⟩
    F_CodeMap_flat := F_CodeMap_flat
    b_CodeMap_flat := b_CodeMap_flat
    me_CodeMap_flat := ⟨a_CodeMap_flat, i_CodeMap_flat, k_CodeMap_flat⟩
    F_code_difference := F_code_difference
    b_code_difference := b_code_difference
    m_code_difference := PySem.W.mg_of X G a_code_difference
    F_decisive_codes := F_decisive_codes
    b_decisive_codes := b_decisive_codes
    m_decisive_codes := PySem.W.mg_of X G a_decisive_codes
    F_law_same := F_law_same
    b_law_same := b_law_same
    m_law_same := PySem.W.mg_of X G a_law_same
    F_law_images := F_law_images
    b_law_images := b_law_images
    m_law_images := PySem.W.mg_of X G a_law_images
    F_law_at := F_law_at
    b_law_at := b_law_at
    m_law_at := PySem.W.mg_of X G a_law_at
    F_law_near := F_law_near
    b_law_near := b_law_near
    m_law_near := PySem.W.mg_of X G a_law_near
    F_law_refused := F_law_refused
    b_law_refused := b_law_refused
    m_law_refused := PySem.W.mg_of X G a_law_refused
    F_law_images_right := F_law_images_right
    b_law_images_right := b_law_images_right
    m_law_images_right := PySem.W.mg_of X G a_law_images_right
    F_law := F_law
    b_law := b_law
    m_law := PySem.W.mg_of X G a_law
    cl_CodeMap := ⟨pg_CodeMap, hd_CodeMap, po_CodeMap, sa_CodeMap⟩
    mg_CodeMap := PySem.W.mg_of X G A_CodeMap
    mk_CodeMap := ⟨mk_CodeMap, a_CodeMap_init_, i_CodeMap_init_, kc_CodeMap⟩
    n_CodeMap_images := n_CodeMap_images
    mg_BridgeError := PySem.W.mg_of X G A_BridgeError
    ov_BridgeError := ⟨og_BridgeError, or_BridgeError, of_BridgeError⟩
    mg_InvalidMap := PySem.W.mg_of X G A_InvalidMap
    ox_InvalidMap := ⟨⟨_, _, _, _, _, _, _, _, _, _, _, _, _, _, _, xL_InvalidMap, by rfl⟩, sx_InvalidMap, ex_InvalidMap, ty_InvalidMap, kx_InvalidMap⟩
    ix_InvalidMap := a_InvalidMap_init_
    tx_InvalidMap := tf_InvalidMap
    xd_InvalidMap := ⟨(by obtain ⟨cd, hc, _⟩ := PySem.W.any_some yd_InvalidMap; rw [hc]; rfl), ya_InvalidMap, yg_InvalidMap, ex_InvalidMap, yd_InvalidMap, yk_InvalidMap, is_get, is_tk, yo_InvalidMap⟩
    nx_InvalidMap_what := nx_InvalidMap_what
    em_InvalidMap_InvalidMap := PySem.W.exm_ref ex_InvalidMap yd_InvalidMap ty_InvalidMap sb_InvalidMap_InvalidMap
    kt_InvalidMap_BridgeError := kt_InvalidMap_BridgeError
    kt_InvalidMap_ValueError := kt_InvalidMap_ValueError
    kt_CodeMap_CodeMap := kt_CodeMap_CodeMap
    is_CodeMap := is_CodeMap
    io_CodeMap := io_CodeMap
    is_get := is_get
    is_tk := is_tk
    z_ValueError := PySem.W.mg_none_of X G z_ValueError
    z_abs := PySem.W.mg_none_of X G z_abs
    z_bool := PySem.W.mg_none_of X G z_bool
    z_int := PySem.W.mg_none_of X G z_int
    z_isinstance := PySem.W.mg_none_of X G z_isinstance
    z_len := PySem.W.mg_none_of X G z_len
    z_list := PySem.W.mg_none_of X G z_list
    z_max := PySem.W.mg_none_of X G z_max
    z_range := PySem.W.mg_none_of X G z_range
  }
theorem walk {l : PySem.W.OpenLaw} {q : Program} {loose : List Str} {XP : (Str → Option Value) → Heap → Prop} {YP : World → Heap → Prop} {d : DefRec} {K : Params → PySem.W.Frag} (hn : l.most = some 63) (hdf : d.params.defaults = [])
    (hY : ∀ (w : World) (h : Heap), YP w h → (K w.params).In h)
    (F : ∀ (w : World) (mg : Str → Option Value) (fa : Addr) (h : Heap), (K w.params).In h → h.Ns mainGlobals mg → mg d.name = some (.ref fa) →
      ∃ ad : Ad, Txt (K w.params) mg ad ∧ fa = ad.a_law ∧ ∀ (s : Shared) (v : Value), BindsTo s ad.d_law ⟨[v], []⟩ [("script", v)]) :
    PySem.W.WalkO q loose XP YP l.row.toRowW d [] (fun f vs => PySem.call f vs) := by
  refine L2.walk_of (n := 63) (k := 7) (x := "script") (CX := fun _ => CX0) (sp := fun w => spLaw (K w.params)) hn (by decide) hdf ⟨rfl, by decide, by decide⟩ hY (fun w mg fa h KX G hmg => ?_) (fun _ _ a ns hl _ hS => ⟨a, ns, rfl, hS, hl, fun _ => rfl⟩) fun _ _ _ _ _ z => z
  obtain ⟨ad, T, rfl, hb⟩ := F w mg fa h KX G hmg
  exact ⟨ad.d_law, hb, fun base _ _ => ok_law T⟩
end Toy
open PySem PySem.W PyProof.Rows
set_option maxRecDepth 100000 in
set_option maxHeartbeats 0 in
theorem PySem.Challenge.cw_surebridge_k11_codes_holds : PySem.Challenge.rw_surebridge_k11_codes.Holds := by
  w_on; o_law; k_head; (case hw => w_witness2)
  k_fill
  refine Toy.walk (l := PySem.Challenge.rw_surebridge_k11_codes) rfl rfl (fun w h Y => PySem.W.kIn_of Y) ?F
  case F =>
    intro w mg fa h KX G hmg
    refine' Toy.all_mk KX G hmg ?A_BridgeError ?A_CodeMap ?A_InvalidMap ?a_law_take ?l_law_take ?c_law_take ?k_law_take ?a_law_deck ?l_law_deck ?c_law_deck ?k_law_deck ?a_InvalidMap_init_ ?i_InvalidMap_init_ ?l_InvalidMap_init_ ?c_InvalidMap_init_ ?k_InvalidMap_init_ ?a_CodeMap_init_ ?i_CodeMap_init_ ?l_CodeMap_init_ ?c_CodeMap_init_ ?k_CodeMap_init_ ?a_CodeMap_image ?i_CodeMap_image ?l_CodeMap_image ?c_CodeMap_image ?k_CodeMap_image ?a_CodeMap_then ?i_CodeMap_then ?l_CodeMap_then ?c_CodeMap_then ?k_CodeMap_then ?a_CodeMap_domain ?i_CodeMap_domain ?l_CodeMap_domain ?c_CodeMap_domain ?k_CodeMap_domain ?a_CodeMap_flat ?i_CodeMap_flat ?l_CodeMap_flat ?c_CodeMap_flat ?k_CodeMap_flat ?a_code_difference ?l_code_difference ?c_code_difference ?k_code_difference ?a_decisive_codes ?l_decisive_codes ?c_decisive_codes ?k_decisive_codes ?a_law_same ?l_law_same ?c_law_same ?k_law_same ?a_law_images ?l_law_images ?c_law_images ?k_law_images ?a_law_at ?l_law_at ?c_law_at ?k_law_at ?a_law_near ?l_law_near ?c_law_near ?k_law_near ?a_law_refused ?l_law_refused ?c_law_refused ?k_law_refused ?a_law_images_right ?l_law_images_right ?c_law_images_right ?k_law_images_right ?a_law ?l_law ?c_law ?k_law ?pg_CodeMap ?hd_CodeMap ?po_CodeMap ?sa_CodeMap ?mk_CodeMap ?kc_CodeMap ?n_CodeMap_images ?ex_BridgeError ?ty_BridgeError ?yd_BridgeError ?og_BridgeError ?or_BridgeError ?of_BridgeError ?ex_InvalidMap ?ty_InvalidMap ?yd_InvalidMap ?xL_InvalidMap ?sx_InvalidMap ?kx_InvalidMap ?tf_InvalidMap ?ya_InvalidMap ?yg_InvalidMap ?yk_InvalidMap ?yo_InvalidMap ?nx_InvalidMap_what ?sb_InvalidMap_InvalidMap ?kt_InvalidMap_BridgeError ?kt_InvalidMap_ValueError ?kt_CodeMap_CodeMap ?is_CodeMap ?io_CodeMap ?is_get ?is_tk ?z_ValueError ?z_abs ?z_bool ?z_int ?z_isinstance ?z_len ?z_list ?z_max ?z_range
    (case A_BridgeError => k_is)
    (case A_CodeMap => k_is)
    (case A_InvalidMap => k_is)
    (case a_law_take => k_is)
    (case l_law_take => k_is)
    (case c_law_take => k_is)
    (case k_law_take => k_is)
    (case a_law_deck => k_is)
    (case l_law_deck => k_is)
    (case c_law_deck => k_is)
    (case k_law_deck => k_is)
    (case a_InvalidMap_init_ => k_is)
    (case i_InvalidMap_init_ => k_is)
    (case l_InvalidMap_init_ => k_is)
    (case c_InvalidMap_init_ => k_is)
    (case k_InvalidMap_init_ => k_is)
    (case a_CodeMap_init_ => k_is)
    (case i_CodeMap_init_ => k_is)
    (case l_CodeMap_init_ => k_is)
    (case c_CodeMap_init_ => k_is)
    (case k_CodeMap_init_ => k_is)
    (case a_CodeMap_image => k_is)
    (case i_CodeMap_image => k_is)
    (case l_CodeMap_image => k_is)
    (case c_CodeMap_image => k_is)
    (case k_CodeMap_image => k_is)
    (case a_CodeMap_then => k_is)
    (case i_CodeMap_then => k_is)
    (case l_CodeMap_then => k_is)
    (case c_CodeMap_then => k_is)
    (case k_CodeMap_then => k_is)
    (case a_CodeMap_domain => k_is)
    (case i_CodeMap_domain => k_is)
    (case l_CodeMap_domain => k_is)
    (case c_CodeMap_domain => k_is)
    (case k_CodeMap_domain => k_is)
    (case a_CodeMap_flat => k_is)
    (case i_CodeMap_flat => k_is)
    (case l_CodeMap_flat => k_is)
    (case c_CodeMap_flat => k_is)
    (case k_CodeMap_flat => k_is)
    (case a_code_difference => k_is)
    (case l_code_difference => k_is)
    (case c_code_difference => k_is)
    (case k_code_difference => k_is)
    (case a_decisive_codes => k_is)
    (case l_decisive_codes => k_is)
    (case c_decisive_codes => k_is)
    (case k_decisive_codes => k_is)
    (case a_law_same => k_is)
    (case l_law_same => k_is)
    (case c_law_same => k_is)
    (case k_law_same => k_is)
    (case a_law_images => k_is)
    (case l_law_images => k_is)
    (case c_law_images => k_is)
    (case k_law_images => k_is)
    (case a_law_at => k_is)
    (case l_law_at => k_is)
    (case c_law_at => k_is)
    (case k_law_at => k_is)
    (case a_law_near => k_is)
    (case l_law_near => k_is)
    (case c_law_near => k_is)
    (case k_law_near => k_is)
    (case a_law_refused => k_is)
    (case l_law_refused => k_is)
    (case c_law_refused => k_is)
    (case k_law_refused => k_is)
    (case a_law_images_right => k_is)
    (case l_law_images_right => k_is)
    (case c_law_images_right => k_is)
    (case k_law_images_right => k_is)
    (case a_law => k_is)
    (case l_law => k_is)
    (case c_law => k_is)
    (case k_law => k_is)
    (case pg_CodeMap => k_is)
    (case hd_CodeMap => k_is)
    (case po_CodeMap => k_is)
    (case sa_CodeMap => k_is)
    (case mk_CodeMap => k_is)
    (case kc_CodeMap => k_is)
    (case n_CodeMap_images => k_is)
    (case ex_BridgeError => k_is)
    (case ty_BridgeError => k_is)
    (case yd_BridgeError => k_is)
    (case og_BridgeError => k_is)
    (case or_BridgeError => k_is)
    (case of_BridgeError => k_is)
    (case ex_InvalidMap => k_is)
    (case ty_InvalidMap => k_is)
    (case yd_InvalidMap => k_is)
    (case xL_InvalidMap => k_is)
    (case sx_InvalidMap => k_is)
    (case kx_InvalidMap => k_is)
    (case tf_InvalidMap => k_is)
    (case ya_InvalidMap => k_is)
    (case yg_InvalidMap => k_is)
    (case yk_InvalidMap => k_is)
    (case yo_InvalidMap => k_is)
    (case nx_InvalidMap_what => k_is)
    (case sb_InvalidMap_InvalidMap => first | rfl | k_is)
    (case kt_InvalidMap_BridgeError => kit_is)
    (case kt_InvalidMap_ValueError => kit_is)
    (case kt_CodeMap_CodeMap => kit_is)
    (case is_CodeMap => k_is)
    (case io_CodeMap => k_is)
    (case is_get => k_is)
    (case is_tk => k_is)
    (case z_ValueError => k_is)
    (case z_abs => k_is)
    (case z_bool => k_is)
    (case z_int => k_is)
    (case z_isinstance => k_is)
    (case z_len => k_is)
    (case z_list => k_is)
    (case z_max => k_is)
    (case z_range => k_is)
#print axioms PySem.Challenge.cw_surebridge_k11_codes_holds

