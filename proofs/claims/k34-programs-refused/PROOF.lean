import PyProof.Rows.All
import Wide.All
import OpenK.AllK
import Wide.FinOn
import HandS.ForMost
import HandS.Wide
import HandS.Evl
import HandS.IsInst
import HandS.Steps
import HandS.Flow
import HandS.Conv
import HandS.Codes
import HandS.More
import HandS.Replace

import HandS.ForExc
import HandS.ExcInit
import HandS.ExcIs
import HandS.ExcField
import HandS.ClsMeth
import HandS.TryOnly
import KE.KExcIs
import HandS.TupAny
import HandS.FStr
import HandS.Style
import HandS.WordsDict
import HandS.Walk
import KE.KDictList
import PySem.Challenge.RW_surebridge_k34_programs_refused
set_option Elab.async false
set_option linter.all false
set_option maxRecDepth 100000
set_option maxHeartbeats 4000000
/-! a list of ints whose content is not told: the law's deck -/
namespace Dk
open PySem PySem.Spec PyProof.Rows L2

def Ints (l : Addr) (h : Heap) : Prop := ∃ ns : List Int, ns.length ≤ 100000 ∧ ∃ (its : List Value) (n : Nat), Vals (ns.map V.int) its ∧ h.get? l = some { cls := .type "list", data := .seq its.toArray n }
def DkO (l : Addr) : HO := .ext (Ints l)
theorem sz5 {n : Nat} (h : n ≤ 100000) : n ≤ sizeLine := Nat.le_trans h (by decide)
section
variable {P : Program} {w : World} {H H' : Hp} {h h' : Heap} {l : Addr} {o o' : HO} {fs ex : List Addr}
/-- another word for what stands at x -/
theorem retag (ok : HOk P w H h) (hx : H l = some o) (n1 : ∀ y, o ≠ .own y) (n2 : ∀ xs, o ≠ .tup xs) (new : ObjOk P w (upd H l o') h l o') : HOk P w (upd H l o') h := fun b u e => by
  by_cases hb : b = l
  · subst hb; rw [upd_same] at e; cases e; exact new
  · rw [upd_ne hb] at e
    refine (ok b u e).stay (fun c v _ q => q) (fun c q => ?_) fun c xs q => ?_
    · rw [upd_ne (fun z => by subst z; rw [hx] at q; exact n1 _ (Option.some.inj q))]; exact q
    · rw [upd_ne (fun z => by subst z; rw [hx] at q; exact n2 _ (Option.some.inj q))]; exact q
theorem upd_id (hx : H l = some o) : upd H l o = H := by
  funext b
  by_cases hb : b = l
  · rw [hb, upd_same, hx]
  · rw [upd_ne hb]
theorem dk_open (ok : HOk P w H h) (hx : H l = some (DkO l)) : ∃ ns : List Int, ns.length ≤ 100000 ∧ HOk P w (upd H l (.lst (ns.map V.int))) h := by
  have x : ObjOk P w H h l (.ext (Ints l)) := ok l _ hx
  obtain ⟨⟨ns, hn, its, n, r, e⟩, _, _⟩ := x
  refine ⟨ns, hn, retag ok hx (fun y z => by cases z) (fun y z => by cases z) ?_⟩
  exact ⟨by rw [List.length_map]; exact sz5 hn, its, n, r, e⟩
theorem dk_close {ns : List Int} (ok : HOk P w H h) (hx : H l = some (.lst (ns.map V.int))) (hn : ns.length ≤ 100000) : HOk P w (upd H l (DkO l)) h := by
  have x : ObjOk P w H h l (.lst (ns.map V.int)) := ok l _ hx
  obtain ⟨_, its, n, r, e⟩ := x
  refine retag ok hx (fun y z => by cases z) (fun y z => by cases z) ?_
  exact ⟨⟨ns, hn, its, n, r, e⟩, ⟨_, e⟩, fun h1 h2 z k => by
    obtain ⟨ms, hm, its', n', r', e'⟩ := z
    exact ⟨ms, hm, its', n', r', k _ e'⟩⟩
/-- untouched: another word at l on either side -/
theorem un_left {o1 : HO} (u : Un fs ex (upd H l o1) H' h h') (hx : H l = some o) (n2 : ∀ xs, o ≠ .tup xs) (n3 : ∀ o' v, o ≠ .frz o' v) (n4 : ∀ ps, o ≠ .tbl ps) : Un fs ex H H' h h' where
  keep := fun b q e n hb he => u.keep b q e (by rw [upd_ne (fun z => by subst z; rw [hx] at n; cases n)]; exact n) hb he
  slot := fun b q e n hb he => u.slot b q e (by rw [upd_ne (fun z => by subst z; rw [hx] at n; cases n)]; exact n) hb he
  free := fun b q e n he => u.free b q e (by rw [upd_ne (fun z => by subst z; rw [hx] at n; cases n)]; exact n) he
  there := u.there
  tups := fun b xs q => u.tups b xs (by rw [upd_ne (fun z => by subst z; rw [hx] at q; exact n2 _ (Option.some.inj q))]; exact q)
  frzs := fun b o v q => u.frzs b o v (by rw [upd_ne (fun z => by subst z; rw [hx] at q; exact n3 _ _ (Option.some.inj q))]; exact q)
  tbls := fun b ps q => u.tbls b ps (by rw [upd_ne (fun z => by subst z; rw [hx] at q; exact n4 _ (Option.some.inj q))]; exact q)
theorem un_right {o1 : HO} (u : Un fs ex H H' h h') (hx : H' l = some o) (n2 : ∀ xs, o ≠ .tup xs) (n3 : ∀ o' v, o ≠ .frz o' v) (n4 : ∀ ps, o ≠ .tbl ps) : Un fs ex H (upd H' l o1) h h' where
  keep := u.keep
  slot := u.slot
  free := fun b q e n he => by
    have z := u.free b q e n he
    rw [upd_ne (fun y => by subst y; rw [hx] at z; cases z)]; exact z
  there := u.there
  tups := fun b xs q => by
    have z := u.tups b xs q
    rw [upd_ne (fun y => by subst y; rw [hx] at z; exact n2 _ (Option.some.inj z))]; exact z
  frzs := fun b o v q => by
    have z := u.frzs b o v q
    rw [upd_ne (fun y => by subst y; rw [hx] at z; exact n3 _ _ (Option.some.inj z))]; exact z
  tbls := fun b ps q => by
    obtain ⟨m, z⟩ := u.tbls b ps q
    exact ⟨m, by rw [upd_ne (fun y => by subst y; rw [hx] at z; exact n4 _ (Option.some.inj z))]; exact z⟩
end
/-- take(deck, many), told of the list | of a deck -/
def spTakeC : Sp := fun vs H Q _ => ∃ (l : Addr) (ns : List Int) (m : Int), vs = [.ref l, .int m] ∧ H l = some (.lst (ns.map V.int)) ∧ ns.length ≤ 100000 ∧ 0 < m ∧
  ∀ (k : Int) (ns' : List Int), 0 ≤ k → k < m → ns'.length ≤ 100000 → Q (.int k) (upd H l (.lst (ns'.map V.int)))
def spTake : Sp := fun vs H Q _ => ∃ (l : Addr) (m : Int), vs = [.ref l, .int m] ∧ H l = some (DkO l) ∧ 0 < m ∧ ∀ k : Int, 0 ≤ k → k < m → Q (.int k) H
/-- deck(script, cells, each), told of the list | of a deck -/
def spDeckC (K : PySem.W.Frag) : Sp := fun vs H Q _ => ∃ (a : Addr) (ns : List Int) (c e : Int), vs = [.ref a, .int c, .int e] ∧ SqL K H a (ns.map V.int) ∧ ns.length ≤ 63 ∧ 0 ≤ c ∧ 0 ≤ e ∧ c ≤ 64 ∧ e ≤ 64 ∧
  ∀ (l : Addr) (ms : List Int) (H' : Hp), H l = none → H' = upd H l (.lst (ms.map V.int)) → ms.length ≤ 100000 → Q (.ref l) H'
def spDeck (K : PySem.W.Frag) : Sp := fun vs H Q _ => ∃ (a : Addr) (ns : List Int) (c e : Int), vs = [.ref a, .int c, .int e] ∧ SqL K H a (ns.map V.int) ∧ ns.length ≤ 63 ∧ 0 ≤ c ∧ 0 ≤ e ∧ c ≤ 64 ∧ e ≤ 64 ∧
  ∀ (l : Addr), H l = none → Q (.ref l) (upd H l (DkO l))
section
variable {P : Program} {w : World} {K : PySem.W.Frag} {mg : Str → Option Value} {base : Heap} {k : Nat} {f : Addr} {fd : FuncData} {ps : List Str}
theorem dk_tup {l : Addr} (xs : List V) : DkO l ≠ .tup xs := fun z => by
  have z' : HO.ext _ = HO.tup xs := z
  cases z'
theorem dk_frz {l : Addr} (o : Obj) (v : HO) : DkO l ≠ .frz o v := fun z => by
  have z' : HO.ext _ = HO.frz o v := z
  cases z'
theorem dk_tbl {l : Addr} (xs : Array Value) : DkO l ≠ .tbl xs := fun z => by
  have z' : HO.ext _ = HO.tbl xs := z
  cases z'
theorem ok_take (F : FnOk P w K mg base CX0 k f fd ps spTakeC) : FnOk P w K mg base CX0 k f fd ps spTake where
  len := fun vs H Q E h => by
    obtain ⟨l, m, e, h1, h2, h3⟩ := h
    exact F.len vs (upd H l (.lst (([] : List Int).map V.int))) (fun _ _ => True) E ⟨l, [], m, e, upd_same, by decide, h2, fun _ _ _ _ _ => trivial⟩
  run := fun A outer s H args us vs Q E hr he hb hv h => by
    obtain ⟨l, m, e, h1, h2, h3⟩ := h
    obtain ⟨ns, hn, ok⟩ := dk_open he.hok h1
    have nb : ∀ b, H b = none → b ≠ l := fun b n z => by rw [z, h1] at n; cases n
    have he1 : Env0 P w K mg base A outer s (upd H l (.lst (ns.map V.int))) := ⟨he.frames, he.mod, fun b o q => ⟨(he.bs b o q).1, by rw [upd_ne (nb b (he.bs b o q).2)]; exact (he.bs b o q).2⟩, he.bsz, he.funs, fun b q => by rw [upd_ne (nb b (he.frf b q))]; exact he.frf b q, ok, he.bare⟩
    refine codeAny_mono (F.run A outer s _ args us vs (fun v H1 => ∃ ns' : List Int, ns'.length ≤ 100000 ∧ H1 = upd H l (.lst (ns'.map V.int)) ∧ Q v H) E hr he1 hb hv ⟨l, ns, m, e, upd_same, hn, h2, fun k ns' k0 k1 hl => ⟨ns', hl, by rw [upd_upd], h3 k k0 k1⟩⟩) fun r s' q => ?_
    cases r with
    | error e => exact q
    | ok fl =>
      cases fl with
      | ret u =>
        obtain ⟨v, H1, os, bare, un, hok, rv, ns', hl, e1, q⟩ := q
        subst e1
        have g : upd (upd H l (.lst (ns'.map V.int))) l (DkO l) = H := by rw [upd_upd]; exact upd_id h1
        have hok' := dk_close hok upd_same hl
        have un1 := un_left un h1 dk_tup dk_frz dk_tbl
        have un2 := un_right (o1 := DkO l) un1 upd_same (fun _ z => by cases z) (fun _ _ z => by cases z) (fun _ z => by cases z)
        rw [g] at hok' un2
        exact ⟨v, H, os, bare, un2, hok', rv, q⟩
      | next => exact q
      | brk => exact q
      | cont => exact q
theorem ok_deck (F : FnOk P w K mg base CX0 k f fd ps (spDeckC K)) : FnOk P w K mg base CX0 k f fd ps (spDeck K) where
  len := fun vs H Q E h => by
    obtain ⟨a, ns, c, e, h1, h2, h3, h4, h5, h6, h7, h8⟩ := h
    exact F.len vs H (fun _ _ => True) E ⟨a, ns, c, e, h1, h2, h3, h4, h5, h6, h7, fun _ _ _ _ _ _ => trivial⟩
  run := fun A outer s H args us vs Q E hr he hb hv h => by
    obtain ⟨a, ns, c, e, h1, h2, h3, h4, h5, h6, h7, h8⟩ := h
    refine codeAny_mono (F.run A outer s _ args us vs (fun v H1 => ∃ (l : Addr) (ms : List Int), ms.length ≤ 100000 ∧ H l = none ∧ H1 = upd H l (.lst (ms.map V.int)) ∧ v = .ref l) E hr he hb hv ⟨a, ns, c, e, h1, h2, h3, h4, h5, h6, h7, fun l ms H' n e q => ⟨l, ms, q, n, e, rfl⟩⟩) fun r s' q => ?_
    cases r with
    | error e => exact q
    | ok fl =>
      cases fl with
      | ret u =>
        obtain ⟨v, H1, os, bare, un, hok, rv, l, ms, hl, n, e1, ev⟩ := q
        subst e1
        subst ev
        have hok' := dk_close hok upd_same hl
        have un2 := un_right (o1 := DkO l) un upd_same (fun _ z => by cases z) (fun _ _ z => by cases z) (fun _ z => by cases z)
        rw [upd_upd] at hok' un2
        exact ⟨.ref l, _, os, bare, un2, hok', rv, h8 l n⟩
      | next => exact q
      | brk => exact q
      | cont => exact q
end
end Dk

/-! readings, one rule a construct, for a walk by `first` -/
namespace Rd
open PySem PySem.Spec PyProof.Rows L2 Evl Dk
section
variable {σ σ' : L2.St} {H H' H1 : Hp} {Q : VK} {v x y z : V} {ta tb te tc : TE} {K : PySem.W.Frag} {i j : Int} {D : Ends} {t u : TS} {ct cu : TT} {QB : Bool → Hp → Prop} {QA : List V → Hp → Prop} {al bl : TA} {xs ys : List V} {a l C dx : Addr} {fs : List (Str × V)} {A B : Prop} {r : R2}
theorem var {n : Nat} (h : σ[n]? = some (some v)) (q : Q v H) : tVar n σ H Q := ⟨v, h, q⟩
theorem c (q : Q v H) : tC v σ H Q := q
theorem op (h : ta σ H fun x H1 => tb σ H1 fun y H2 => r x y H2 Q) : tOp r ta tb σ H Q := h
theorem un {r : V → Hp → VK → Prop} (h : ta σ H fun x H1 => r x H1 Q) : tUn r ta σ H Q := h
theorem i0 {g : Int → Int → V} (q : Q (g i j) H) : rI0 g (.int i) (.int j) H Q := ⟨i, j, rfl, rfl, q⟩
theorem i1 {C : Int → Int → Prop} {g : Int → Int → V} (c : C i j) (q : Q (g i j) H) : rI C g (.int i) (.int j) H Q := ⟨i, j, rfl, rfl, c, q⟩
theorem u0 {g : Int → V} (q : Q (g i) H) : rU g (.int i) H Q := ⟨i, rfl, q⟩
theorem dI : decide (V.int i = V.int j) = decide (i = j) := decide_eq_decide.mpr ⟨V.int.inj, congrArg V.int⟩
theorem dS {s t : Str} : decide (V.str s = V.str t) = decide (s = t) := decide_eq_decide.mpr ⟨V.str.inj, congrArg V.str⟩
theorem dB {s t : Bool} : decide (V.bl s = V.bl t) = decide (s = t) := decide_eq_decide.mpr ⟨V.bl.inj, congrArg V.bl⟩
theorem eqI (q : Q (.bl (decide (i = j))) H) : rEq (.int i) (.int j) H Q := ⟨rfl, by rw [dI]; exact q⟩
theorem neI (q : Q (.bl (!decide (i = j))) H) : rNe (.int i) (.int j) H Q := ⟨rfl, by rw [dI]; exact q⟩
theorem eqS {s t : Str} (q : Q (.bl (decide (s = t))) H) : rEq (.str s) (.str t) H Q := ⟨rfl, by rw [dS]; exact q⟩
theorem neS {s t : Str} (q : Q (.bl (!decide (s = t))) H) : rNe (.str s) (.str t) H Q := ⟨rfl, by rw [dS]; exact q⟩
theorem eqX (h : scal x y = true) (q : Q (.bl (decide (x = y))) H) : rEq x y H Q := ⟨h, q⟩
theorem neX (h : scal x y = true) (q : Q (.bl (!decide (x = y))) H) : rNe x y H Q := ⟨h, q⟩
theorem isN (q : Q (.bl (decide (x = .non))) H) : rIsN x .non H Q := ⟨rfl, q⟩
theorem notN (q : Q (.bl (!decide (x = .non))) H) : rNotN x .non H Q := ⟨rfl, q⟩
theorem isN_non (q : Q (.bl true) H) : rIsN .non .non H Q := ⟨rfl, q⟩
theorem notN_non (q : Q (.bl false) H) : rNotN .non .non H Q := ⟨rfl, q⟩
theorem isN_int (q : Q (.bl false) H) : rIsN (.int i) .non H Q := ⟨rfl, q⟩
theorem notN_int (q : Q (.bl true) H) : rNotN (.int i) .non H Q := ⟨rfl, q⟩
theorem isN_ref (q : Q (.bl false) H) : rIsN (.ref a) .non H Q := ⟨rfl, q⟩
theorem notN_ref (q : Q (.bl true) H) : rNotN (.ref a) .non H Q := ⟨rfl, q⟩
theorem isN_str {s : Str} (q : Q (.bl false) H) : rIsN (.str s) .non H Q := ⟨rfl, q⟩
theorem notN_str {s : Str} (q : Q (.bl true) H) : rNotN (.str s) .non H Q := ⟨rfl, q⟩
/-- a value that must be a truth value -/
def xT (x : V) (H : Hp) (Q : Bool → Hp → Prop) : Prop := ∃ k, x = .bl k ∧ Q k H
theorem xt {b : Bool} (q : QB b H) : xT (.bl b) H QB := ⟨b, rfl, q⟩
theorem test (h : te σ H fun x H' => xT x H' QB) : tTest te σ H QB := h
theorem tbv (h : te σ H fun x H' => xT x H' QB) : tB te σ H QB := h
theorem andT (h : ct σ H fun c H1 => if c = true then cu σ H1 QB else QB false H1) : tAnd ct cu σ H QB := h
theorem orT (h : ct σ H fun c H1 => if c = true then QB true H1 else cu σ H1 QB) : tOr ct cu σ H QB := h
theorem notT (h : ct σ H fun c H1 => QB (!c) H1) : tNot ct σ H QB := h
theorem andV (h : ta σ H fun x H1 => xT x H1 fun c H1 => if c = true then te σ H1 Q else Q (.bl false) H1) : tAndV ta te σ H Q := h
theorem orV (h : ta σ H fun x H1 => xT x H1 fun c H1 => if c = true then Q (.bl true) H1 else te σ H1 Q) : tOrV ta te σ H Q := h
theorem notV (h : ta σ H fun x H1 => xT x H1 fun c H1 => Q (.bl (!c)) H1) : tNotV ta σ H Q := h
theorem ifE (h : ct σ H fun c H1 => if c = true then ta σ H1 Q else tb σ H1 Q) : tIf ct ta tb σ H Q := h
theorem chain {r r' : R2} (h : ta σ H fun x H1 => tb σ H1 fun y H2 => r x y H2 fun z H3 => xT z H3 fun k H3 => if k = true then tc σ H3 fun w H4 => r' y w H4 Q else Q (.bl false) H3) : tChain r r' ta tb tc σ H Q := h
theorem ifT {p : Prop} [Decidable p] (hp : p) (h : A) : if decide p = true then A else B := by rw [if_pos (decide_eq_true hp)]; exact h
theorem ifF {p : Prop} [Decidable p] (hp : ¬ p) (h : B) : if decide p = true then A else B := by rw [decide_eq_false hp, if_neg Bool.false_ne_true]; exact h
theorem ifd {p : Prop} [Decidable p] (h1 : p → A) (h2 : ¬ p → B) : if decide p = true then A else B := by
  by_cases hp : p
  · exact ifT hp (h1 hp)
  · exact ifF hp (h2 hp)
theorem ifNT {p : Prop} [Decidable p] (hp : ¬ p) (h : A) : if (!decide p) = true then A else B := by rw [decide_eq_false hp]; exact iteT h
theorem ifNF {p : Prop} [Decidable p] (hp : p) (h : B) : if (!decide p) = true then A else B := by rw [decide_eq_true hp]; exact iteF h
theorem ifNd {p : Prop} [Decidable p] (h1 : ¬ p → A) (h2 : p → B) : if (!decide p) = true then A else B := by
  by_cases hp : p
  · exact ifNF hp (h2 hp)
  · exact ifNT hp (h1 hp)
theorem ifTT (h : A) : if true = true then A else B := iteT h
theorem ifFF (h : B) : if false = true then A else B := iteF h
theorem ifNTT (h : A) : if (!false) = true then A else B := iteT h
theorem ifNFF (h : B) : if (!true) = true then A else B := iteF h
theorem ifNN {b : Bool} (h : if b = true then A else B) : if (!!b) = true then A else B := by rw [Bool.not_not]; exact h
theorem ifb {b : Bool} (h1 : b = true → A) (h2 : b = false → B) : if b = true then A else B := by
  cases b with
  | true => exact iteT (h1 rfl)
  | false => exact iteF (h2 rfl)
theorem ifbT {b : Bool} (hb : b = true) (h : A) : if b = true then A else B := by rw [hb]; exact iteT h
theorem ifbF {b : Bool} (hb : b = false) (h : B) : if b = true then A else B := by rw [hb]; exact iteF h
theorem ifNbT {b : Bool} (hb : b = false) (h : A) : if (!b) = true then A else B := by rw [hb]; exact iteT h
theorem ifNbF {b : Bool} (hb : b = true) (h : B) : if (!b) = true then A else B := by rw [hb]; exact iteF h
-- statements
theorem seq (h : t { D with nx := u D } σ H) : tSeq t u D σ H := h
theorem ifS (h : ct σ H fun b H1 => if b = true then t D σ H1 else u D σ H1) : tIfS ct t u D σ H := h
theorem asg {g : TG} (h : te σ H fun x H1 => g x σ H1 D.nx) : tAsg te g D σ H := h
theorem gnm {n : Nat} {Q : L2.St → Hp → Prop} (h : Q (σ.set n (some v)) H) : gName n v σ H Q := h
theorem ret (h : te σ H D.rt) : tRet te D σ H := h
theorem retN (h : D.rt .non H) : tRetN D σ H := h
theorem drop (h : te σ H fun _ H1 => D.nx σ H1) : tDrop te D σ H := h
theorem nxt (h : D.nx σ H) : tNext D σ H := h
theorem brk (h : D.bk σ H) : tBreak D σ H := h
theorem cnt (h : D.ct σ H) : tCont D σ H := h
theorem aug {n : Nat} {ti : TIp} (hx : σ[n]? = some (some x)) (h : te σ H fun y H1 => ti x y H1 fun z H2 => D.nx (σ.set n (some z)) H2) : tAug n te ti D σ H := ⟨x, hx, h⟩
theorem ipi {f : Int → Int → Int} (q : Q (.int (f i j)) H) : ipI f (.int i) (.int j) H Q := ⟨i, j, rfl, rfl, q⟩
theorem par {n m : Nat} (h : al σ H fun vs H1 => ∃ v w, vs = [v, w] ∧ D.nx ((σ.set n (some v)).set m (some w)) H1) : tPar n m al D σ H := h
theorem par2 {N : V → V → Prop} {w : V} (h : N v w) : ∃ v' w', [v, w] = [v', w'] ∧ N v' w' := ⟨v, w, rfl, h⟩
/-- targets: a tuple to names -/
theorem gtup {n : Nat} {g : TGs} {Q : L2.St → Hp → Prop} (h : SqT K H a xs) (hn : xs.length = n) (q : g xs σ H Q) : gTup K n g (.ref a) σ H Q := ⟨a, xs, rfl, h, hn, q⟩
theorem gcons {g : TG} {gs : TGs} {Q : L2.St → Hp → Prop} (q : g v σ H fun σ' H' => gs xs σ' H' Q) : gCons g gs (v :: xs) σ H Q := ⟨v, xs, rfl, q⟩
theorem gnil {Q : L2.St → Hp → Prop} (q : Q σ H) : gNil [] σ H Q := ⟨rfl, q⟩
theorem gsub {te2 : TE} {ts : TSet} {Q : L2.St → Hp → Prop} (h : te σ H fun o H1 => te2 σ H1 fun i H2 => ts o i v H2 fun H3 => Q σ H3) : gSub te te2 ts v σ H Q := h
theorem setL {R : Hp → Prop} {n : Nat} (h : H l = some (.lst xs)) (hi : ixN xs.length i = some n) (q : R (upd H l (.lst (xs.set n v)))) : rSetL (.ref l) (.int i) v H R := ⟨l, xs, i, n, rfl, rfl, h, hi, q⟩
-- arguments
theorem nil (q : QA [] H) : tNil σ H QA := q
theorem cons (h : ta σ H fun x H1 => al σ H1 fun xs H2 => QA (x :: xs) H2) : tCons ta al σ H QA := h
theorem cb {r : List V → Hp → VK → Prop} (h : al σ H fun vs H1 => r vs H1 Q) : tCB r al σ H Q := h
theorem call {sp : Sp} {dvs : List V} {E : XK} (h : al σ H fun vs H1 => sp (vs ++ dvs) H1 Q E) : tCall sp dvs E al σ H Q := h
-- displays
def xTup (xs : List V) (H : Hp) (Q : VK) : Prop := xs.length ≤ sizeLine ∧ ∀ p, H p = none → Q (.ref p) (upd H p (.tup xs))
def xLst (xs : List V) (H : Hp) (Q : VK) : Prop := xs.length ≤ sizeLine ∧ ∀ p, H p = none → Q (.ref p) (upd H p (.lst xs))
theorem tup (h : al σ H fun xs H1 => xTup xs H1 Q) : tTup al σ H Q := h
theorem lst (h : al σ H fun xs H1 => xLst xs H1 Q) : tLst al σ H Q := h
theorem sz_le {n : Nat} (h : Nat.ble n 100000 = true) : n ≤ sizeLine := Dk.sz5 (Nat.le_of_ble_eq_true h)
theorem xtup (n : Nat.ble xs.length 100000 = true) (q : ∀ p H', H p = none → Ex H H' → H' p = some (.tup xs) → Q (.ref p) H') : xTup xs H Q := ⟨sz_le n, fun p hp => q p _ hp (Ex.new hp) upd_same⟩
theorem xlst (n : Nat.ble xs.length 100000 = true) (q : ∀ p H', H p = none → Ex H H' → H' p = some (.lst xs) → Q (.ref p) H') : xLst xs H Q := ⟨sz_le n, fun p hp => q p _ hp (Ex.new hp) upd_same⟩
theorem xlstU (n : Nat.ble xs.length 100000 = true) (q : ∀ p, H p = none → Q (.ref p) (upd H p (.lst xs))) : xLst xs H Q := ⟨sz_le n, q⟩
-- subscripts
theorem ixL (h : SqL K H l xs) (ha : atI xs i = some v) (q : Q v H) : rIxL K (.ref l) (.int i) H Q := ⟨l, xs, i, v, rfl, rfl, h, ha, q⟩
theorem ixT (h : SqT K H l xs) (ha : atI xs i = some v) (q : Q v H) : rIxT K (.ref l) (.int i) H Q := ⟨l, xs, i, v, rfl, rfl, h, ha, q⟩
-- fields
def rFld (K : PySem.W.Frag) (f : Str) (x : V) (H : Hp) (Q : VK) : Prop := ∃ a C dx fs v, x = .ref a ∧ H a = some (.ins C dx fs) ∧ Cls K C ∧ NoAttr K C f ∧ fs.lookup f = some v ∧ Q v H
theorem fld {f : Str} (h : ta σ H fun x H1 => rFld K f x H1 Q) : tFld K ta f σ H Q := h
theorem rfld {f : Str} (h : H a = some (.ins C dx fs)) (c : Cls K C) (n : NoAttr K C f) (lk : fs.lookup f = some v) (q : Q v H) : rFld K f (.ref a) H Q := ⟨a, C, dx, fs, v, rfl, h, c, n, lk, q⟩
def rSt (K : PySem.W.Frag) (f : Str) (v x : V) (H : Hp) (N : Hp → Prop) : Prop := ∃ a C dx fs, x = .ref a ∧ H a = some (.ins C dx fs) ∧ Cls K C ∧ NoAttr K C f ∧ fs.length < 1000 ∧ N (upd H a (.ins C dx (putF f v fs)))
-- methods
def xMeth (C : Addr) (m : Str) (x : V) (H : Hp) (P : Prop) : Prop := ∃ a dx fs, x = .ref a ∧ H a = some (.ins C dx fs) ∧ fs.lookup m = none ∧ P
theorem meth {m : Str} {sp : Sp} {dvs : List V} {E : XK} (h : ta σ H fun x H1 => xMeth C m x H1 (al σ H1 fun vs H2 => sp (x :: (vs ++ dvs)) H2 Q E)) : tMeth C m sp dvs E ta al σ H Q :=
  h
def xTy (K : PySem.W.Frag) (T : String) (x : V) (H : Hp) (P : Prop) : Prop := tyV K T x H ∧ P
theorem bm {T : String} {r : V → List V → Hp → VK → Prop} (h : te σ H fun x H1 => xTy K T x H1 (al σ H1 fun xs H2 => r x xs H2 Q)) : tBM K T r te al σ H Q := h
theorem bm0 {T : String} {r : V → List V → Hp → VK → Prop} (h : te σ H fun x H1 => xTy K T x H1 (r x [] H1 Q)) : tBM0 K T r te σ H Q := h
theorem xtyL {P : Prop} (h : SqL K H l xs) (p : P) : xTy K "list" (.ref l) H P := ⟨.inl ⟨rfl, _, h⟩, p⟩
theorem append (h : H l = some (.lst xs)) (n : xs.length < 100000) (q : Q .non (upd H l (.lst (xs ++ [v])))) : rAppend (.ref l) [v] H Q := ⟨l, xs, v, rfl, rfl, h, sz_lt n, q⟩
theorem reverse (h : H l = some (.lst xs)) (q : Q .non (upd H l (.lst xs.reverse))) : rReverse (.ref l) [] H Q := ⟨l, xs, rfl, rfl, h, q⟩
theorem pop (h : H l = some (.lst xs)) (hl : xs[xs.length - 1]? = some y) (q : Q y (upd H l (.lst xs.dropLast))) : rPop (.ref l) [] H Q := ⟨l, xs, y, rfl, rfl, h, hl, q⟩
end
end Rd
namespace Rd
open PySem PySem.Spec PyProof.Rows L2
section
variable {X : Cx}
def rLen (K : PySem.W.Frag) : List V → Hp → VK → Prop := fun xs H Q => ∃ p ys, xs = [.ref p] ∧ (SqL K H p ys ∨ SqT K H p ys) ∧ Q (.int ys.length) H
theorem c_len : CallR X (.builtin "len") (rLen X.K) := call_len_seq
def rLenStr : List V → Hp → VK → Prop := fun xs H Q => ∃ z, xs = [.str z] ∧ z.length ≤ sizeLine ∧ Q (.int z.length) H
theorem c_lenS : CallR X (.builtin "len") rLenStr := call_len_str
def rAbs : List V → Hp → VK → Prop := fun xs H Q => ∃ i, xs = [.int i] ∧ Q (.int (if i < 0 then -i else i)) H
theorem c_abs : CallR X (.builtin "abs") rAbs := call_abs
def rInt1 : List V → Hp → VK → Prop := fun xs H Q => (∃ i, xs = [.int i] ∧ Q (.int i) H) ∨ ∃ k, xs = [.bl k] ∧ Q (.int (if k then 1 else 0)) H
theorem c_int : CallR X (.type "int") rInt1 := call_int1
def rListOf (K : PySem.W.Frag) : List V → Hp → VK → Prop := fun xs H Q => ∃ p ys, xs = [.ref p] ∧ (SqL K H p ys ∨ SqT K H p ys) ∧ ∀ l, H l = none → Q (.ref l) (upd H l (.lst ys))
theorem c_list : CallR X (.type "list") (rListOf X.K) := call_list_of
def rMax2 : List V → Hp → VK → Prop := fun xs H Q => ∃ i j, xs = [.int i, .int j] ∧ Q (.int (if j > i then j else i)) H
theorem c_max2 (hc : X.calm = true) : CallR X (.builtin "max") rMax2 := call_max2 hc
def rMin2 : List V → Hp → VK → Prop := fun xs H Q => ∃ i j, xs = [.int i, .int j] ∧ Q (.int (if j < i then j else i)) H
theorem c_min2 (hc : X.calm = true) : CallR X (.builtin "min") rMin2 := call_min2 hc
end
end Rd
namespace Rd
open PySem PySem.Spec PyProof.Rows L2 Evl Dk
section
variable {σ : L2.St} {H : Hp} {Q : VK} {x : V} {K : PySem.W.Frag} {i j : Int} {xs : List V} {l : Addr}
theorem len (h : SqL K H l xs) (q : Q (.int xs.length) H) : Rd.rLen K [.ref l] H Q := ⟨l, xs, rfl, .inl h, q⟩
theorem lenT (h : SqT K H l xs) (q : Q (.int xs.length) H) : Rd.rLen K [.ref l] H Q := ⟨l, xs, rfl, .inr h, q⟩
theorem lenS {s : Str} (h : s.length ≤ 100000) (q : Q (.int s.length) H) : Rd.rLenStr [.str s] H Q := ⟨s, rfl, sz_of h, q⟩
theorem abs (q : Q (.int (if i < 0 then -i else i)) H)   : Rd.rAbs [.int i] H Q := ⟨i, rfl, q⟩
theorem int (q : Q (.int i) H) : Rd.rInt1 [.int i] H Q := .inl ⟨i, rfl, q⟩
theorem intB {k : Bool} (q : Q (.int (if k then 1 else 0)) H) : Rd.rInt1 [.bl k] H Q := .inr ⟨k, rfl, q⟩
theorem listOf (h : SqL K H l xs) (q : ∀ p H', H p = none → Ex H H' → H' p = some (.lst xs) → Q (.ref p) H') : Rd.rListOf K [.ref l] H Q := ⟨l, xs, rfl, .inl h, fun p hp => q p _ hp (Ex.new hp) upd_same⟩
theorem listOfU (h : SqL K H l xs) (q : ∀ p, H p = none → Q (.ref p) (upd H p (.lst xs))) : Rd.rListOf K [.ref l] H Q := ⟨l, xs, rfl, .inl h, q⟩
theorem max2 (q : Q (.int (if j > i then j else i)) H) : Rd.rMax2 [.int i, .int j] H Q := ⟨i, j, rfl, q⟩
theorem min2 (q : Q (.int (if j < i then j else i)) H) : Rd.rMin2 [.int i, .int j] H Q := ⟨i, j, rfl, q⟩
theorem take {m : Int} {E : XK} (h : H l = some (DkO l)) (hm : 0 < m) (q : ∀ k : Int, 0 ≤ k → k < m → Q (.int k) H) : spTake ([.ref l, .int m] ++ []) H Q E := ⟨l, m, rfl, h, hm, q⟩
end
end Rd
/-! ### data of any depth: what it is made of, and that it stays -/
namespace Dt
open PySem PySem.Spec PyProof.Rows L2 Evl
section
variable {K : PySem.W.Frag} {H H' : Hp} {v : V} {xs vs : List V} {d : PyData} {ds : List PyData} {a : Addr}
mutual
theorem mono (e : Ex H H') : ∀ (d : PyData) (v : V), Dp K H v d → Dp K H' v d
  | .none, _, h => by cases h; exact .non
  | .bool b, _, h => by cases h; exact .bl b
  | .int i, _, h => by cases h; exact .int i
  | .str x, _, h => by cases h; exact .str x
  | .list ds, _, h => by
    cases h with
    | lst hs ha => exact .lst (ex_l e hs) (monoAll e ds _ ha)
  | .tuple ds, _, h => by
    cases h with
    | tup hs ha => exact .tup (ex_t e hs) (monoAll e ds _ ha)
  | .dict _, _, h => by cases h
theorem monoAll (e : Ex H H') : ∀ (ds : List PyData) (vs : List V), DpAll K H vs ds → DpAll K H' vs ds
  | [], _, h => by cases h; exact .nil
  | d :: ds, _, h => by
    cases h with
    | cons h1 h2 => exact .cons (mono e d _ h1) (monoAll e ds _ h2)
end
theorem mn (h : Dp K H v d) (e : Ex H H') : Dp K H' v d := mono e d v h
theorem mnA (h : DpAll K H vs ds) (e : Ex H H') : DpAll K H' vs ds := monoAll e ds vs h
theorem inv_l (h : Dp K H v (.list ds)) : ∃ a xs, v = .ref a ∧ SqL K H a xs ∧ DpAll K H xs ds := by
  cases h with
  | lst hs ha => exact ⟨_, _, rfl, hs, ha⟩
theorem inv_t (h : Dp K H v (.tuple ds)) : ∃ a xs, v = .ref a ∧ SqT K H a xs ∧ DpAll K H xs ds := by
  cases h with
  | tup hs ha => exact ⟨_, _, rfl, hs, ha⟩
theorem inv_i {i : Int} (h : Dp K H v (.int i)) : v = .int i := by cases h; rfl
theorem inv_s {s : Str} (h : Dp K H v (.str s)) : v = .str s := by cases h; rfl
theorem inv_b {b : Bool} (h : Dp K H v (.bool b)) : v = .bl b := by cases h; rfl
theorem inv_n (h : Dp K H v .none) : v = .non := by cases h; rfl
theorem lenA : ∀ {vs : List V} {ds : List PyData}, DpAll K H vs ds → vs.length = ds.length
  | _, [], h => by cases h; rfl
  | _, d :: ds, h => by
    cases h with
    | cons _ h2 => simp [lenA h2]
theorem getA : ∀ {vs : List V} {ds : List PyData} {i : Nat} {v : V} {d : PyData}, DpAll K H vs ds → vs[i]? = some v → ds[i]? = some d → Dp K H v d
  | _, [], _, _, _, h, _, e => by simp at e
  | _, d :: ds, 0, _, _, h, e1, e2 => by
    cases h with
    | cons h1 _ =>
      simp at e1 e2
      rw [← e1, ← e2]
      exact h1
  | _, d :: ds, i + 1, _, _, h, e1, e2 => by
    cases h with
    | cons _ h2 => exact getA (i := i) h2 (by simpa using e1) (by simpa using e2)
theorem getA1 {i : Nat} (h : DpAll K H vs ds) (e : vs[i]? = some v) : ∃ d, ds[i]? = some d ∧ Dp K H v d := by
  have hl := lenA h
  have hi : i < vs.length := (List.getElem?_eq_some_iff.mp e).1
  exact ⟨ds[i]'(by omega), List.getElem?_eq_getElem (by omega), getA h e (List.getElem?_eq_getElem (by omega))⟩
theorem getA2 {i : Nat} (h : DpAll K H vs ds) (e : ds[i]? = some d) : ∃ v, vs[i]? = some v ∧ Dp K H v d := by
  have hl := lenA h
  have hi : i < ds.length := (List.getElem?_eq_some_iff.mp e).1
  exact ⟨vs[i]'(by omega), List.getElem?_eq_getElem (by omega), getA h (List.getElem?_eq_getElem (by omega)) e⟩
theorem consA (h : Dp K H v d) (hs : DpAll K H vs ds) : DpAll K H (v :: vs) (d :: ds) := .cons h hs
theorem appA : ∀ {vs ws : List V} {ds es : List PyData}, DpAll K H vs ds → DpAll K H ws es → DpAll K H (vs ++ ws) (ds ++ es)
  | _, _, [], _, h, g => by cases h; exact g
  | _, _, d :: ds, _, h, g => by
    cases h with
    | cons h1 h2 => exact .cons h1 (appA h2 g)
theorem oneA (h : Dp K H v d) : DpAll K H [v] [d] := .cons h .nil
theorem snocA (hs : DpAll K H vs ds) (h : Dp K H v d) : DpAll K H (vs ++ [v]) (ds ++ [d]) := appA hs (oneA h)
theorem takeA : ∀ {vs : List V} {ds : List PyData} (n : Nat), DpAll K H vs ds → DpAll K H (vs.take n) (ds.take n)
  | _, _, 0, _ => .nil
  | _, [], n + 1, h => by cases h; exact .nil
  | _, d :: ds, n + 1, h => by
    cases h with
    | cons h1 h2 => exact .cons h1 (takeA n h2)
theorem intsA : ∀ (ns : List Int), DpAll K H (ns.map V.int) (ns.map PyData.int)
  | [] => .nil
  | n :: ns => .cons (.int n) (intsA ns)
theorem strsA : ∀ (ns : List Str), DpAll K H (ns.map V.str) (ns.map PyData.str)
  | [] => .nil
  | n :: ns => .cons (.str n) (strsA ns)
/-- list and tuple made -/
theorem ofL (h : H a = some (.lst vs)) (hs : DpAll K H vs ds) : Dp K H (.ref a) (.list ds) := .lst (SqL.of h) hs
theorem ofT (h : H a = some (.tup vs)) (hs : DpAll K H vs ds) : Dp K H (.ref a) (.tuple ds) := .tup (SqT.of h) hs
end
end Dt
namespace Rd
open PySem PySem.Spec PyProof.Rows L2 Evl Dk
section
variable {σ σ' : L2.St} {H H' : Hp} {Q : VK} {v x y z : V} {te : TE} {K : PySem.W.Frag} {i j lo n : Int} {D : Ends} {tb : TS} {al : TA} {xs ys : List V} {a l C dx : Addr} {d e : PyData} {g : TG}
theorem eqD (h1 : Dp K H x d) (h2 : Dp K H y e) (s1 : SeqAt.shaped d = true) (s2 : SeqAt.shaped e = true) (q : Q (.bl (PyData.eqv d e)) H) : rEqD K x y H Q := ⟨d, e, h1, h2, s1, s2, q⟩
theorem neD (h1 : Dp K H x d) (h2 : Dp K H y e) (s1 : SeqAt.shaped d = true) (s2 : SeqAt.shaped e = true) (q : Q (.bl (!PyData.eqv d e)) H) : rNeD K x y H Q := ⟨d, e, h1, h2, s1, s2, q⟩
theorem eqvRefl (s : SeqAt.shaped d = true) : PyData.eqv d d = true := SeqAt.eqv_refl d (SeqAt.canLay_of_shaped s)
theorem eqDr (h1 : Dp K H x d) (h2 : Dp K H y d) (s1 : SeqAt.shaped d = true) (q : Q (.bl true) H) : rEqD K x y H Q := ⟨d, d, h1, h2, s1, s1, by rw [eqvRefl s1]; exact q⟩
theorem neDr (h1 : Dp K H x d) (h2 : Dp K H y d) (s1 : SeqAt.shaped d = true) (q : Q (.bl false) H) : rNeD K x y H Q := ⟨d, d, h1, h2, s1, s1, by rw [eqvRefl s1]; exact q⟩
/-! isinstance -/
theorem isiTy {t T : String} {b : Bool} (h : TyOf K H x (.type t)) (k : kitB t T = some b) (q : Q (.bl b) H) : rIsi K [x, .ty T] H Q := ⟨x, .ty T, .type t, .type T, b, rfl, .ty T, .base h, kit_ty k, q⟩
theorem isiInt {T : String} {b : Bool} (k : kitB "int" T = some b) (q : Q (.bl b) H) : rIsi K [.int i, .ty T] H Q := isiTy (.int i) k q
theorem isiBl {T : String} {b c : Bool} (k : kitB "bool" T = some b) (q : Q (.bl b) H) : rIsi K [.bl c, .ty T] H Q := isiTy (.bl c) k q
theorem isiStr {T : String} {b : Bool} {s : Str} (k : kitB "str" T = some b) (q : Q (.bl b) H) : rIsi K [.str s, .ty T] H Q := isiTy (.str s) k q
theorem isiNon {T : String} {b : Bool} (k : kitB "NoneType" T = some b) (q : Q (.bl b) H) : rIsi K [.non, .ty T] H Q := isiTy .non k q
theorem isiLst {T : String} {b : Bool} (h : H a = some (.lst xs)) (k : kitB "list" T = some b) (q : Q (.bl b) H) : rIsi K [.ref a, .ty T] H Q := isiTy (.lst h) k q
theorem isiTup {T : String} {b : Bool} (h : H a = some (.tup xs)) (k : kitB "tuple" T = some b) (q : Q (.bl b) H) : rIsi K [.ref a, .ty T] H Q := isiTy (.tup h) k q
/-! loops -/
def xFR1 (g : TG) (tb : TS) (D : Ends) (σ : L2.St) (vs : List V) (H1 : Hp) : Prop := ∃ j : Int, vs = [.int j] ∧ -(2 ^ 62) ≤ j ∧ j < 2 ^ 62 ∧ ∃ W : Nat → Nat → L2.St → Hp → Prop, (∃ m, W 0 m σ H1) ∧ ∀ i m σ H, W i m σ H →
      ((Itr 0 j.toNat).stop i H ∧ D.nx σ H) ∨ ((Itr 0 j.toNat).go i H ∧ ∃ N : L2.St → Hp → Prop, (∀ σ' H', N σ' H' → ∃ m', m' < m ∧ W (i + 1) m' σ' H') ∧ ∀ x H', (Itr 0 j.toNat).yld i H x H' → g x σ H' fun σ2 H2 => tb { D with nx := N, ct := N, bk := D.nx } σ2 H2)
theorem forR1 (h : al σ H fun vs H1 => xFR1 g tb D σ vs H1) : tFor (iRng1 al) g tb D σ H := h
theorem xfr1 {k : Nat} (hb : -(2 ^ 62) ≤ n ∧ n < 2 ^ 62) (Pv : Nat → L2.St → Hp → Prop) (h0 : Pv 0 σ H)
    (hs : ∀ (i : Nat) σ' H', (i : Int) < n → Pv i σ' H' → tb { D with nx := Pv (i + 1), ct := Pv (i + 1), bk := D.nx } (σ'.set k (some (.int (i : Int)))) H') (hd : ∀ σ' H', Pv n.toNat σ' H' → D.nx σ' H') : xFR1 (gName k) tb D σ [.int n] H :=
  ⟨n, rfl, hb.1, hb.2, for_range (lo := 0) (n := n.toNat) Pv h0 (fun i σ' H' hi p => by
    have e0 : (0 : Int) + (i : Int) = (i : Int) := Int.zero_add _
    show tb { D with nx := Pv (i + 1), ct := Pv (i + 1), bk := D.nx } (σ'.set k (some (.int ((0 : Int) + (i : Int))))) H'
    rw [e0]
    exact hs i σ' H' (by omega) p) hd⟩
def xFR2 (g : TG) (tb : TS) (D : Ends) (σ : L2.St) (vs : List V) (H1 : Hp) : Prop := ∃ i0 j : Int, vs = [.int i0, .int j] ∧ (-(2 ^ 62) ≤ i0 ∧ i0 < 2 ^ 62 ∧ -(2 ^ 62) ≤ j ∧ j < 2 ^ 62) ∧ ∃ W : Nat → Nat → L2.St → Hp → Prop, (∃ m, W 0 m σ H1) ∧ ∀ i m σ H, W i m σ H →
      ((Itr i0 (j - i0).toNat).stop i H ∧ D.nx σ H) ∨ ((Itr i0 (j - i0).toNat).go i H ∧ ∃ N : L2.St → Hp → Prop, (∀ σ' H', N σ' H' → ∃ m', m' < m ∧ W (i + 1) m' σ' H') ∧ ∀ x H', (Itr i0 (j - i0).toNat).yld i H x H' → g x σ H' fun σ2 H2 => tb { D with nx := N, ct := N, bk := D.nx } σ2 H2)
theorem forR2 (h : al σ H fun vs H1 => xFR2 g tb D σ vs H1) : tFor (iRng2 al) g tb D σ H := h
theorem xfr2 {k : Nat} (hb : -(2 ^ 62) ≤ lo ∧ lo < 2 ^ 62 ∧ -(2 ^ 62) ≤ n ∧ n < 2 ^ 62) (Pv : Nat → L2.St → Hp → Prop) (h0 : Pv 0 σ H)
    (hs : ∀ (i : Nat) σ' H', lo + (i : Int) < n → Pv i σ' H' → tb { D with nx := Pv (i + 1), ct := Pv (i + 1), bk := D.nx } (σ'.set k (some (.int (lo + (i : Int))))) H') (hd : ∀ σ' H', Pv (n - lo).toNat σ' H' → D.nx σ' H') : xFR2 (gName k) tb D σ [.int lo, .int n] H :=
  ⟨lo, n, rfl, hb, for_range (lo := lo) (n := (n - lo).toNat) Pv h0 (fun i σ' H' hi p => hs i σ' H' (by omega) p) hd⟩
def xFL (K : PySem.W.Frag) (g : TG) (tb : TS) (D : Ends) (σ : L2.St) (x : V) (H1 : Hp) : Prop := ∃ a, x = .ref a ∧ (∃ xs, SqL K H1 a xs) ∧ ∃ W : Nat → Nat → L2.St → Hp → Prop, (∃ m, W 0 m σ H1) ∧ ∀ i m σ H, W i m σ H →
      ((Itl K a).stop i H ∧ D.nx σ H) ∨ ((Itl K a).go i H ∧ ∃ N : L2.St → Hp → Prop, (∀ σ' H', N σ' H' → ∃ m', m' < m ∧ W (i + 1) m' σ' H') ∧ ∀ x H', (Itl K a).yld i H x H' → g x σ H' fun σ2 H2 => tb { D with nx := N, ct := N, bk := D.nx } σ2 H2)
theorem forL (h : te σ H fun x H1 => xFL K g tb D σ x H1) : tFor (iList K te) g tb D σ H := h
theorem xfl (hx : SqL K H a xs) (Pv : Nat → L2.St → Hp → Prop) (h0 : Pv 0 σ H) (hl : ∀ i σ' H', i ≤ xs.length → Pv i σ' H' → SqL K H' a xs)
    (hs : ∀ i x σ' H', xs[i]? = some x → Pv i σ' H' → g x σ' H' fun σ2 H2 => tb { D with nx := Pv (i + 1), ct := Pv (i + 1), bk := D.nx } σ2 H2) (hd : ∀ σ' H', Pv xs.length σ' H' → D.nx σ' H') : xFL K g tb D σ (.ref a) H :=
  ⟨a, rfl, ⟨xs, hx⟩, for_list Pv h0 hl hs hd⟩
def xFT (K : PySem.W.Frag) (g : TG) (tb : TS) (D : Ends) (σ : L2.St) (x : V) (H1 : Hp) : Prop := ∃ a, x = .ref a ∧ (∃ xs, SqT K H1 a xs) ∧ ∃ W : Nat → Nat → L2.St → Hp → Prop, (∃ m, W 0 m σ H1) ∧ ∀ i m σ H, W i m σ H →
      ((Itt K a).stop i H ∧ D.nx σ H) ∨ ((Itt K a).go i H ∧ ∃ N : L2.St → Hp → Prop, (∀ σ' H', N σ' H' → ∃ m', m' < m ∧ W (i + 1) m' σ' H') ∧ ∀ x H', (Itt K a).yld i H x H' → g x σ H' fun σ2 H2 => tb { D with nx := N, ct := N, bk := D.nx } σ2 H2)
theorem forT (h : te σ H fun x H1 => xFT K g tb D σ x H1) : tFor (iTup K te) g tb D σ H := h
theorem xft (hx : SqT K H a xs) (Pv : Nat → L2.St → Hp → Prop) (h0 : Pv 0 σ H) (hl : ∀ i σ' H', i ≤ xs.length → Pv i σ' H' → SqT K H' a xs)
    (hs : ∀ i x σ' H', xs[i]? = some x → Pv i σ' H' → g x σ' H' fun σ2 H2 => tb { D with nx := Pv (i + 1), ct := Pv (i + 1), bk := D.nx } σ2 H2) (hd : ∀ σ' H', Pv xs.length σ' H' → D.nx σ' H') : xFT K g tb D σ (.ref a) H :=
  ⟨a, rfl, ⟨xs, hx⟩, for_tup Pv h0 hl hs hd⟩
/-- powers of written numbers -/
theorem pw {m : Int} (c : CPow i j) (h : i ^ j.toNat = m) (q : Q (.int m) H) : rI CPow (fun i j => .int (i ^ j.toNat)) (.int i) (.int j) H Q := i1 c (by rw [h]; exact q)
theorem atI_i {α : Type} {xs : List α} {i : Int} {v : α} (h0 : 0 ≤ i) (h : xs[i.toNat]? = some v) : atI xs i = some v := by
  have e : ((i.toNat : Nat) : Int) = i := Int.toNat_of_nonneg h0
  rw [← e]
  exact atI_nat h
end
end Rd
namespace Rd
open PySem PySem.Spec PyProof.Rows L2 Evl Dk
section
variable {σ : L2.St} {H : Hp} {v x : V} {K : PySem.W.Frag} {D : Ends} {ta te : TE} {a C dx : Addr} {fs : List (Str × V)} {f : Str}
def xSt (K : PySem.W.Frag) (f : Str) (y x : V) (H2 : Hp) (N : Hp → Prop) : Prop := ∃ a C dx fs, x = .ref a ∧ H2 a = some (.ins C dx fs) ∧ Cls K C ∧ NoAttr K C f ∧ fs.length < 1000 ∧ N (upd H2 a (.ins C dx (putF f y fs)))
theorem sfld (h : te σ H fun y H1 => ta σ H1 fun x H2 => xSt K f y x H2 fun H3 => D.nx σ H3) : sFld K ta te f D σ H := h
theorem xst {N : Hp → Prop} (h : H a = some (.ins C dx fs)) (c : Cls K C) (n : NoAttr K C f) (l : Nat.blt fs.length 1000 = true) (q : N (upd H a (.ins C dx (putF f v fs)))) : xSt K f v (.ref a) H N := ⟨a, C, dx, fs, rfl, h, c, n, Nat.le_of_ble_eq_true l, q⟩
def xMk (C : Addr) (sp : V → Hp → VK → Prop) (H : Hp) (Q : VK) : Prop := ∀ x dx, H x = none → H dx = none → dx ≠ x → sp (.ref x) (upd (upd H dx (.own x)) x (.ins C dx [])) (fun v H2 => v = .non ∧ Q (.ref x) H2)
theorem make {C : Addr} {sp : Sp} {dvs : List V} {E : XK} {al : TA} {Q : VK} (h : al σ H fun vs H1 => xMk C (fun x H2 Q2 => sp (x :: (vs ++ dvs)) H2 Q2 E) H1 Q) : tMake C sp dvs E al σ H Q := h
/-- a new instance, told by one fact -/
theorem xmk {C : Addr} {sp : V → Hp → VK → Prop} {H : Hp} {Q : VK} (h : ∀ x dx H', Ex H H' → H x = none → H' x = some (.ins C dx []) → sp (.ref x) H' (fun v H2 => v = .non ∧ Q (.ref x) H2)) : xMk C sp H Q := fun x dx nx nd ne =>
  h x dx _ (fun b o e => by rw [upd_ne (ne_of_none e nx), upd_ne (ne_of_none e nd)]; exact e) nx upd_same
theorem xmeth {m : Str} {P : Prop} (h : H a = some (.ins C dx fs)) (l : fs.lookup m = none) (p : P) : xMeth C m (.ref a) H P := ⟨a, dx, fs, rfl, h, l, p⟩
end
end Rd
namespace Dt
open PySem PySem.Spec PyProof.Rows L2 Evl
/-- no list within -/
def noL : PyData → Bool
  | .list _ => false
  | .tuple ds => ds.attach.all fun ⟨d, _⟩ => noL d
  | _ => true
section
variable {K : PySem.W.Frag} {H : Hp} {l : Addr} {ws : List V} {o : HO}
theorem sqt_upd {a : Addr} {xs : List V} (h : H l = some (.lst ws)) (s : SqT K H a xs) : SqT K (upd H l o) a xs := by
  rcases s with (s | ⟨ob, s⟩) | s
  · refine .inl (.inl ?_)
    rw [upd_ne (fun z => by subst z; rw [h] at s; cases s)]; exact s
  · refine .inl (.inr ⟨ob, ?_⟩)
    rw [upd_ne (fun z => by subst z; rw [h] at s; cases s)]; exact s
  · exact .inr s
mutual
theorem updL (h : H l = some (.lst ws)) : ∀ (d : PyData) (v : V), noL d = true → Dp K H v d → Dp K (upd H l o) v d
  | .none, _, _, h1 => by cases h1; exact .non
  | .bool b, _, _, h1 => by cases h1; exact .bl b
  | .int i, _, _, h1 => by cases h1; exact .int i
  | .str x, _, _, h1 => by cases h1; exact .str x
  | .list _, _, n, _ => by simp [noL] at n
  | .tuple ds, _, n, h1 => by
    cases h1 with
    | tup hs ha => exact .tup (sqt_upd h hs) (updLA h ds _ (by simpa [noL] using n) ha)
  | .dict _, _, _, h1 => by cases h1
theorem updLA (h : H l = some (.lst ws)) : ∀ (ds : List PyData) (vs : List V), (∀ d ∈ ds, noL d = true) → DpAll K H vs ds → DpAll K (upd H l o) vs ds
  | [], _, _, h1 => by cases h1; exact .nil
  | d :: ds, _, n, h1 => by
    cases h1 with
    | cons h2 h3 => exact .cons (updL h d _ (n d List.mem_cons_self) h2) (updLA h ds _ (fun d hd => n d (List.mem_cons_of_mem _ hd)) h3)
end
end
end Dt
namespace Rd
open PySem PySem.Spec PyProof.Rows L2 Evl Dk
/-- only x has changed, which was not there -/
theorem exBut {H H2 H' : Hp} {x : Addr} (e : Ex H H2) (n : H x = none) (s : ∀ b o, b ≠ x → H2 b = some o → H' b = some o) : Ex H H' := fun b o h => s b o (ne_of_none h n) (e b o h)
end Rd
namespace Rd
open PySem PySem.Spec PyProof.Rows L2 Evl Dk
section
variable {σ : L2.St} {H : Hp} {Q : VK} {te : TE} {xs : List V} {v : V} {b : Bool} {t : TT} {QB : Bool → Hp → Prop} {K : PySem.W.Frag} {l : Addr} {a C dx : Addr} {fs : List (Str × V)}
theorem evL (h : EvL te σ H xs) (q : ∀ p H', H p = none → Ex H H' → H' p = some (.lst xs) → Q (.ref p) H') : te σ H Q := h H (Ex.refl H) Q q
theorem evV (h : Ev te σ H v) (q : ∀ H', Ex H H' → Q v H') : te σ H Q := h H (Ex.refl H) Q q
theorem evYes : EvT tYes σ H true := fun H1 _ _ q => q H1 (Ex.refl H1)
theorem given_all (n : Nat) (v : Nat → V) : given n (fun _ => true) v = (List.range n).map v := by
  unfold given
  rw [List.filter_eq_self.mpr (fun _ _ => rfl)]
theorem isiOwn {b : Bool} {D : Addr} (h : H a = some (.ins C dx fs)) (cl : Cls K C) (ha : PySem.W.findIn K (.ref C) "__class__" = some (some (.builtin "object.__class__"))) (hn : PySem.W.specialIn K (.builtin "object.__class__") "__get__" = some (some (.builtin "getset_descriptor.__get__")))
    (htk : PySem.W.takesIn K (.builtin "object.__class__") = some true) (hm : PySem.W.mroIn K C (.type "object") = some true) (k : PySem.W.kitOne K (.ref C) (.ref D) = some b) (q : Q (.bl b) H) : rIsi K [.ref a, .ref D] H Q :=
  ⟨.ref a, .ref D, .ref C, .ref D, b, rfl, .own D, .base (.ins h cl ha hn htk hm), k, q⟩
theorem cat {zs : List V} {c : Addr} (h1 : H l = some (.lst xs)) (h2 : H c = some (.lst zs)) (n : xs.length + zs.length ≤ 100000) (q : ∀ p H', H p = none → Ex H H' → H' p = some (.lst (xs ++ zs)) → Q (.ref p) H') : rCat (.ref l) (.ref c) H Q :=
  ⟨l, c, xs, zs, rfl, rfl, h1, h2, sz_of n, fun p hp => q p _ hp (Ex.new hp) upd_same⟩
theorem lstRg {a b : Int} (h : -100000 ≤ a ∧ a ≤ 100000 ∧ -100000 ≤ b ∧ b ≤ 100000) (q : ∀ p H', H p = none → Ex H H' → H' p = some (.lst (rgV a b)) → Q (.ref p) H') : RgOk a b ∧ ∀ q, H q = none → Q (.ref q) (upd H q (.lst (rgV a b))) :=
  ⟨⟨by omega, by omega, by omega, by omega, by omega⟩, fun p hp => q p _ hp (Ex.new hp) upd_same⟩
theorem pw20 {m : Int} (e : (10 : Int) ^ (20 : Int).toNat = m) (q : Q (.int m) H) : rI CPow (fun i j => .int (i ^ j.toNat)) (.int 10) (.int 20) H Q := pw ⟨by decide, by decide, by decide⟩ e q
end
end Rd
namespace Rd
open PySem PySem.Spec PyProof.Rows L2 Evl Dk
def rCatS : R2 := fun x y H Q => ∃ i j, x = .str i ∧ y = .str j ∧ i.length + j.length ≤ sizeLine ∧ Q (.str (i ++ j)) H
theorem op_addS {X : Cx} : OpR X (binaryOp .Add) rCatS := op_add_str
theorem catS {H : Hp} {Q : VK} {i j : Str} (h : i.length + j.length ≤ 100000) (q : Q (.str (i ++ j)) H) : rCatS (.str i) (.str j) H Q := ⟨i, j, rfl, rfl, sz_of h, q⟩
end Rd
namespace Rd
open PySem PySem.Spec PyProof.Rows L2 Evl Dk
section
variable {σ : L2.St} {H : Hp} {Q : VK} {te tf : TE} {x y : V} {n m : Int}
def xR1 (x : V) (H1 : Hp) (Q : VK) : Prop := ∃ n, x = .int n ∧ (RgOk 0 n ∧ ∀ q, H1 q = none → Q (.ref q) (upd H1 q (.lst (rgV 0 n))))
theorem listRg1 (h : te σ H fun x H1 => xR1 x H1 Q) : tLstRg (tRg1 te) σ H Q := h
theorem xr1 (h : -100000 ≤ n ∧ n ≤ 100000) (q : ∀ p H', H p = none → Ex H H' → H' p = some (.lst (rgV 0 n)) → Q (.ref p) H') : xR1 (.int n) H Q := ⟨n, rfl, lstRg ⟨by omega, by omega, h.1, h.2⟩ q⟩
end
end Rd
namespace Rd
open PySem PySem.Spec PyProof.Rows L2 Evl Dk
section
variable {σ : L2.St} {H : Hp} {Q : VK} {te tf : TE} {x y : V} {n m : Int} {l : Addr} {xs : List V}
def xR2 (x y : V) (H1 : Hp) (Q : VK) : Prop := ∃ i j, x = .int i ∧ y = .int j ∧ (RgOk i j ∧ ∀ q, H1 q = none → Q (.ref q) (upd H1 q (.lst (rgV i j))))
theorem listRg2 (h : te σ H fun x H1 => tf σ H1 fun y H2 => xR2 x y H2 Q) : tLstRg (tRg2 te tf) σ H Q := h
theorem xr2 (h : -100000 ≤ n ∧ n ≤ 100000 ∧ -100000 ≤ m ∧ m ≤ 100000) (q : ∀ p H', H p = none → Ex H H' → H' p = some (.lst (rgV n m)) → Q (.ref p) H') : xR2 (.int n) (.int m) H Q := ⟨n, m, rfl, rfl, lstRg h q⟩
theorem eqB {a b : Bool} (q : Q (.bl (decide (a = b))) H) : rEq (.bl a) (.bl b) H Q := ⟨rfl, by rw [dB]; exact q⟩
theorem neB {a b : Bool} (q : Q (.bl (!decide (a = b))) H) : rNe (.bl a) (.bl b) H Q := ⟨rfl, by rw [dB]; exact q⟩
def rInsert : V → List V → Hp → VK → Prop := fun x vs H Q => ∃ (l : Addr) (xs : List V) (i : Int) (y : V), x = .ref l ∧ vs = [.int i, y] ∧ H l = some (.lst xs) ∧ xs.length < sizeLine ∧ 0 ≤ i ∧ i < 2 ^ 63 ∧ Q .non (upd H l (.lst (xs.take i.toNat ++ [y] ++ xs.drop i.toNat)))
theorem mt_ins {X : Cx} : MtR X "list.insert" rInsert := mt_insert
theorem insert {i : Int} {y : V} (h : H l = some (.lst xs)) (hz : xs.length < 100000) (h0 : 0 ≤ i ∧ i ≤ 100000) (q : Q .non (upd H l (.lst (xs.take i.toNat ++ [y] ++ xs.drop i.toNat)))) : rInsert (.ref l) [.int i, y] H Q :=
  ⟨l, xs, i, y, rfl, rfl, h, sz_lt hz, h0.1, by omega, q⟩
theorem rgV_get {a b : Int} {i : Nat} {y : V} (h : (rgV a b)[i]? = some y) : y = .int (a + i) ∧ (i : Int) < b - a := by
  unfold rgV at h
  rw [List.getElem?_map] at h
  by_cases hi : i < (b - a).toNat
  · rw [List.getElem?_range hi] at h
    exact ⟨(Option.some.inj h).symm, by omega⟩
  · rw [List.getElem?_eq_none (by rw [List.length_range]; omega)] at h; cases h
end
end Rd
namespace Rd
open PySem PySem.Spec PyProof.Rows L2 Evl Dk
section
variable {σ : L2.St} {H : Hp} {Q : VK} {te tl : TE} {al : TA} {x y : V} {n m : Int} {l : Addr} {xs : List V} {g : TG} {tt : TT} {vs : List Nat} {K : PySem.W.Frag} {j : Nat}
def xLcR (g : TG) (tt : TT) (te : TE) (vs : List Nat) (σ : L2.St) (ws : List V) (H : Hp) (Q : VK) : Prop := tLc (iRng1 (fun _ H Q => Q ws H)) g tt te vs σ H Q
theorem lcR1 (h : al σ H fun ws H1 => xLcR g tt te vs σ ws H1 Q) : tLc (iRng1 al) g tt te vs σ H Q := h
theorem xlcR (f : Nat → Bool) (v : Nat → V) (hn : 0 ≤ n ∧ n ≤ 40000) (hw : ∀ x, wipe ((wipe σ vs).set j (some x)) vs = wipe σ vs)
    (ht : ∀ (i : Nat) H1, Ex H H1 → (i : Int) < n → EvT tt ((wipe σ vs).set j (some (.int (i : Int)))) H1 (f i)) (he : ∀ (i : Nat) H1, Ex H H1 → (i : Int) < n → f i = true → Ev te ((wipe σ vs).set j (some (.int (i : Int)))) H1 (v i))
    (q : ∀ p H', H p = none → Ex H H' → H' p = some (.lst (given n.toNat f v)) → Q (.ref p) H') : xLcR (gName j) tt te vs σ [.int n] H Q :=
  evL (el_lcR1 f v (fun H1 _ Q q => q H1 (Ex.refl H1)) hn hw ht he) q
def xLcL (K : PySem.W.Frag) (g : TG) (tt : TT) (te : TE) (vs : List Nat) (σ : L2.St) (x : V) (H : Hp) (Q : VK) : Prop := tLc (iList K (fun _ H Q => Q x H)) g tt te vs σ H Q
theorem lcL (h : tl σ H fun x H1 => xLcL K g tt te vs σ x H1 Q) : tLc (iList K tl) g tt te vs σ H Q := h
theorem xlcL (f : Nat → Bool) (v : Nat → V) (hx : SqL K H l xs) (hz : xs.length ≤ 40000) (hw : ∀ x, wipe ((wipe σ vs).set j (some x)) vs = wipe σ vs)
    (ht : ∀ (i : Nat) (x : V) H1, Ex H H1 → xs[i]? = some x → EvT tt ((wipe σ vs).set j (some x)) H1 (f i)) (he : ∀ (i : Nat) (x : V) H1, Ex H H1 → xs[i]? = some x → f i = true → Ev te ((wipe σ vs).set j (some x)) H1 (v i))
    (q : ∀ p H', H p = none → Ex H H' → H' p = some (.lst (given xs.length f v)) → Q (.ref p) H') : xLcL K (gName j) tt te vs σ (.ref l) H Q :=
  evL (el_lcL (a := l) f v (fun H1 _ Q q => q H1 (Ex.refl H1)) hx hz hw ht he) q
end
end Rd
namespace Rd
open PySem PySem.Spec PyProof.Rows L2 Evl Dk
section
variable {σ : L2.St} {H G H' H2 : Hp} {Q : VK} {te tl : TE} {al : TA} {x y : V} {n m : Int} {l p : Addr} {xs : List V} {tt : TT} {vs : List Nat} {K : PySem.W.Frag} {j : Nat} {o : HO}
/-- a tuple of the written part -/
theorem sqtK {k : Addr} {dd : Option Addr} {its : Array Value} {nn : Nat} {sl : Array (Option Value)} (h : K.lookup k = some ⟨.type "tuple", dd, .seq its nn, sl⟩) (v : Vals xs its.toList) (hz : xs.length ≤ 1000) : SqT K H k xs :=
  .inr ⟨_, its, nn, h, rfl, rfl, Nat.le_trans (Nat.le_of_eq (by simpa using v.length.symm)) (Nat.le_trans hz (by decide : 1000 ≤ sizeLine)), v⟩
/-- a part of the heap grows by a new object -/
theorem grow1 (e : Ex G H') (n : H' p = none) : Ex G (upd G p o) := Ex.new (fresh_back e n)
theorem grow2 (e : Ex G H') (e2 : Ex H' H2) (h : H2 p = some o) : Ex (upd G p o) H2 := fun a u ha => by
  by_cases hap : a = p
  · subst hap; rw [upd_same] at ha; rw [h]; exact ha
  · rw [upd_ne hap] at ha; exact e2 _ _ (e _ _ ha)
theorem grow3 {D : Addr} {u : HO} (g : G D = none) (n : H' p = none) (h : H' D = some u) : (upd G p o) D = none := by
  rw [upd_ne (ne_of_none h n)]; exact g
/-- a comprehension over a list; its items are data, made of what stood ahead of it and of what each turn makes -/
def Lw (K : PySem.W.Frag) (H : Hp) (R : Nat → PyData → Prop) (D : Addr) (i : Nat) (H' : Hp) : Prop := H D = none ∧ ∃ (G : Hp) (ys : List V) (ds : List PyData), Ex H G ∧ Ex G H' ∧ G D = none ∧ H' D = some (.lst ys) ∧ DpAll K G ys ds ∧ ds.length = i ∧ ∀ k d, ds[k]? = some d → R k d
theorem lw_turn {R : Nat → PyData → Prop} {D : Addr} {i : Nat} {σ2 : L2.St} (hi : i < 50000) (pw : Lw K H R D i H')
    (he : ∀ (G : Hp) (acc : List V), Ex H G → Ex G H' → G D = none → H' D = some (.lst acc) → ∀ Q' : VK, (∀ y H2 G2 d, Ex G G2 → Ex G2 H2 → G2 D = none → Ex H' H2 → Dp K G2 y d → R i d → Q' y H2) → te σ2 H' Q') :
    te σ2 H' fun y H4 => ∃ acc, H4 D = some (.lst acc) ∧ acc.length < sizeLine ∧ Lw K H R D (i + 1) (upd H4 D (.lst (acc ++ [y]))) := by
  obtain ⟨hD, G, ys, ds, e1, e2, g, hys, hd, hl, hR⟩ := pw
  refine he G ys e1 e2 g hys _ fun y H2 G2 d a1 a2 a3 a4 a5 a6 => ⟨ys, a4 _ _ hys, sz_lt (by rw [Dt.lenA hd]; omega), hD, G2, ys ++ [y], ds ++ [d], e1.trans a1, Ex.mut a2 a3, a3, upd_same, Dt.snocA (Dt.mnA hd a1) a5, by rw [List.length_append, hl]; rfl, fun k d' hk => ?_⟩
  by_cases hki : k < ds.length
  · rw [List.getElem?_append_left hki] at hk; exact hR k d' hk
  · rw [List.getElem?_append_right (by omega)] at hk
    have hk0 : k - ds.length = 0 := by
      cases e : k - ds.length with
      | zero => rfl
      | succ m => rw [e] at hk; cases hk
    rw [hk0] at hk
    have hd' : d = d' := Option.some.inj hk
    rw [← hd', show k = i from by omega]
    exact a6
theorem xlcG (R : Nat → PyData → Prop) (hx : SqL K H l xs) (hz : xs.length ≤ 40000) (hw : ∀ x, wipe ((wipe σ vs).set j (some x)) vs = wipe σ vs)
    (he : ∀ (i : Nat) (x : V) (D : Addr) (G H' : Hp) (acc : List V), xs[i]? = some x → H D = none → Ex H G → Ex G H' → G D = none → H' D = some (.lst acc) →
      ∀ Q' : VK, (∀ y H2 G2 d, Ex G G2 → Ex G2 H2 → G2 D = none → Ex H' H2 → Dp K G2 y d → R i d → Q' y H2) → te ((wipe σ vs).set j (some x)) H' Q')
    (q : ∀ p G' H' ys ds, H p = none → Ex H G' → Ex G' H' → G' p = none → H' p = some (.lst ys) → DpAll K G' ys ds → ds.length = xs.length → (∀ i d, ds[i]? = some d → R i d) → Q (.ref p) H') : xLcL K (gName j) tYes te vs σ (.ref l) H Q :=
  ⟨l, rfl, ⟨xs, hx⟩, fun D hD => lc_list (xs := xs) (Lw K H R D) ⟨hD, H, [], [], Ex.refl H, Ex.new hD, hD, upd_same, .nil, rfl, fun _ _ h => nomatch h⟩
    (fun i H' _ ⟨_, G, _, _, e1, e2, _⟩ => ex_l (e1.trans e2) hx)
    (fun i x H' hi p => ⟨hw x, iteT (B := Lw K H R D (i + 1) H') (lw_turn (by have := (List.getElem?_eq_some_iff.mp hi).1; omega) p fun G acc a1 a2 a3 a4 => he i x D G H' acc hi hD a1 a2 a3 a4)⟩)
    (fun H' ⟨_, G, ys, ds, e1, e2, g, hys, hd, hl, hR⟩ => q D G H' ys ds hD e1 e2 g hys hd hl hR)⟩
theorem xlcGR (R : Nat → PyData → Prop) (hn : 0 ≤ n ∧ n ≤ 40000) (hw : ∀ x, wipe ((wipe σ vs).set j (some x)) vs = wipe σ vs)
    (he : ∀ (i : Nat) (D : Addr) (G H' : Hp) (acc : List V), (i : Int) < n → H D = none → Ex H G → Ex G H' → G D = none → H' D = some (.lst acc) →
      ∀ Q' : VK, (∀ y H2 G2 d, Ex G G2 → Ex G2 H2 → G2 D = none → Ex H' H2 → Dp K G2 y d → R i d → Q' y H2) → te ((wipe σ vs).set j (some (.int (i : Int)))) H' Q')
    (q : ∀ p G' H' ys ds, H p = none → Ex H G' → Ex G' H' → G' p = none → H' p = some (.lst ys) → DpAll K G' ys ds → ds.length = n.toNat → (∀ i d, ds[i]? = some d → R i d) → Q (.ref p) H') : xLcR (gName j) tYes te vs σ [.int n] H Q :=
  ⟨n, rfl, by omega, by omega, fun D hD => lc_range (lo := 0) (n := n.toNat) (Lw K H R D) ⟨hD, H, [], [], Ex.refl H, Ex.new hD, hD, upd_same, .nil, rfl, fun _ _ h => nomatch h⟩
    (fun i H' hi p => by
      have e0 : (0 : Int) + (i : Int) = (i : Int) := Int.zero_add _
      show wipe ((wipe σ vs).set j (some (.int ((0 : Int) + (i : Int))))) vs = wipe σ vs ∧ _
      rw [e0]
      exact ⟨hw _, iteT (B := Lw K H R D (i + 1) H') (lw_turn (by omega) p fun G acc a1 a2 a3 a4 => he i D G H' acc (by omega) hD a1 a2 a3 a4)⟩)
    (fun H' ⟨_, G, ys, ds, e1, e2, g, hys, hd, hl, hR⟩ => q D G H' ys ds hD e1 e2 g hys hd hl hR)⟩
end
end Rd
namespace Rd
open PySem PySem.Spec PyProof.Rows L2 Evl Dk
section
variable {σ σ' : L2.St} {H H' : Hp} {Q : VK} {te tl : TE} {al : TA} {x y v : V} {n m : Int} {l p : Addr} {xs : List V} {tt : TT} {vs : List Nat} {K : PySem.W.Frag} {j : Nat} {o : HO} {g : TG} {D : Ends} {tb : TS}
/-! loops and comprehensions over a text -/
def xFS (g : TG) (tb : TS) (D : Ends) (σ : L2.St) (x : V) (H1 : Hp) : Prop := ∃ z, x = .str z ∧ ∃ W : Nat → Nat → L2.St → Hp → Prop, (∃ m, W 0 m σ H1) ∧ ∀ i m σ H, W i m σ H →
      ((Its z).stop i H ∧ D.nx σ H) ∨ ((Its z).go i H ∧ ∃ N : L2.St → Hp → Prop, (∀ σ' H', N σ' H' → ∃ m', m' < m ∧ W (i + 1) m' σ' H') ∧ ∀ x H', (Its z).yld i H x H' → g x σ H' fun σ2 H2 => tb { D with nx := N, ct := N, bk := D.nx } σ2 H2)
theorem forS (h : te σ H fun x H1 => xFS g tb D σ x H1) : tFor (iStr te) g tb D σ H := h
theorem xfs {z : Str} (Pv : Nat → L2.St → Hp → Prop) (h0 : Pv 0 σ H)
    (hs : ∀ i c σ' H', z.cps[i]? = some c → Pv i σ' H' → g (.str ⟨#[c]⟩) σ' H' fun σ2 H2 => tb { D with nx := Pv (i + 1), ct := Pv (i + 1), bk := D.nx } σ2 H2) (hd : ∀ σ' H', Pv z.cps.size σ' H' → D.nx σ' H') : xFS g tb D σ (.str z) H := by
  refine ⟨z, rfl, fun i m σ' H' => m = z.cps.size - i ∧ i ≤ z.cps.size ∧ Pv i σ' H', ⟨_, rfl, Nat.zero_le _, h0⟩, ?_⟩
  rintro i m σ' H' ⟨rfl, hi, p⟩
  by_cases hlt : i < z.cps.size
  · exact .inr ⟨hlt, Pv (i + 1), fun σ2 H2 p' => ⟨z.cps.size - (i + 1), by omega, rfl, hlt, p'⟩, fun x H2 ⟨e, c, hc, ex⟩ => by subst e; subst ex; exact hs i c σ' _ hc p⟩
  · have e : i = z.cps.size := by omega
    subst e
    exact .inl ⟨Nat.le_refl _, hd σ' H' p⟩
def xLcS (g : TG) (tt : TT) (te : TE) (vs : List Nat) (σ : L2.St) (x : V) (H : Hp) (Q : VK) : Prop := tLc (iStr (fun _ H Q => Q x H)) g tt te vs σ H Q
theorem lcS (h : tl σ H fun x H1 => xLcS g tt te vs σ x H1 Q) : tLc (iStr tl) g tt te vs σ H Q := h
theorem xlcS {z : Str} (f : Nat → Bool) (v : Nat → V) (hz : z.cps.size ≤ 40000) (hw : ∀ x, wipe ((wipe σ vs).set j (some x)) vs = wipe σ vs)
    (ht : ∀ (i c : Nat) H1, Ex H H1 → z.cps[i]? = some c → EvT tt ((wipe σ vs).set j (some (.str ⟨#[c]⟩))) H1 (f i)) (he : ∀ (i c : Nat) H1, Ex H H1 → z.cps[i]? = some c → f i = true → Ev te ((wipe σ vs).set j (some (.str ⟨#[c]⟩))) H1 (v i))
    (q : ∀ p H', H p = none → Ex H H' → H' p = some (.lst (given z.cps.size f v)) → Q (.ref p) H') : xLcS (gName j) tt te vs σ (.str z) H Q := by
  refine ⟨z, rfl, fun D hD => ⟨fun i m H' => m = z.cps.size - i ∧ i ≤ z.cps.size ∧ Cw H f v D i H', ⟨_, rfl, Nat.zero_le _, hD, Ex.new hD, upd_same⟩, ?_⟩⟩
  rintro i m H' ⟨rfl, hi, p⟩
  by_cases hlt : i < z.cps.size
  · exact .inr ⟨hlt, fun H2 => Cw H f v D (i + 1) H2, fun H2 p' => ⟨z.cps.size - (i + 1), by omega, rfl, hlt, p'⟩, fun x H2 ⟨e, c, hc, ex⟩ => by
      subst e; subst ex
      exact ⟨hw _, cw_turn p (by omega) (ht i c H (Ex.refl H) hc) fun hf => he i c H (Ex.refl H) hc hf⟩⟩
  · have e : i = z.cps.size := by omega
    subst e
    exact .inl ⟨Nat.le_refl _, q D H' p.1 p.2.1 p.2.2⟩
/-! in a tuple or a list of flat items -/
theorem inT {b : Bool} (h : SqT K H p xs) (hx : flatV x = true) (ha : xs.all flatV = true) (hb : inV x xs = b) (q : Q (.bl b) H) : rIn K false x (.ref p) H Q := ⟨p, xs, rfl, .inr h, hx, ha, by rw [hb]; exact q⟩
theorem ninT {b : Bool} (h : SqT K H p xs) (hx : flatV x = true) (ha : xs.all flatV = true) (hb : inV x xs = b) (q : Q (.bl (!b)) H) : rIn K true x (.ref p) H Q := ⟨p, xs, rfl, .inr h, hx, ha, by rw [hb]; exact q⟩
/-! texts -/
def rJoin (K : PySem.W.Frag) : V → List V → Hp → VK → Prop := fun x xs H Q => ∃ a p, ∃ ys : List Str, x = .str a ∧ xs = [.ref p] ∧ (SqL K H p (ys.map V.str) ∨ SqT K H p (ys.map V.str)) ∧ (ys.map (·.length)).sum + ys.length * a.length ≤ 16777216 ∧ Q (.str (Txt.join a ys)) H
theorem mt_jn {X : Cx} : MtR X "str.join" (rJoin X.K) := mt_join
def rFind : V → List V → Hp → VK → Prop := fun x xs H Q => ∃ a b, x = .str a ∧ xs = [.str b] ∧ Q (.int (Txt.find a b)) H
theorem mt_fd {X : Cx} : MtR X "str.find" rFind := mt_find
def rSix : V → List V → Hp → VK → Prop := fun x xs H Q => ∃ a b i rest, x = .str a ∧ xs = [.str b] ∧ Builtin.Str.occurrences a b 0 a.length 1 = i :: rest ∧ Q (.int (i : Nat)) H
theorem mt_six {X : Cx} : MtR X "str.index" rSix := mt_sindex
theorem join {a : Str} {ys : List Str} (h : SqL K H p (ys.map V.str)) (hz : (ys.map (·.length)).sum + ys.length * a.length ≤ 16777216) (q : Q (.str (Txt.join a ys)) H) : rJoin K (.str a) [.ref p] H Q := ⟨a, p, ys, rfl, rfl, .inl h, hz, q⟩
theorem find {a b : Str} (q : Q (.int (Txt.find a b)) H) : rFind (.str a) [.str b] H Q := ⟨a, b, rfl, rfl, q⟩
theorem six {a b : Str} {i : Nat} {r : List Nat} (h : Builtin.Str.occurrences a b 0 a.length 1 = i :: r) (q : Q (.int (i : Nat)) H) : rSix (.str a) [.str b] H Q := ⟨a, b, i, r, rfl, rfl, h, q⟩
def xIsS (x : V) (P : Prop) : Prop := (∃ a, x = .str a) ∧ P
theorem m1 {r : V → List V → Hp → VK → Prop} {tf : TE} (h : te σ H fun x H1 => xIsS x (tf σ H1 fun y H2 => r x [y] H2 Q)) : tM1 r te tf σ H Q := h
theorem m0 {r : V → List V → Hp → VK → Prop} (h : te σ H fun x H1 => xIsS x (r x [] H1 Q)) : tM0 r te σ H Q := h
theorem xiss {a : Str} {P : Prop} (h : P) : xIsS (.str a) P := ⟨⟨a, rfl⟩, h⟩
def rTupOf (K : PySem.W.Frag) : List V → Hp → VK → Prop := fun xs H Q => ∃ p ys, xs = [.ref p] ∧ ((SqL K H p ys ∧ ∀ l, H l = none → Q (.ref l) (upd H l (.tup ys))) ∨ (SqT K H p ys ∧ Q (.ref p) H))
theorem c_tup {X : Cx} : CallR X (.type "tuple") (rTupOf X.K) := call_tuple_of
theorem tupOfL (h : SqL K H p xs) (q : ∀ l H', H l = none → Ex H H' → H' l = some (.tup xs) → Q (.ref l) H') : rTupOf K [.ref p] H Q := ⟨p, xs, rfl, .inl ⟨h, fun l hl => q l _ hl (Ex.new hl) upd_same⟩⟩
theorem tupOfT (h : SqT K H p xs) (q : Q (.ref p) H) : rTupOf K [.ref p] H Q := ⟨p, xs, rfl, .inr ⟨h, q⟩⟩
end
end Rd
namespace Rd
open PySem PySem.Spec PyProof.Rows L2 Evl Dk
theorem ip_addS {X : Cx} : PIp X .Add rCatS := by
  rintro pins s σ H x y v u Q I r1 r2 ⟨i, j, rfl, rfl, hz, q⟩
  obtain ⟨t, rfl⟩ := r1
  obtain ⟨t', rfl⟩ := r2
  exact SB.iadd (fun _ _ => ⟨.str _, H, I.tok _, ⟨_, rfl⟩, q⟩) hz
end Rd
namespace Rd
open PySem PySem.Spec PyProof.Rows L2 Evl Dk
theorem lenSL {s : Str} {n : Nat} {H : Hp} {Q : VK} (h : s.length = n) (hn : n ≤ 100000) (q : Q (.int n) H) : Rd.rLenStr [.str s] H Q := ⟨s, rfl, sz_of (by rw [h]; exact hn), by rw [h]; exact q⟩
end Rd
namespace Dt
open PySem PySem.Spec PyProof.Rows L2 Evl
section
variable {K : PySem.W.Frag} {H : Hp} {l C dx : Addr} {fs : List (Str × V)} {o : HO}
theorem rd_ins {a : Addr} {u : HO} (h : H l = some (.ins C dx fs)) (n : ∀ C dx fs, u ≠ .ins C dx fs) (s : L2.Rd H a u) : L2.Rd (upd H l o) a u := by
  rcases s with s | ⟨ob, s⟩
  · exact .inl (by rw [upd_ne (fun z => by subst z; rw [h] at s; exact n _ _ _ (Option.some.inj s).symm)]; exact s)
  · exact .inr ⟨ob, by rw [upd_ne (fun z => by subst z; rw [h] at s; cases s)]; exact s⟩
theorem sqt_ins {a : Addr} {xs : List V} (h : H l = some (.ins C dx fs)) (s : SqT K H a xs) : SqT K (upd H l o) a xs := by
  rcases s with s | s
  · exact .inl (rd_ins h (fun _ _ _ z => by cases z) s)
  · exact .inr s
theorem sql_ins {a : Addr} {xs : List V} (h : H l = some (.ins C dx fs)) (s : SqL K H a xs) : SqL K (upd H l o) a xs := by
  rcases s with s | s
  · exact .inl (rd_ins h (fun _ _ _ z => by cases z) s)
  · exact .inr s
mutual
/-- data stays where an instance changes -/
theorem updI (h : H l = some (.ins C dx fs)) : ∀ (d : PyData) (v : V), Dp K H v d → Dp K (upd H l o) v d
  | .none, _, h1 => by cases h1; exact .non
  | .bool b, _, h1 => by cases h1; exact .bl b
  | .int i, _, h1 => by cases h1; exact .int i
  | .str x, _, h1 => by cases h1; exact .str x
  | .list ds, _, h1 => by
    cases h1 with
    | lst hs ha => exact .lst (sql_ins h hs) (updIA h ds _ ha)
  | .tuple ds, _, h1 => by
    cases h1 with
    | tup hs ha => exact .tup (sqt_ins h hs) (updIA h ds _ ha)
  | .dict _, _, h1 => by cases h1
theorem updIA (h : H l = some (.ins C dx fs)) : ∀ (ds : List PyData) (vs : List V), DpAll K H vs ds → DpAll K (upd H l o) vs ds
  | [], _, h1 => by cases h1; exact .nil
  | d :: ds, _, h1 => by
    cases h1 with
    | cons h2 h3 => exact .cons (updI h d _ h2) (updIA h ds _ h3)
end
end
end Dt
namespace Rd
open PySem PySem.Spec PyProof.Rows L2 Evl Dk
/-- what a for walks: a list or a tuple -/
def iSeq (K : PySem.W.Frag) (te : TE) : TI := fun σ H R => iList K te σ H R ∨ iTup K te σ H R
theorem pi_seq {X : Cx} {tg l : Expr} {tl : TE} (hl : PE X l tl) : PI X tg l (iSeq X.K tl) := by
  refine ⟨fun pins s σ H R I h => ?_⟩
  rcases h with h | h
  · exact (pi_list hl).run pins s σ H R I h
  · exact (pi_tup hl).run pins s σ H R I h
section
variable {σ : L2.St} {H : Hp} {Q : VK} {te tl : TE} {l : Addr} {xs : List V} {tt : TT} {vs : List Nat} {K : PySem.W.Frag} {j : Nat} {g : TG} {tb : TS} {D : Ends}
theorem lcQL (h : tLc (iList K tl) g tt te vs σ H Q) : tLc (iSeq K tl) g tt te vs σ H Q := .inl h
theorem lcQT (h : tLc (iTup K tl) g tt te vs σ H Q) : tLc (iSeq K tl) g tt te vs σ H Q := .inr h
theorem forQL (h : tFor (iList K tl) g tb D σ H) : tFor (iSeq K tl) g tb D σ H := .inl h
theorem forQT (h : tFor (iTup K tl) g tb D σ H) : tFor (iSeq K tl) g tb D σ H := .inr h
def xLcT (K : PySem.W.Frag) (g : TG) (tt : TT) (te : TE) (vs : List Nat) (σ : L2.St) (x : V) (H : Hp) (Q : VK) : Prop := tLc (iTup K (fun _ H Q => Q x H)) g tt te vs σ H Q
theorem lcT (h : tl σ H fun x H1 => xLcT K g tt te vs σ x H1 Q) : tLc (iTup K tl) g tt te vs σ H Q := h
theorem xlcT (f : Nat → Bool) (v : Nat → V) (hx : SqT K H l xs) (hz : xs.length ≤ 40000) (hw : ∀ x, wipe ((wipe σ vs).set j (some x)) vs = wipe σ vs)
    (ht : ∀ (i : Nat) (x : V) H1, Ex H H1 → xs[i]? = some x → EvT tt ((wipe σ vs).set j (some x)) H1 (f i)) (he : ∀ (i : Nat) (x : V) H1, Ex H H1 → xs[i]? = some x → f i = true → Ev te ((wipe σ vs).set j (some x)) H1 (v i))
    (q : ∀ p H', H p = none → Ex H H' → H' p = some (.lst (given xs.length f v)) → Q (.ref p) H') : xLcT K (gName j) tt te vs σ (.ref l) H Q :=
  ⟨l, rfl, ⟨xs, hx⟩, fun Dl hD => lc_tup (xs := xs) (Cw H f v Dl) ⟨hD, Ex.new hD, upd_same⟩ (fun i H' _ p => ex_t p.2.1 hx)
    (fun i x H' hi p => ⟨hw x, cw_turn p (by have := (List.getElem?_eq_some_iff.mp hi).1; omega) (ht i x H (Ex.refl H) hi) (fun hf => he i x H (Ex.refl H) hi hf)⟩) (fun H' p => q Dl H' p.1 p.2.1 p.2.2)⟩
end
end Rd
namespace Rd
open PySem PySem.Spec PyProof.Rows L2 Evl Dk
section
variable {H : Hp} {Q : VK} {K : PySem.W.Frag} {a : Addr} {xs : List V}
theorem isiSqT {T : String} {b : Bool} (h : SqT K H a xs) (k : kitB "tuple" T = some b) (q : Q (.bl b) H) : rIsi K [.ref a, .ty T] H Q := by
  have ty : TyX K H (.ref a) (.type "tuple") := by
    rcases h with (h | ⟨o, h⟩) | ⟨o, its, n, h1, h2, _⟩
    · exact .base (.tup h)
    · exact .fTuple h
    · exact .kTuple h1 h2
  exact ⟨.ref a, .ty T, .type "tuple", .type T, b, rfl, .ty T, ty, kit_ty k, q⟩
theorem isiSqL {T : String} {b : Bool} (h : SqL K H a xs) (k : kitB "list" T = some b) (q : Q (.bl b) H) : rIsi K [.ref a, .ty T] H Q := by
  have ty : TyX K H (.ref a) (.type "list") := by
    rcases h with (h | ⟨o, h⟩) | ⟨o, its, n, h1, h2, _⟩
    · exact .base (.lst h)
    · exact .base (.frz h)
    · exact .kList h1 h2
  exact ⟨.ref a, .ty T, .type "list", .type T, b, rfl, .ty T, ty, kit_ty k, q⟩
end
end Rd
namespace Rd
open PySem PySem.Spec PyProof.Rows L2 Evl Dk
section
variable {X : Cx} {σ : L2.St} {H : Hp} {Q : VK} {te : TE} {tl th : TO} {x : V} {i j z : Str} {n : Int} {c : Nat} {QO : Option Int → Hp → Prop}
/-! texts: an index, a slice, a part of another -/
def rInS : R2 := fun x y H Q => ∃ i j, x = .str i ∧ y = .str j ∧ Q (.bl (!(Builtin.Str.occurrences j i 0 j.length 1).isEmpty)) H
theorem op_inS : OpR X (compareOp .In) rInS := op_in_str
theorem inS {b : Bool} (h : (!(Builtin.Str.occurrences j i 0 j.length 1).isEmpty) = b) (q : Q (.bl b) H) : rInS (.str i) (.str j) H Q := ⟨i, j, rfl, rfl, by rw [h]; exact q⟩
def rNotInS : R2 := fun x y H Q => ∃ i j, x = .str i ∧ y = .str j ∧ Q (.bl (!(!(Builtin.Str.occurrences j i 0 j.length 1).isEmpty))) H
theorem op_notInS : OpR X (compareOp .NotIn) rNotInS := op_notIn_str
theorem ninS {b : Bool} (h : (!(Builtin.Str.occurrences j i 0 j.length 1).isEmpty) = b) (q : Q (.bl (!b)) H) : rNotInS (.str i) (.str j) H Q := ⟨i, j, rfl, rfl, by rw [h]; exact q⟩
theorem ixS (hz : z.length ≤ 100000) (ha : atI z.cps.toList n = some c) (q : Q (.str ⟨#[c]⟩) H) : rIxS (.str z) (.int n) H Q := ⟨z, n, c, rfl, rfl, sz_of hz, ha, q⟩
theorem slX {lo hi : Option Int} (hz : z.length ≤ 100000) (q : Q (.str (Txt.slice z lo hi)) H) : C8.rSlX (.str z) lo hi H Q := ⟨z, rfl, sz_of hz, q⟩
theorem sl {r : V → Option Int → Option Int → Hp → VK → Prop} (h : te σ H fun x H1 => tl σ H1 fun l H2 => th σ H2 fun u H3 => r x l u H3 Q) : tSl r te tl th σ H Q := h
theorem poN (q : QO none H) : tNoPart σ H QO := q
def xPart (x : V) (H1 : Hp) (Q : Option Int → Hp → Prop) : Prop := ∃ i, x = .int i ∧ Q (some i) H1
theorem poS (h : te σ H fun x H1 => xPart x H1 QO) : tPart te σ H QO := h
theorem xpart (q : QO (some n) H) : xPart (.int n) H QO := ⟨n, rfl, q⟩
end
end Rd

/-! exceptions: an own base's __init__, isinstance of an error that has a dict, an object made where its making may raise -/
namespace L2
open PySem PySem.Spec PyProof.Rows
section
variable {X : Cx} {e : Expr} {es : List Expr} {ta : TA} {p1 p2 pos : Pos} {x : Str}
/-- what the own base class at B says of its __init__ -/
structure OvB (K : PySem.W.Frag) (B : Addr) : Prop where
  ga : PySem.W.specialIn K (.ref B) "__getattribute__" = some (some (.builtin "type.__getattribute__"))
  rd : PySem.W.readsIn K B (.type "type") = true
  at_ : PySem.W.findCls K (.ref B) (.type "type") "__init__" = some (.val (.builtin "ValueError.__init__"))
/-- B.__init__(self, ..), B an own class over ValueError without an __init__ of its own -/
theorem pe_ovinit {pl : Sem Bool} {B : Addr} (hg : Gl X x) (hm : X.mg x = some (.ref B)) (T : OvB X.K B) (ha : PA X (e :: es) ta)
    (hdb : (x == ("__debug__" : Str)) = false := by decide)
    (hc : eval (.Call (.Attribute (.Name x p1) "__init__" p2) (e :: es) [] pos) X.env = (do
      let ov ← eval (.Name x p1) X.env
      standAt p2.atName
      let (f, first) ← holding [ov] (getMethod ov "__init__" pl)
      callWith pos f first (backTo pos (starEach (e :: es) X.env)) (backToKw pos (keywordEach [] X.env))) := by rfl)
    (he : starEach (e :: es) X.env = (false, eval e X.env) :: starEach es X.env := by rfl) (hpl : (backTo pos (starEach es X.env)).any (·.1) = false := by rfl) :
    PE X (.Call (.Attribute (.Name x p1) "__init__" p2) (e :: es) [] pos) (tVeI X.K ta) := by
  refine ⟨fun pins s σ H Q I h => ?_⟩
  refine PySem.W.methodCall_KW (ld_glob I hg hm ?_ hdb) hc
  refine PySem.W.method_cls I.kIn T.ga (PySem.W.cls_value I.kIn T.rd T.at_ (by decide +kernel) ?_)
  show wpAny _ _ (callWith pos (Value.builtin "ValueError.__init__") [] (backTo pos (starEach (e :: es) X.env)) []) _ _ _
  refine PyProof.Rows.callWith_method1 (thn (ha.run pos pins _ σ H _ (I.tok _) h) fun us s1 ⟨vs, H1, I1, r1, a, C, ws, ev, hl, T, ea, q⟩ => ?_) he hpl
  subst ev
  cases r1 with
  | @cons _ u0 _ ur ra rw' =>
    obtain rfl : u0 = Value.ref a := ra
    have hlen : ur.length ≤ sizeLine := by
      rw [← Paired.length rw', sizeLine_eq]
      omega
    exact oinit_ok T I1 ea hlen fun s' J => ⟨.non, H1, J, rfl, q⟩
end
/-- what isinstance and a field's reading ask of an own exception class -/
structure ExD (K : PySem.W.Frag) (C : Addr) : Prop where
  cl : (PySem.W.clsIn K C).isSome = true
  ga : PySem.W.findIn K (.ref C) "__getattribute__" = some (some (.builtin "BaseException.__getattribute__"))
  gg : PySem.W.findIn K (.ref C) "__getattr__" = some none
  ex : PySem.W.subIn K (.ref C) (.type "BaseException") = some true
  dc : PySem.W.hasDictIn K C = true
  at_ : PySem.W.findIn K (.ref C) "__class__" = some (some (.builtin "object.__class__"))
  gt : PySem.W.specialIn K (.builtin "object.__class__") "__get__" = some (some (.builtin "getset_descriptor.__get__"))
  tk : PySem.W.takesIn K (.builtin "object.__class__") = some true
  ob : PySem.W.mroIn K C (.type "object") = some true
theorem ExD.xf {K : PySem.W.Frag} {C : Addr} (T : ExD K C) : XfC K C := ⟨T.ga, T.gg, T.ex, T.dc⟩
/-- isinstance(e, c), e the exception of the class D that the suite holds, its dict at dd -/
def rIsD (K : PySem.W.Frag) (cls : Value) (d : Option Addr) (a : Addr) : List V → Hp → VK → Prop := fun xs H Q => ∃ (D : Addr) (dd : Addr) (fs : List (Str × V)) (c : V) (cv : Value) (b : Bool), xs = [.ref a, c] ∧ cls = .ref D ∧ d = some dd ∧ ExD K D ∧ H dd = some (.xd fs) ∧ ClsV c cv ∧ PySem.W.kitOne K (.ref D) cv = some b ∧ Q (.bl b) H
theorem call_isD {X : Cx} {a : Addr} {cls : Value} {d : Option Addr} {oe : Obj} {pn : List (Addr × Obj)} (hz : Zc cls d oe) (hf : ∃ vs, oe.data = .fields vs) : CallR (X.suite a ((a, oe) :: pn)) (.builtin "isinstance") (rIsD X.K cls d a) := by
  rintro pins s σ H xs us Q I r ⟨D, dd, fs, c, cv, b, rfl, rfl, rfl, T, hdd, hcv, e, q⟩
  obtain ⟨fv, hv⟩ := hf
  cases r with
  | cons rx r => cases r with
    | cons rt r =>
      cases r
      cases rx
      obtain rfl := hcv.eq rt
      have hx : ObjOk X.prog X.w H s.heap dd (.xd fs) := I.hok dd _ hdd
      obtain ⟨mA, hns, _⟩ := hx
      obtain ⟨od, ho, _⟩ := lookIn_ns hns
      have J : PySem.W.InstAt s.heap a oe D (some od) := ⟨(I.pin (a, oe) (List.mem_append.mpr (.inl List.mem_cons_self))).1, hz.1, by unfold PySem.W.notCls; rw [hv] <;> rfl, by rw [hz.2]; exact ho⟩
      refine PySem.W.kia_one (PySem.W.kitx_exc T.cl T.ga T.gg T.ex T.at_ T.gt T.tk T.ob) I.kIn J e (fun z => by cases z) fun t2 => ?_
      exact ⟨.bl b, H, I.kept (t' := t2) fun _ _ z => z, rfl, q⟩
section
variable {X : Cx} {CX : CXT} {k : Nat} {f C : Addr} {fd : FuncData} {ps : List Str} {sp : Sp} {E : L2.St → XK} {x m : Str} {p pos apos : Pos} {e o : Expr} {es : List Expr} {ta : TE} {t : TA}
theorem run_makeS {pins : List (Addr × Obj)} {σ : L2.St} {H : Hp} {s : Shared} {Q : VK} {us : List Value} {vs : List V} (M : Mk X.K C f) (F : FnOk X.prog X.w X.K X.mg X.base CX k f fd ps sp) (hr : Room (k + 1) X.A) (hb : Binds X.K fd ps [])
    (hx : PassesAt CX X σ (E σ)) (I : Inv X pins σ H s) (r : Vals vs us)
    (h : ∀ x dx, H x = none → H dx = none → dx ≠ x → sp (.ref x :: vs) (upd (upd H dx (.own x)) x (.ins C dx [])) (fun v H2 => v = .non ∧ Q (.ref x) H2) (E σ)) :
    wpAny (model X.prog X.w) X.A (call (.ref C) us) (EP X pins σ Q) X.xe s := by
  have hq := h (s.heap.objs.size + 1) s.heap.objs.size (I.hok.fresh (Nat.le_succ _)) (I.hok.fresh (Nat.le_refl _)) (Nat.ne_of_lt (Nat.lt_succ_self _))
  have I2 := Inv.made (C := C) I
  have r2 : Vals (V.ref (s.heap.objs.size + 1) :: vs) (Value.ref (s.heap.objs.size + 1) :: us) := .cons rfl r
  have hl : (Value.ref (s.heap.objs.size + 1) :: us).length = ps.length := by
    have e := r2.length
    rw [F.len _ _ _ _ hq] at e
    exact e.symm
  have b := hb _ (Value.ref (s.heap.objs.size + 1) :: us) I2.kIn (by rw [List.append_nil]; exact hl)
  rw [List.append_nil] at b
  refine wpAny_call (make_map (f := f) I.kIn M.makes M.init (beq_iff_eq.mp M.fn) (codeAny_mono (F.run _ X.stack _ _ ⟨Value.ref (s.heap.objs.size + 1) :: us, []⟩ (Value.ref (s.heap.objs.size + 1) :: us) _ _ (E σ) (hr.make C us [])
    (I2.env0.make C us []) b r2 hq) fun r s' hq' => ?_))
  cases r with
  | error e => exact hx pins _ _ e s' I2 hq'
  | ok fl =>
    cases fl with
    | ret u =>
      obtain ⟨v, H', I3, rv, ev, q3⟩ := I2.after hq'
      subst ev
      exact ⟨rv, ⟨V.ref (s.heap.objs.size + 1), H', I3, rfl, q3⟩⟩
    | next => exact False.elim hq'
    | brk => exact False.elim hq'
    | cont => exact False.elim hq'
/-- C(..) whose __init__ may raise: what is raised is wished for at the slots -/
def tMakeS (C : Addr) (sp : Sp) (E : L2.St → XK) (t : TA) : TE := fun σ H Q => t σ H fun vs H1 => ∀ x dx, H1 x = none → H1 dx = none → dx ≠ x → sp (.ref x :: vs) (upd (upd H1 dx (.own x)) x (.ins C dx [])) (fun v H2 => v = .non ∧ Q (.ref x) H2) (E σ)
theorem pe_makeS (M : Mk X.K C f) (F : FnOk X.prog X.w X.K X.mg X.base CX k f fd ps sp) (hr : Room (k + 1) X.A) (hg : Gl X x) (hm : X.mg x = some (.ref C)) (hb : Binds X.K fd ps []) (hx : ∀ σ, PassesAt CX X σ (E σ))
    (ha : PA X (e :: es) t) (hdb : (x == ("__debug__" : Str)) = false := by decide) (he : starEach (e :: es) X.env = (false, eval e X.env) :: starEach es X.env := by rfl) (hpl : (backTo pos (starEach es X.env)).any (·.1) = false := by rfl) :
    PE X (.Call (.Name x p) (e :: es) [] pos) (tMakeS C sp E t) := by
  refine ⟨fun pins s σ H Q I h => ?_⟩
  refine wpAny_Call_Name_kw (ld_glob I hg hm ?_ hdb)
  refine PySem.W.callWith_K (h₀ := X.base) I.ok.mod.kin M.kp (thn (ha.run pos pins s σ H _ I h) fun us s1 ⟨vs, H1, I1, r, q⟩ => ⟨I1.kIn, ?_⟩) he hpl
  exact run_makeS M F hr hb (hx σ) I1 r q
end
end L2
namespace Rd
open PySem PySem.Spec PyProof.Rows L2 Evl Dk
section
variable {σ : L2.St} {H : Hp} {Q : VK} {K : PySem.W.Frag} {D : Ends} {al : TA} {te : TE} {a C : Addr} {v x : V} {f : Str}
def xVeI (K : PySem.W.Frag) (vs : List V) (H1 : Hp) (Q : VK) : Prop := ∃ (a C : Addr) (ws : List V), vs = .ref a :: ws ∧ ws.length ≤ 1000 ∧ OexC K C ∧ H1 a = some (exo a C none) ∧ Q .non H1
theorem vei (h : al σ H fun vs H1 => xVeI K vs H1 Q) : tVeI K al σ H Q := h
theorem xvei {ws : List V} (T : OexC K C) (h : H a = some (exo a C none)) (n : Nat.ble ws.length 1000 = true) (q : Q .non H) : xVeI K (.ref a :: ws) H Q := ⟨a, C, ws, rfl, Nat.le_of_ble_eq_true n, T, h, q⟩
def xOst (K : PySem.W.Frag) (f : Str) (y x : V) (H2 : Hp) (N : Hp → Prop) : Prop := ∃ a C : Addr, x = .ref a ∧ OexC K C ∧ PySem.W.findIn K (.ref C) f = some none ∧
  ((H2 a = some (exo a C none) ∧ ∀ dx, H2 dx = none → dx ≠ a → N (upd (upd H2 dx (exd dx [(f, y)])) a (exo a C (some dx)))) ∨
    ∃ (dx : Addr) (fs : List (Str × V)), H2 a = some (exo a C (some dx)) ∧ H2 dx = some (exd dx fs) ∧ fs.length ≤ 900 ∧ N (upd H2 dx (exd dx ((f, y) :: fs))))
theorem ost {to : TE} (h : te σ H fun y H1 => to σ H1 fun x H2 => xOst K f y x H2 fun H3 => D.nx σ H3) : tOst K f to te D σ H := h
theorem xost {N : Hp → Prop} (T : OexC K C) (n : PySem.W.findIn K (.ref C) f = some none) (h : H a = some (exo a C none)) (q : ∀ dx, H dx = none → dx ≠ a → N (upd (upd H dx (exd dx [(f, v)])) a (exo a C (some dx)))) : xOst K f v (.ref a) H N := ⟨a, C, rfl, T, n, .inl ⟨h, q⟩⟩
/-- an exception with one field: its __init__'s promise, and the raise of it -/
def spEx1 (C : Addr) (f : Str) : Sp := fun vs H Q _ => ∃ (a : Addr) (s : Str), vs = [.ref a, .str s] ∧ s.length ≤ 1000 ∧ H a = some (exo a C none) ∧ ∀ dx, H dx = none → dx ≠ a → Q .non (upd (upd H dx (exd dx [(f, .str s)])) a (exo a C (some dx)))
def xMkO (C : Addr) (sp : Sp) (dvs vs : List V) (H1 : Hp) (Q : XK) : Prop := vs.length ≤ 1000 ∧ ∀ a, H1 a = none → sp (.ref a :: (vs ++ dvs)) (upd H1 a (exo a C none))
  (fun v H2 => v = .non ∧ ∃ (d : Addr) (fs : List (Str × V)), H2 a = some (exo a C (some d)) ∧ H2 d = some (exd d fs) ∧ H1 d = none ∧ Q (.ref C) (some d) (upd (del H2 a) d (.xd fs))) (fun _ _ _ => False)
theorem xmko1 {s : Str} {Q : XK} (hs : s.length ≤ 1000) (q : ∀ d H', H d = none → Ex H H' → H' d = some (.xd [(f, .str s)]) → Q (.ref C) (some d) H') : xMkO C (spEx1 C f) [] [.str s] H Q := by
  refine ⟨Nat.le_of_ble_eq_true rfl, fun a na => ⟨a, s, rfl, hs, upd_same, fun dx nx ne => ⟨rfl, dx, [(f, .str s)], upd_same, by rw [upd_ne ne]; exact upd_same, ?_, ?_⟩⟩⟩
  · rw [upd_ne ne] at nx; exact nx
  · have nx' : H dx = none := by rw [upd_ne ne] at nx; exact nx
    refine q dx _ nx' (fun b o hb => ?_) upd_same
    have h1 : b ≠ dx := ne_of_none hb nx'
    have h2 : b ≠ a := ne_of_none hb na
    rw [upd_ne h1, del_ne h2, upd_ne h2, upd_ne h1, upd_ne h2]
    exact hb
theorem makeS {C : Addr} {sp : Sp} {E : L2.St → XK} (h : al σ H fun vs H1 => xMk C (fun x H2 Q2 => sp (x :: vs) H2 Q2 (E σ)) H1 Q) : tMakeS C sp E al σ H Q := h
theorem callS {sp : Sp} {E : L2.St → XK} (h : al σ H fun vs H1 => sp vs H1 Q (E σ)) : tCallS sp E al σ H Q := h
end
end Rd
namespace Rd
open PySem PySem.Spec PyProof.Rows L2 Evl Dk
section
variable {H : Hp} {Q : VK} {K : PySem.W.Frag} {D dd a : Addr} {fs : List (Str × V)} {c : V} {cv : Value} {b : Bool}
theorem isD (T : ExD K D) (h : H dd = some (.xd fs)) (hc : ClsV c cv) (k : PySem.W.kitOne K (.ref D) cv = some b) (q : Q (.bl b) H) : rIsD K (.ref D) (some dd) a [.ref a, c] H Q := ⟨D, dd, fs, c, cv, b, rfl, rfl, rfl, T, h, hc, k, q⟩
/-- e.f, e the exception of the suite -/
def xXf (a : Addr) (cls : Value) (d : Option Addr) (C : Addr) (f : Str) (x : V) (H1 : Hp) (Q : VK) : Prop := x = .ref a ∧ cls = .ref C ∧ ∃ (dd : Addr) (fs : List (Str × V)) (v : V), d = some dd ∧ H1 dd = some (.xd fs) ∧ fs.lookup f = some v ∧ Q v H1
theorem xf {σ : L2.St} {te : TE} {cls : Value} {d : Option Addr} {C : Addr} {f : Str} (h : te σ H fun x H1 => xXf a cls d C f x H1 Q) : tXf a cls d C f te σ H Q := h
theorem xxf {C : Addr} {f : Str} {v : V} (h : H dd = some (.xd fs)) (l : fs.lookup f = some v) (q : Q v H) : xXf a (.ref C) (some dd) C f (.ref a) H Q := ⟨rfl, rfl, dd, fs, v, rfl, h, l, q⟩
end
end Rd
namespace Rd
open PySem PySem.Spec PyProof.Rows L2 Evl Dk
section
variable {X : Cx} {σ : L2.St} {H H1 : Hp} {Q : VK} {te : TE} {ts : List TE} {acc y : Str} {i : Int} {K : PySem.W.Frag} {a C : Addr} {f : Str}
/-! f-strings -/
def tJoin (ts : List TE) : TE := fun σ H Q => tJs ts Str.empty σ H fun out H1 => Q (.str out) H1
theorem pe_joinN {v1 v2 : Expr} {rest : List Expr} {pos : Pos} (h : PJ X (v1 :: v2 :: rest) ts) : PE X (.JoinedStr (v1 :: v2 :: rest) pos) (tJoin ts) := pe_joined h
theorem jn (h : tJs ts Str.empty σ H fun out H1 => Q (.str out) H1) : tJoin ts σ H Q := h
def xJs (ts : List TE) (acc : Str) (σ : L2.St) (x : V) (H1 : Hp) (R : Str → Hp → Prop) : Prop := ∃ y : Str, x = .str y ∧ (acc ++ y).length ≤ sizeLine ∧ tJs ts (acc ++ y) σ H1 R
theorem jsC {R : Str → Hp → Prop} (h : te σ H fun x H1 => xJs ts acc σ x H1 R) : tJs (te :: ts) acc σ H R := h
theorem jsN {R : Str → Hp → Prop} (q : R acc H) : tJs [] acc σ H R := q
theorem xjs {R : Str → Hp → Prop} (n : (acc ++ y).length ≤ 100000) (q : tJs ts (acc ++ y) σ H R) : xJs ts acc σ (.str y) H R := ⟨y, rfl, Dk.sz5 n, q⟩
def xFmt (x : V) (H1 : Hp) (Q : VK) : Prop := (∃ y : Str, x = .str y ∧ y.length ≤ sizeLine ∧ Q (.str y) H1) ∨ ∃ i : Int, x = .int i ∧ i.natAbs.log2 < 1920 ∧ Q (.str (toString i)) H1
theorem fmt (h : te σ H fun x H1 => xFmt x H1 Q) : tFmt te σ H Q := h
theorem xfmtS (n : y.length ≤ 100000) (q : Q (.str y) H) : xFmt (.str y) H Q := .inl ⟨y, rfl, Dk.sz5 n, q⟩
theorem xfmtI (n : i.natAbs.log2 < 1920) (q : Q (.str (toString i)) H) : xFmt (.int i) H Q := .inr ⟨i, rfl, n, q⟩
theorem len_app (a b : Str) : (a ++ b).length = a.length + b.length := by show (a.cps ++ b.cps).size = _; rw [Array.size_append]; rfl
theorem len_num : ∀ n : Nat, n < 64 → (toString (n : Int) : Str).length ≤ 10 ∧ (n : Int).natAbs.log2 < 1920 := by decide +kernel
/-- an exception with one small whole number -/
def spExI (C : Addr) (f : Str) : Sp := fun vs H Q _ => ∃ (a : Addr) (n : Nat), vs = [.ref a, .int n] ∧ n < 64 ∧ H a = some (exo a C none) ∧ ∀ dx, H dx = none → dx ≠ a → Q .non (upd (upd H dx (exd dx [(f, .int n)])) a (exo a C (some dx)))
theorem xmkoI {n : Nat} {Q : XK} (hs : n < 64) (q : ∀ d H', H d = none → Ex H H' → H' d = some (.xd [(f, .int n)]) → Q (.ref C) (some d) H') : xMkO C (spExI C f) [] [.int n] H Q := by
  refine ⟨Nat.le_of_ble_eq_true rfl, fun a na => ⟨a, n, rfl, hs, upd_same, fun dx nx ne => ⟨rfl, dx, [(f, .int n)], upd_same, by rw [upd_ne ne]; exact upd_same, ?_, ?_⟩⟩⟩
  · rw [upd_ne ne] at nx; exact nx
  · have nx' : H dx = none := by rw [upd_ne ne] at nx; exact nx
    refine q dx _ nx' (fun b o hb => ?_) upd_same
    have h1 : b ≠ dx := ne_of_none hb nx'
    have h2 : b ≠ a := ne_of_none hb na
    rw [upd_ne h1, del_ne h2, upd_ne h2, upd_ne h1, upd_ne h2]
    exact hb
end
end Rd
namespace Rd
open PySem PySem.Spec PyProof.Rows L2 Evl Dk
theorem mkO {σ : L2.St} {H : Hp} {C : Addr} {sp : Sp} {dvs : List V} {al : TA} {Q : XK} (h : al σ H fun vs H1 => xMkO C sp dvs vs H1 Q) : tMkO C sp dvs al σ H Q := h
end Rd

/-! objects that change: dicts, fields, what stays -/
namespace Rd
open PySem PySem.Spec PyProof.Rows L2 Evl Dk
section
variable {X : Cx} {σ : L2.St} {H H' : Hp} {Q : VK} {td ty tv te : TE} {x y v : V} {a : Addr} {kvs : List (Key × V)} {i : Int} {z : Str} {D : Ends} {K : PySem.W.Frag} {o : Option V} {b : Bool}
def xDGet (x y : V) (H : Hp) (Q : VK) : Prop := ∃ a v, x = .ref a ∧ DGet H a y (some v) ∧ Q v H
theorem dget (h : td σ H fun x H1 => ty σ H1 fun y H2 => xDGet x y H2 Q) : tDGet td ty σ H Q := h
theorem dgetI (h : H a = some (.dK kvs)) : DGet H a (.int i) (valV kvs (.inl i)) := DGet.k (k := .inl i) h
theorem dgetS (h : H a = some (.dK kvs)) : DGet H a (.str z) (valV kvs (.inr z)) := DGet.k (k := .inr z) h
theorem xdget (h : H a = some (.dK kvs)) (e : valV kvs (.inl i) = some v) (q : Q v H) : xDGet (.ref a) (.int i) H Q := ⟨a, v, rfl, by have g := dgetI (i := i) h; rw [e] at g; exact g, q⟩
theorem xdgetS (h : H a = some (.dK kvs)) (e : valV kvs (.inr z) = some v) (q : Q v H) : xDGet (.ref a) (.str z) H Q := ⟨a, v, rfl, by have g := dgetS (z := z) h; rw [e] at g; exact g, q⟩
def xIsD (x : V) (H : Hp) (P : Addr → Prop) : Prop := ∃ a, x = .ref a ∧ IsD H a ∧ P a
def xDO (a : Addr) (y : V) (H : Hp) (Q : VK) : Prop := ∃ o, DGet H a y o ∧ Q (o.getD .non) H
theorem dget1 (h : td σ H fun x H1 => xIsD x H1 fun a => ty σ H1 fun y H2 => xDO a y H2 Q) : tDGet1 td ty σ H Q := h
theorem xisd {P : Addr → Prop} (h : H a = some (.dK kvs)) (p : P a) : xIsD (.ref a) H P := ⟨a, rfl, .inl ⟨kvs, .inl h⟩, p⟩
theorem xdo (h : H a = some (.dK kvs)) (e : valV kvs (.inl i) = o) (q : Q (o.getD .non) H) : xDO a (.int i) H Q := ⟨_, dgetI h, by rw [e]; exact q⟩
def xDIn (x y : V) (H : Hp) (Q : VK) : Prop := ∃ a o, x = .ref a ∧ DGet H a y o ∧ Q (.bl o.isSome) H
theorem din (h : ty σ H fun y H1 => td σ H1 fun x H2 => xDIn x y H2 Q) : tDIn ty td σ H Q := h
theorem xdin (h : H a = some (.dK kvs)) (e : (valV kvs (.inl i)).isSome = b) (q : Q (.bl b) H) : xDIn (.ref a) (.int i) H Q := ⟨a, _, rfl, dgetI h, by rw [e]; exact q⟩
def xDPut (x y v : V) (H : Hp) (N : Hp → Prop) : Prop := ∃ a H4, x = .ref a ∧ DPut H a y v H4 ∧ N H4
theorem dput (h : tv σ H fun v H1 => td σ H1 fun x H2 => ty σ H2 fun y H3 => xDPut x y v H3 fun H4 => D.nx σ H4) : sDPut td ty tv D σ H := h
theorem small {n : Nat} (h : n ≤ 10000) : n < sizeLine := Nat.lt_of_le_of_lt h (by decide)
theorem xdput {N : Hp → Prop} (h : H a = some (.dK kvs)) (l : kvs.length ≤ 10000) (q : N (upd H a (.dK (putK kvs (.inl i) v)))) : xDPut (.ref a) (.int i) v H N := ⟨a, _, rfl, DPut.k (k := .inl i) h (small l), q⟩
theorem xdputS {N : Hp → Prop} (h : H a = some (.dK kvs)) (l : kvs.length ≤ 10000) (q : N (upd H a (.dK (putK kvs (.inr z) v)))) : xDPut (.ref a) (.str z) v H N := ⟨a, _, rfl, DPut.k (k := .inr z) h (small l), q⟩
theorem dnewE (q : ∀ p H', H p = none → Ex H H' → H' p = some (.dK []) → Q (.ref p) H') : tDNewK σ H Q := fun p hp => q p _ hp (Ex.new hp) upd_same
theorem dnew (q : ∀ p, H p = none → Q (.ref p) (upd H p (.dK []))) : tDNewK σ H Q := q
def rLenD : List V → Hp → VK → Prop := fun xs H Q => ∃ a kvs, xs = [.ref a] ∧ H a = some (.dK kvs) ∧ Q (.int kvs.length) H
theorem c_lenD : CallR X (.builtin "len") rLenD := call_lenD
theorem lenD (h : H a = some (.dK kvs)) (q : Q (.int kvs.length) H) : rLenD [.ref a] H Q := ⟨a, kvs, rfl, h, q⟩
theorem isB {a b : Bool} (q : Q (.bl (decide (a = b))) H) : rIsB (.bl a) (.bl b) H Q := ⟨a, b, rfl, rfl, q⟩
theorem notB {a b : Bool} (q : Q (.bl (!decide (a = b))) H) : rNotB (.bl a) (.bl b) H Q := ⟨a, b, rfl, rfl, q⟩
def xFA (K : PySem.W.Frag) (f : Str) (x : V) (H : Hp) (N : V → Addr → Addr → Prop) : Prop := ∃ (a C : Addr) (dx : Addr) (fs : List (Str × V)) (v : V), x = .ref a ∧ H a = some (.ins C dx fs) ∧ Cls K C ∧ NoAttr K C f ∧ fs.lookup f = some v ∧ N v a C
def xFB (f : Str) (a C : Addr) (z : V) (H : Hp) (N : Hp → Prop) : Prop := ∃ dx' fs', H a = some (.ins C dx' fs') ∧ fs'.length < 1000 ∧ N (upd H a (.ins C dx' (putF f z fs')))
theorem fldaug {rd : V → V → Hp → VK → Prop} {f : Str} (h : te σ H fun x H1 => xFA K f x H1 fun v a C => tv σ H1 fun y H2 => rd v y H2 fun z H3 => xFB f a C z H3 fun H4 => D.nx σ H4) : sFldAug K te tv rd f D σ H := h
theorem xfa {N : V → Addr → Addr → Prop} {f : Str} {C dx : Addr} {fs : List (Str × V)} (h : H a = some (.ins C dx fs)) (c : Cls K C) (n : NoAttr K C f) (l : fs.lookup f = some v) (q : N v a C) : xFA K f (.ref a) H N := ⟨a, C, dx, fs, v, rfl, h, c, n, l, q⟩
theorem xfb {N : Hp → Prop} {f : Str} {C dx : Addr} {fs : List (Str × V)} (h : H a = some (.ins C dx fs)) (l : fs.length < 1000) (q : N (upd H a (.ins C dx (putF f v fs)))) : xFB f a C v H N := ⟨dx, fs, h, l, q⟩
theorem radd {j : Int} (q : Q (.int (i + j)) H) : rAdd (.int i) (.int j) H Q := ⟨i, j, rfl, rfl, q⟩
theorem whl {c : TT} {tb : TS} (h : ∃ W : Nat → L2.St → Hp → Prop, (∃ m, W m σ H) ∧ ∀ m σ H, W m σ H →
  c σ H fun b H1 => if b = true then ∃ N : L2.St → Hp → Prop, (∀ σ' H', N σ' H' → ∃ m', m' < m ∧ W m' σ' H') ∧ tb { D with nx := N, ct := N, bk := D.nx } σ H1 else D.nx σ H1) : tWhile c tb D σ H := h
theorem pe_or {e : Expr} {t1 t2 : TE} (h1 : PE X e t1) (h2 : PE X e t2) : PE X e (fun σ H Q => t1 σ H Q ∨ t2 σ H Q) := ⟨fun pins s σ H Q I h => h.elim (h1.run pins s σ H Q I) (h2.run pins s σ H Q I)⟩
end
end Rd

/-! programs: enumerate, a range with a step, a dict walked, the keys as a list, a dict of the module -/
namespace Rd
open PySem PySem.Spec PyProof.Rows L2 Evl Dk
section
variable {X : Cx} {te : TE} {e : Expr} {pn apos cpos pos : Pos}
def tListKeys (te : TE) : TE := fun σ H Q => te σ H fun x H1 => ∃ (a : Addr) (kvs : List (Key × V)), x = .ref a ∧ H1 a = some (.dK kvs) ∧ ∀ p, H1 p = none → Q (.ref p) (upd H1 p (.lst (kvs.map fun kv => kV kv.1)))
theorem pe_listKeys (hcalm : X.calm = true) (hg : Gl X "list") (hm : X.mg "list" = none) (he : PE X e te) (hbase : attributeBase e "keys" X.env (eval e X.env) = eval e X.env := by rfl) (hline : (apos.endLine == cpos.line) = true := by rfl)
    (hs : starEach [.Call (.Attribute e "keys" apos) [] [] cpos] X.env = (false, eval (.Call (.Attribute e "keys" apos) [] [] cpos) X.env) :: starEach [] X.env := by rfl) (hpl : (backTo pos (starEach [] X.env)).any (·.1) = false := by rfl) :
    PE X (.Call (.Name "list" pn) [.Call (.Attribute e "keys" apos) [] [] cpos] [] pos) (tListKeys te) := by
  refine ⟨fun pins s σ H Q I h => ?_⟩
  refine wpAny_Call_Name_kw (ld_blt I hg hm (by decide +kernel : bootBuiltins "list" = some (.type "list")) ?_ (by decide) (by decide))
  refine PyProof.Rows.callWith_type1 ?_ hs hpl
  rw [hs]
  show wpAny _ _ (spliced ((false, eval (.Call (.Attribute e "keys" apos) [] [] cpos) X.env) :: backTo pos (starEach [] X.env))) _ _ s
  refine Calls.spliced_cons ?_
  refine wpAny_Call_method (T := "dict") (id := "dict.keys") hbase rfl hline F.plainAttrs_dict F.slot_dict_keys F.type_dict_keys (thn (he.run pins s σ H _ I h) fun u s1 ⟨x, H1, I1, rx, a, kvs, ex, hd, q⟩ => ?_)
  subst ex
  obtain rfl : u = Value.ref a := rx
  obtain ⟨z, lo, vs, rel, dd⟩ := dk_rd I1.hok (.inl hd)
  obtain ⟨ep, hat⟩ := dd.dictAt
  refine ⟨hat.dictOf.typeIs, hat.dictOf.mapOf.noDict, ?_⟩
  have I2 : Inv X pins σ H1 { s1 with heap := s1.heap.push { cls := .type "dict_keys", data := .fields #[.ref a] } } := I1.kept (t' := s1.toks) fun b ob q => Heap.get?_push_of_some _ q
  have ek : (kvs.map fun kv => kV kv.1) = vs.map fun p => kV p.1 := by
    have e := congrArg (List.map kV) rel.keys
    rw [List.map_map, List.map_map] at e
    exact e
  show wpAny _ _ (callWith cpos (.builtin "dict.keys") [.ref a] [] []) _ X.xe s1
  refine method_meetsIn F.slot_dict_keys F.entry_dict_keys rfl (PySem.evalArgs_none ⟨rfl, hat.dictOf.typeIs, F.args_dict_keys_1 _, _, PySem.W.kdl_meets_keys (mixKind X.prog X.w) a lo, ⟨vs, dd⟩, ?_⟩)
  refine Calls.spliced_nil ?_
  refine PySem.W.kdl_call (PySem.W.kdl_keys (knd := mixKind X.prog X.w) (r := s1.heap.objs.size) (d := a) (kvs := vs) (ep := ep)) (I2.ok.hd hcalm) ⟨⟨_, Heap.get?_push_size _ rfl, rfl, rfl⟩, hat.push _⟩ (by rw [← rel.length]; exact z) fun h' tk acc c' hk hD hacc => ?_
  have hv : Vals (vs.map fun p => kV p.1) acc.toList := keys_at (by rw [Array.length_toList]; exact hacc.1) fun j v e => hacc.2 j v (by rw [← Array.getElem?_toList]; exact e)
  exact ⟨.ref _, upd H1 _ (.lst (kvs.map fun kv => kV kv.1)), I2.laid (t' := tk) hk (Nat.le_refl _)
    (show ObjOk X.prog X.w _ _ _ (.lst (kvs.map fun kv => kV kv.1)) from ⟨by rw [List.length_map]; exact z, acc.toList, c', by rw [ek]; exact hv, by rw [Array.toArray_toList]; exact hD⟩), rfl, q _ (I2.hok.fresh (Nat.le_refl _))⟩
end
section
variable {σ : L2.St} {H H' : Hp} {Q : VK} {te tl : TE} {al : TA} {x y v : V} {n m lo : Int} {l p a d : Addr} {xs : List V} {tt : TT} {vs : List Nat} {K : PySem.W.Frag} {j : Nat} {o : HO} {g : TG} {D : Ends} {tb : TS} {kvs : List (Key × V)} {z : Str}
theorem listKeys (h : te σ H fun x H1 => ∃ (a : Addr) (kvs : List (Key × V)), x = .ref a ∧ H1 a = some (.dK kvs) ∧ ∀ p, H1 p = none → Q (.ref p) (upd H1 p (.lst (kvs.map fun kv => kV kv.1)))) : tListKeys te σ H Q := h
/-! for k, x in enumerate(l) -/
def xFE (K : PySem.W.Frag) (g : TG) (tb : TS) (D : Ends) (σ : L2.St) (vs : List V) (H1 : Hp) : Prop := ∃ a xs, vs = [.ref a] ∧ SqL K H1 a xs ∧ ∃ W : Nat → Nat → L2.St → Hp → Prop, (∃ m, W 0 m σ H1) ∧ ∀ i m σ H, W i m σ H →
      ((Ite K a).stop i H ∧ D.nx σ H) ∨ ((Ite K a).go i H ∧ ∃ N : L2.St → Hp → Prop, (∀ σ' H', N σ' H' → ∃ m', m' < m ∧ W (i + 1) m' σ' H') ∧ ∀ x H', (Ite K a).yld i H x H' → g x σ H' fun σ2 H2 => tb { D with nx := N, ct := N, bk := D.nx } σ2 H2)
theorem forE (h : al σ H fun vs H1 => xFE K g tb D σ vs H1) : tFor (iEnum K al) g tb D σ H := h
theorem xfe (hx : SqL K H a xs) (Pv : Nat → L2.St → Hp → Prop) (h0 : Pv 0 σ H) (hl : ∀ i σ' H', i ≤ xs.length → Pv i σ' H' → SqL K H' a xs)
    (hs : ∀ i x σ' H' T H2, xs[i]? = some x → Pv i σ' H' → H' T = none → Ex H' H2 → H2 T = some (.tup [.int (i : Nat), x]) → g (.ref T) σ' H2 fun σ2 H3 => tb { D with nx := Pv (i + 1), ct := Pv (i + 1), bk := D.nx } σ2 H3) (hd : ∀ σ' H', Pv xs.length σ' H' → D.nx σ' H') : xFE K g tb D σ [.ref a] H :=
  ⟨a, xs, rfl, hx, for_it walk_enum Pv h0 hl (fun i x σ' H1 H2 hi p ⟨T, u, v, e1, e2, e3, e4, e5⟩ => by
    subst e1 e3
    cases e4
    exact hs i v σ' H1 T _ e5 p e2 (Ex.new e2) upd_same) hd⟩
/-! for k in range(hi, lo, -1) -/
def xFR3 (g : TG) (tb : TS) (D : Ends) (σ : L2.St) (vs : List V) (H1 : Hp) : Prop := ∃ (i0 j c : Int) (n : Nat), vs = [.int i0, .int j, .int c] ∧ RgC i0 j c n ∧ ∃ W : Nat → Nat → L2.St → Hp → Prop, (∃ m, W 0 m σ H1) ∧ ∀ i m σ H, W i m σ H →
      ((Itc i0 c n).stop i H ∧ D.nx σ H) ∨ ((Itc i0 c n).go i H ∧ ∃ N : L2.St → Hp → Prop, (∀ σ' H', N σ' H' → ∃ m', m' < m ∧ W (i + 1) m' σ' H') ∧ ∀ x H', (Itc i0 c n).yld i H x H' → g x σ H' fun σ2 H2 => tb { D with nx := N, ct := N, bk := D.nx } σ2 H2)
theorem forR3 (h : al σ H fun vs H1 => xFR3 g tb D σ vs H1) : tFor (iRng3 al) g tb D σ H := h
theorem xfr3 {k : Nat} (hb : -(2 ^ 62) ≤ m ∧ m < 2 ^ 62 ∧ -(2 ^ 62) ≤ lo ∧ lo < 2 ^ 62) (Pv : Nat → L2.St → Hp → Prop) (h0 : Pv 0 σ H)
    (hs : ∀ (i : Nat) σ' H', (i : Int) < m - lo → Pv i σ' H' → tb { D with nx := Pv (i + 1), ct := Pv (i + 1), bk := D.nx } (σ'.set k (some (.int (m - (i : Int))))) H') (hd : ∀ σ' H', Pv (m - lo).toNat σ' H' → D.nx σ' H') : xFR3 (gName k) tb D σ [.int m, .int lo, .int (-1)] H :=
  ⟨m, lo, -1, (m - lo).toNat, rfl, RgC.neg hb.1 hb.2.1 hb.2.2.1 hb.2.2.2, for_rangeC Pv h0 (fun i σ' H' hi p => by
    have e : m + (i : Int) * -1 = m - (i : Int) := by omega
    show tb _ (σ'.set k (some (.int (m + (i : Int) * -1)))) H'
    rw [e]
    exact hs i σ' H' (by omega) p) hd⟩
/-! for k in d, d locked -/
theorem forK {kk : Nat} {n : Nat} (hv : σ[n]? = some (some (.ref d))) (h : H d = some (.dK kvs)) (Pv : Obj → Nat → L2.St → Hp → Prop) (h0 : ∀ od, Pv od 0 σ (upd H d (.frz od (.dK kvs)))) (hl : ∀ od i σ' H', i ≤ kvs.length → Pv od i σ' H' → H' d = some (.frz od (.dK kvs)))
    (hs : ∀ od i k v σ' H' (E : Ends), E.nx = Pv od (i + 1) → kvs[i]? = some (k, v) → Pv od i σ' H' → tb E (σ'.set kk (some (kV k))) H') (hd : ∀ od σ' H', Pv od kvs.length σ' H' → D.nx σ' (upd H' d (.dK kvs))) : tLock (tFor (iKeys (tVar n)) (gName kk) tb) D σ H :=
  ⟨d, .dK kvs, h, trivial, fun od => ⟨.ref d, hv, d, od, rfl, .inl ⟨kvs, upd_same, for_it walk_keys (Pv od) (h0 od) (hl od) (fun i x σ' H1 H2 hi p ⟨e1, k, v, e2, e3⟩ => by
    subst e1 e3
    exact hs od i k v σ' _ _ rfl e2 p) (fun σ' H' p => ⟨hl od _ _ _ (Nat.le_refl _) p, hd od σ' H' p⟩)⟩⟩⟩
/-! a dict of the module -/
def rNinKd (K : PySem.W.Frag) (d : Addr) : R2 := fun x y H Q => ∃ (z : Str) (r : Option Value), x = .str z ∧ y = .ref d ∧ PySem.W.nsIn K d z = some r ∧ Q (.bl (!r.isSome)) H
theorem op_ninKd {X : Cx} {d : Addr} {es : Array DictEntry} {n : Nat} (D : KDict X.K X.w d es n) : OpR X (compareOp .NotIn) (rNinKd X.K d) := op_notIn_kd D
def rIxKd (K : PySem.W.Frag) (w : World) : R2 := rIxD K w
theorem ninKd {r : Option Value} (h : PySem.W.nsIn K d z = some r) (q : Q (.bl (!r.isSome)) H) : rNinKd K d (.str z) (.ref d) H Q := ⟨z, r, rfl, rfl, h, q⟩
theorem ixKd {w : World} (h : KDct K w d z v) (q : Q v H) : rIxD K w (.ref d) (.str z) H Q := ⟨d, z, v, rfl, rfl, h, q⟩
theorem sortS {K : PySem.W.Frag} {ys : List Str} (h : SqL K H a (ys.map V.str)) (hz : ys.length < 64) (q : ∀ (zs : List Str) (p : Addr) (H' : Hp), zs.Perm ys → H p = none → Ex H H' → H' p = some (.lst (zs.map V.str)) → Q (.ref p) H') : rSortedS K [.ref a] H Q := ⟨a, ys, rfl, h, hz, fun zs p e _ hp => q zs p _ e hp (Ex.new hp) upd_same⟩
theorem dnewD {trs : List (TE × TE)} (h : ∀ p, H p = none → tPairs trs σ (upd H p (.dK [])) fun ps H2 => H2 p = some (.dK []) ∧ ∃ kvs : List (Key × V), ps = kvs.map (fun kv => (kV kv.1, kv.2)) ∧ kvs.length ≤ 15 ∧ Q (.ref p) (upd H2 p (.dK (mergeK [] kvs)))) : tDisp trs σ H Q := h
theorem pairs1 {tk tv : TE} {r : List (TE × TE)} {Q : List (V × V) → Hp → Prop} (h : tk σ H fun x H1 => tv σ H1 fun y H2 => tPairs r σ H2 fun ps H3 => Q ((x, y) :: ps) H3) : tPairs ((tk, tv) :: r) σ H Q := h
theorem pairs0 {Q : List (V × V) → Hp → Prop} (h : Q [] H) : tPairs [] σ H Q := h
end
end Rd
namespace Rd
open PySem PySem.Spec PyProof.Rows L2 Evl Dk
/-- x is True, x a truth value or None -/
def rIsX : R2 := fun x y H Q => ∃ b, y = .bl b ∧ ((∃ a, x = .bl a ∧ Q (.bl (decide (a = b))) H) ∨ (x = .non ∧ Q (.bl false) H))
theorem op_isX {X : Cx} : OpR X (compareOp .Is) rIsX := by
  intro pins s σ H x y v u Q I rx ry h
  obtain ⟨b, rfl, ⟨a, rfl, q⟩ | ⟨rfl, q⟩⟩ := h
  · exact op_isBl pins s σ H _ _ v u Q I rx ry ⟨a, b, rfl, rfl, q⟩
  · cases (show v = Value.none from rx)
    cases (show u = Value.bool b from ry)
    exact wpAny_is_other rfl (fun z => nomatch z) ⟨.bl false, H, I, rfl, q⟩
theorem isXb {H : Hp} {Q : VK} {a b : Bool} (q : Q (.bl (decide (a = b))) H) : rIsX (.bl a) (.bl b) H Q := ⟨b, rfl, .inl ⟨a, rfl, q⟩⟩
theorem isXn {H : Hp} {Q : VK} {b : Bool} (q : Q (.bl false) H) : rIsX .non (.bl b) H Q := ⟨b, rfl, .inr ⟨rfl, q⟩⟩
theorem isN_bl {H : Hp} {Q : VK} {b : Bool} (q : Q (.bl false) H) : rIsN (.bl b) .non H Q := ⟨rfl, q⟩
theorem notN_bl {H : Hp} {Q : VK} {b : Bool} (q : Q (.bl true) H) : rNotN (.bl b) .non H Q := ⟨rfl, q⟩
theorem intBT {H : Hp} {Q : VK} {b : Bool} (q : Q (.int (if b then 1 else 0)) H) : rInt1 [.bl b] H Q := .inr ⟨b, rfl, q⟩
end Rd


local macro_rules | `(tactic| walk_at "hp") => `(tactic| first
  | assumption | exact L2.upd_same | (refine (by assumption : Evl.Ex _ _) _ _ ?_; walk_at "hp")
  | (refine (L2.upd_ne (by assumption)).trans ?_; walk_at "hp") | (refine (L2.upd_ne (Ne.symm (by assumption))).trans ?_; walk_at "hp") | (refine (L2.upd_ne (L2.ne_of (by assumption) (by assumption) (by intro z; cases z))).trans ?_; walk_at "hp"))
local macro_rules | `(tactic| walk_at "sq") => `(tactic| first | assumption | exact L2.SqL.of (by walk_at "hp") | exact L2.SqT.of (by walk_at "hp"))
local macro_rules | `(tactic| walk_at "rd1") => `(tactic| with_reducible first
  | refine Rd.seq ?_ | refine Rd.asg ?_ | refine Rd.gnm ?_ | refine Rd.ifS ?_ | refine Rd.ret ?_ | refine Rd.retN ?_ | refine Rd.drop ?_ | refine Rd.nxt ?_ | refine Rd.brk ?_ | refine Rd.cnt ?_
  | refine Rd.var rfl ?_ | refine Rd.c ?_ | refine Rd.op ?_ | refine Rd.i0 ?_ | refine Rd.un ?_ | refine Rd.u0 ?_
  | refine Rd.test ?_ | refine Rd.tbv ?_ | refine Rd.xt ?_ | refine Rd.andT ?_ | refine Rd.orT ?_ | refine Rd.notT ?_ | refine Rd.andV ?_ | refine Rd.orV ?_ | refine Rd.notV ?_ | refine Rd.ifE ?_ | refine Rd.chain ?_
  | refine Rd.nil ?_ | refine Rd.cons ?_ | refine Rd.cb ?_ | refine Rd.call ?_ | refine Rd.tup ?_ | refine Rd.lst ?_ | refine Rd.fld ?_ | refine Rd.meth ?_ | refine Rd.bm ?_ | refine Rd.bm0 ?_
  | refine Rd.eqI ?_ | refine Rd.neI ?_ | refine Rd.eqS ?_ | refine Rd.neS ?_ | refine Rd.isN_non ?_ | refine Rd.isN_int ?_ | refine Rd.isN_ref ?_ | refine Rd.isN_str ?_ | refine Rd.notN_non ?_ | refine Rd.notN_int ?_ | refine Rd.notN_ref ?_ | refine Rd.notN_str ?_
  | refine Rd.mkO ?_ | refine Rd.jn ?_ | refine Rd.jsC ?_ | refine Rd.jsN ?_ | refine Rd.fmt ?_ | refine Rd.sl ?_ | refine Rd.poN ?_ | refine Rd.poS ?_ | refine Rd.xpart ?_ | refine Rd.ifTT ?_ | refine Rd.ifFF ?_ | refine Rd.ifNTT ?_ | refine Rd.ifNFF ?_
  | refine Rd.int ?_ | refine Rd.intB ?_ | refine Rd.abs ?_ | refine Rd.max2 ?_ | refine Rd.min2 ?_
  | refine Rd.sfld ?_ | refine Rd.forS ?_ | refine Rd.lcS ?_ | refine Rd.lcT ?_ | refine Rd.m1 ?_ | refine Rd.m0 ?_ | refine Rd.xiss ?_ | refine Rd.find ?_ | refine Rd.listRg1 ?_ | refine Rd.lcR1 ?_ | refine Rd.lcL ?_ | refine Rd.listRg2 ?_ | refine Rd.eqB ?_ | refine Rd.neB ?_ | refine Rd.xf ?_ | refine Rd.vei ?_ | refine Rd.ost ?_ | refine Rd.makeS ?_ | refine Rd.callS ?_ | refine Rd.make ?_ | refine Rd.forR1 ?_ | refine Rd.forR2 ?_ | refine Rd.forL ?_ | refine Rd.forT ?_ | refine Rd.par ?_ | refine Rd.par2 ?_ | refine Rd.gcons ?_ | refine Rd.gnil ?_ | refine Rd.gsub ?_ | refine Rd.ipi ?_ | refine Rd.aug rfl ?_)
local macro_rules | `(tactic| walk_at "rd2") => `(tactic| first
  | ((with_reducible refine' Rd.pw (m := 1000000) (i := 10) (j := 6) ?c1 ?e1 ?_); (case c1 => exact ⟨by decide, by decide, by decide⟩); (case e1 => decide)) | ((with_reducible refine' Rd.pw (m := 1000000000000) (i := 10) (j := 12) ?c1 ?e1 ?_); (case c1 => exact ⟨by decide, by decide, by decide⟩); (case e1 => decide)) | ((with_reducible refine' Rd.pw (m := 1000000000000000000000000000000) (i := 10) (j := 30) ?c1 ?e1 ?_); (case c1 => exact ⟨by decide, by decide, by decide⟩); (case e1 => decide))
  | ((with_reducible refine' Rd.pw (m := 10000000000000000000000000000000) (i := 10) (j := 31) ?c1 ?e1 ?_); (case c1 => exact ⟨by decide, by decide, by decide⟩); (case e1 => decide)) | ((with_reducible refine' Rd.pw (m := 10000000000000000000000000000000000000000) (i := 10) (j := 40) ?c1 ?e1 ?_); (case c1 => exact ⟨by decide, by decide, by decide⟩); (case e1 => decide)) | ((with_reducible refine' Rd.pw (m := 100000000000000000000) (i := 10) (j := 20) ?c1 ?e1 ?_); (case c1 => exact ⟨by decide, by decide, by decide⟩); (case e1 => decide)) | ((with_reducible refine' Rd.pw (m := 10000000000000000000000000000000000000000000000000000000000000000) (i := 10) (j := 64) ?c1 ?e1 ?_); (case c1 => exact ⟨by decide, by decide, by decide⟩); (case e1 => decide)) | ((with_reducible refine' Rd.pw (m := 10000) (i := 10) (j := 4) ?c1 ?e1 ?_); (case c1 => exact ⟨by decide, by decide, by decide⟩); (case e1 => decide)) | ((with_reducible refine' Rd.pw (m := 100) (i := 10) (j := 2) ?c1 ?e1 ?_); (case c1 => exact ⟨by decide, by decide, by decide⟩); (case e1 => decide))
  | (with_reducible refine' Rd.isiInt (b := true) ?k1 ?_); (case k1 => rfl)
  | (with_reducible refine' Rd.isiInt (b := false) ?k1 ?_); (case k1 => rfl)
  | (with_reducible refine' Rd.isiBl (b := true) ?k1 ?_); (case k1 => rfl)
  | (with_reducible refine' Rd.isiBl (b := false) ?k1 ?_); (case k1 => rfl)
  | (with_reducible refine' Rd.isiStr (b := true) ?k1 ?_); (case k1 => rfl)
  | (with_reducible refine' Rd.isiStr (b := false) ?k1 ?_); (case k1 => rfl)
  | (with_reducible refine' Rd.isiNon (b := true) ?k1 ?_); (case k1 => rfl)
  | (with_reducible refine' Rd.isiNon (b := false) ?k1 ?_); (case k1 => rfl)
  | (with_reducible refine' Rd.isiLst (b := true) ?h1 ?k1 ?_); (case h1 => walk_at "hp"); (case k1 => rfl)
  | (with_reducible refine' Rd.isiLst (b := false) ?h1 ?k1 ?_); (case h1 => walk_at "hp"); (case k1 => rfl)
  | (with_reducible refine' Rd.isiTup (b := true) ?h1 ?k1 ?_); (case h1 => walk_at "hp"); (case k1 => rfl)
  | (with_reducible refine' Rd.isiTup (b := false) ?h1 ?k1 ?_); (case h1 => walk_at "hp"); (case k1 => rfl)
  | (with_reducible refine' Rd.isiSqT (b := true) ?s1 ?k1 ?_); (case s1 => walk_at "sq"); (case k1 => rfl)
  | (with_reducible refine' Rd.isiSqT (b := false) ?s1 ?k1 ?_); (case s1 => walk_at "sq"); (case k1 => rfl)
  | (with_reducible refine' Rd.isiSqL (b := true) ?s1 ?k1 ?_); (case s1 => walk_at "sq"); (case k1 => rfl)
  | (with_reducible refine' Rd.isiSqL (b := false) ?s1 ?k1 ?_); (case s1 => walk_at "sq"); (case k1 => rfl)
  | (with_reducible refine' Rd.i1 ?c1 ?_); (case c1 => first | assumption | (show (0 : Int) < _; omega) | decide | exact .inl (by decide) | exact .inr (by decide) | exact .inr ⟨by omega, by omega⟩ | exact .inl ⟨by omega, by omega⟩ | exact ⟨by decide, by decide⟩)
  | (with_reducible refine' Rd.len ?s1 ?_); (case s1 => walk_at "sq")
  | (with_reducible refine' Rd.lenT ?s1 ?_); (case s1 => walk_at "sq")
  | (with_reducible refine' Rd.xtyL ?s1 ?_); (case s1 => walk_at "sq")
  | (with_reducible refine' Rd.ixL ?s1 ?a1 ?_); (case s1 => walk_at "sq"); (case a1 => rfl)
  | (with_reducible refine' Rd.ixT ?s1 ?a1 ?_); (case s1 => walk_at "sq"); (case a1 => rfl)
  | (with_reducible refine' Rd.gtup ?s1 ?n1 ?_); (case s1 => walk_at "sq"); (case n1 => rfl)
  | (with_reducible refine' Rd.rfld ?h1 ?c1 ?n1 ?l1 ?_); (case h1 => walk_at "hp"); (case c1 => assumption); (case n1 => assumption); (case l1 => walk_at "lk")
  | (with_reducible refine' Rd.xmeth ?h1 ?l1 ?_); (case h1 => walk_at "hp"); (case l1 => walk_at "lk")
  | (with_reducible refine' Rd.xst ?h1 ?c1 ?n1 ?l1 ?_); (case h1 => walk_at "hp"); (case c1 => assumption); (case n1 => assumption); (case l1 => rfl)
  | (with_reducible refine' Rd.take ?h1 ?m1 ?_); (case h1 => walk_at "hp"); (case m1 => omega)
  | ((with_reducible refine' Rd.tupOfL ?s1 ?_); (case s1 => walk_at "sq")) | ((with_reducible refine' Rd.tupOfT ?s1 ?_); (case s1 => walk_at "sq"))
  | (with_reducible refine Rd.ifT (by assumption) ?_) | (with_reducible refine Rd.ifF (by assumption) ?_) | (with_reducible refine Rd.ifNT (by assumption) ?_) | (with_reducible refine Rd.ifNF (by assumption) ?_)
  | (with_reducible refine Rd.ifT rfl ?_) | (with_reducible refine Rd.ifNF rfl ?_)
  | (with_reducible refine Rd.ifT (by omega) ?_) | (with_reducible refine Rd.ifF (by omega) ?_) | (with_reducible refine Rd.ifNT (by omega) ?_) | (with_reducible refine Rd.ifNF (by omega) ?_)
  | ((with_reducible refine Rd.ifT ?p1 ?_); (case p1 => decide +kernel)) | ((with_reducible refine Rd.ifF ?p1 ?_); (case p1 => decide +kernel)) | ((with_reducible refine Rd.ifNT ?p1 ?_); (case p1 => decide +kernel)) | ((with_reducible refine Rd.ifNF ?p1 ?_); (case p1 => decide +kernel)))
local macro_rules | `(tactic| walk_at "rd") => `(tactic| repeat (first | walk_at "rd1" | walk_at "rd2"))

local macro_rules | `(tactic| walk_at "rd1") => `(tactic| with_reducible first
  | refine Rd.dget ?_ | refine Rd.dget1 ?_ | refine Rd.din ?_ | refine Rd.dput ?_ | refine Rd.isB ?_ | refine Rd.notB ?_ | refine Rd.fldaug ?_ | refine Rd.radd ?_)
local macro_rules | `(tactic| walk_at "rd2") => `(tactic| first
  | ((with_reducible refine' Rd.lenD ?h1 ?_); (case h1 => walk_at "hp")) | ((with_reducible refine' Rd.xisd ?h1 ?_); (case h1 => walk_at "hp"))
  | ((with_reducible refine' Rd.xfa ?h1 ?c1 ?n1 ?l1 ?_); (case h1 => walk_at "hp"); (case c1 => assumption); (case n1 => assumption); (case l1 => walk_at "lk")))

local macro_rules | `(tactic| walk_at "rd1") => `(tactic| with_reducible first
  | refine Rd.forE ?_ | refine Rd.forR3 ?_ | refine Rd.listKeys ?_ | refine Rd.pairs1 ?_ | refine Rd.isXb ?_ | refine Rd.isXn ?_ | refine Rd.isN_bl ?_ | refine Rd.notN_bl ?_)

namespace Toy
open PySem L2
/-- the shapes of commands -/
def tab_SHAPES : List (Str × Str) := [("set", "rv"), ("copy", "rr"), ("cell", "rr"), ("service", "rb"), ("read", "rr"), ("write", "rr"), ("link", "rr"), ("follow", "rr"), ("call", "rkr"), ("ask", "rrr"), ("answer", "r"), ("raise", "r"), ("try", "nr"), ("alike", "rrn"), ("same", "rrn"), ("kind", "rwn"), ("mode", "m"), ("when", "mn"), ("skip", "n"), ("yes", ""), ("no", "")]
def non_SHAPES : List Str := ["jump", "", "Set", "call "]

def top (i : Nat) : Stmt := PySem.Challenge.pw_surebridge_k34_programs_refused.main.body.getD i (.Pass ⟨0, 0, 0, 0⟩)
abbrev s_law_take : Stmt := top 22
theorem sc_law_take : FnScope ["deck", "many"] ["deck", "many"] (defScope s_law_take) := ⟨rfl, rfl, rfl, by decide +kernel, rfl, by decide +kernel, by decide +kernel⟩
abbrev s_law_deck : Stmt := top 21
theorem sc_law_deck : FnScope ["script", "cells", "each", "deck", "seed", "k", "cell", "rest", "at"] ["script", "cells", "each"] (defScope s_law_deck) := ⟨rfl, rfl, rfl, by decide +kernel, rfl, by decide +kernel, by decide +kernel⟩
abbrev s_law_plain : Stmt := top 23
theorem sc_law_plain : FnScope ["value", "item"] ["value"] (defScope s_law_plain) := ⟨rfl, rfl, rfl, by decide +kernel, rfl, by decide +kernel, by decide +kernel⟩
abbrev s_TooMany_init_ : Stmt := inClass (top 4) 0
theorem sc_TooMany_init_ : FnScope ["self", "what"] ["self", "what"] (defScope s_TooMany_init_) := ⟨rfl, rfl, rfl, by decide +kernel, rfl, by decide +kernel, by decide +kernel⟩
abbrev s_InvalidProgram_init_ : Stmt := inClass (top 3) 0
theorem sc_InvalidProgram_init_ : FnScope ["self", "body", "command"] ["self", "body", "command"] (defScope s_InvalidProgram_init_) := ⟨rfl, rfl, rfl, by decide +kernel, rfl, by decide +kernel, by decide +kernel⟩
abbrev s_fits : Stmt := top 12
theorem sc_fits : FnScope ["letter", "operand", "behind", "bodies"] ["letter", "operand", "behind", "bodies"] (defScope s_fits) := ⟨rfl, rfl, rfl, by decide +kernel, rfl, by decide +kernel, by decide +kernel⟩
abbrev s_allowed : Stmt := top 13
theorem sc_allowed : FnScope ["command", "behind", "bodies", "shape", "index"] ["command", "behind", "bodies"] (defScope s_allowed) := ⟨rfl, rfl, rfl, by decide +kernel, rfl, by decide +kernel, by decide +kernel⟩
abbrev s_named_registers_of : Stmt := top 14
theorem sc_named_registers_of : FnScope ["command", "shape", "index"] ["command"] (defScope s_named_registers_of) := ⟨rfl, rfl, rfl, by decide +kernel, rfl, by decide +kernel, by decide +kernel⟩
abbrev s_check_bodies : Stmt := top 17
theorem sc_check_bodies : FnScope ["bodies", "body", "number", "at", "command"] ["bodies"] (defScope s_check_bodies) := ⟨rfl, rfl, rfl, by decide +kernel, rfl, by decide +kernel, by decide +kernel⟩
abbrev s_room_of : Stmt := top 18
theorem sc_room_of : FnScope ["bodies", "room", "body", "command", "register"] ["bodies"] (defScope s_room_of) := ⟨rfl, rfl, rfl, by decide +kernel, rfl, by decide +kernel, by decide +kernel⟩
abbrev s_Program_init_ : Stmt := inClass (top 19) 0
theorem sc_Program_init_ : FnScope ["self", "bodies", "body"] ["self", "bodies"] (defScope s_Program_init_) := ⟨rfl, rfl, rfl, by decide +kernel, rfl, by decide +kernel, by decide +kernel⟩
abbrev s_law_shapes : Stmt := top 24
theorem sc_law_shapes : FnScope ["shapes", "more", "last", "part", "word"] [] (defScope s_law_shapes) := ⟨rfl, rfl, rfl, by decide +kernel, rfl, by decide +kernel, by decide +kernel⟩
abbrev s_law_value : Stmt := top 25
theorem sc_law_value : FnScope ["deck", "text", "place", "number"] ["deck"] (defScope s_law_value) := ⟨rfl, rfl, rfl, by decide +kernel, rfl, by decide +kernel, by decide +kernel⟩
abbrev s_law_operand : Stmt := top 26
theorem sc_law_operand : FnScope ["deck", "letter", "behind", "many"] ["deck", "letter", "behind", "many"] (defScope s_law_operand) := ⟨rfl, rfl, rfl, by decide +kernel, rfl, by decide +kernel, by decide +kernel⟩
abbrev s_law_command : Stmt := top 27
theorem sc_law_command : FnScope ["deck", "shapes", "behind", "many", "verdicts", "words", "word", "command", "letter"] ["deck", "shapes", "behind", "many", "verdicts"] (defScope s_law_command) := ⟨rfl, rfl, rfl, by decide +kernel, rfl, by decide +kernel, by decide +kernel⟩
abbrev s_law_bodies : Stmt := top 28
theorem sc_law_bodies : FnScope ["deck", "shapes", "most", "verdicts", "many", "bodies", "number", "size", "at"] ["deck", "shapes", "most", "verdicts"] (defScope s_law_bodies) := ⟨rfl, rfl, rfl, by decide +kernel, rfl, by decide +kernel, by decide +kernel⟩
abbrev s_law_bad_operand : Stmt := top 29
theorem sc_law_bad_operand : FnScope ["deck", "letter", "behind", "many", "low"] ["deck", "letter", "behind", "many"] (defScope s_law_bad_operand) := ⟨rfl, rfl, rfl, by decide +kernel, rfl, by decide +kernel, by decide +kernel⟩
abbrev s_law_spoilt : Stmt := top 30
theorem sc_law_spoilt : FnScope ["deck", "shapes", "command", "behind", "many", "shape", "way", "places", "at"] ["deck", "shapes", "command", "behind", "many"] (defScope s_law_spoilt) := ⟨rfl, rfl, rfl, by decide +kernel, rfl, by decide +kernel, by decide +kernel⟩
abbrev s_law_refusal : Stmt := top 31
theorem sc_law_refusal : FnScope ["bodies", "error"] ["bodies"] (defScope s_law_refusal) := ⟨rfl, rfl, rfl, by decide +kernel, rfl, by decide +kernel, by decide +kernel⟩
abbrev s_law_sizes : Stmt := top 32
theorem sc_law_sizes : FnScope ["deck", "bodies", "kind", "found", "number", "place", "at", "more"] ["deck", "bodies"] (defScope s_law_sizes) := ⟨rfl, rfl, rfl, by decide +kernel, rfl, by decide +kernel, by decide +kernel⟩
abbrev s_law : Stmt := top 33
theorem sc_law : FnScope ["script", "deck", "shapes", "bodies", "many", "found", "turn", "at", "place", "command", "changed", "due", "late", "body", "passed"] ["script"] (defScope s_law) := ⟨rfl, rfl, rfl, by decide +kernel, rfl, by decide +kernel, by decide +kernel⟩
/-- where things stand -/
structure Ad where
  a_law_take : Addr
  d_law_take : FuncData
  a_law_deck : Addr
  d_law_deck : FuncData
  a_law_plain : Addr
  d_law_plain : FuncData
  a_TooMany_init_ : Addr
  d_TooMany_init_ : FuncData
  a_InvalidProgram_init_ : Addr
  d_InvalidProgram_init_ : FuncData
  a_fits : Addr
  d_fits : FuncData
  a_allowed : Addr
  d_allowed : FuncData
  a_named_registers_of : Addr
  d_named_registers_of : FuncData
  a_check_bodies : Addr
  d_check_bodies : FuncData
  a_room_of : Addr
  d_room_of : FuncData
  a_Program_init_ : Addr
  d_Program_init_ : FuncData
  a_law_shapes : Addr
  d_law_shapes : FuncData
  a_law_value : Addr
  d_law_value : FuncData
  a_law_operand : Addr
  d_law_operand : FuncData
  a_law_command : Addr
  d_law_command : FuncData
  a_law_bodies : Addr
  d_law_bodies : FuncData
  a_law_bad_operand : Addr
  d_law_bad_operand : FuncData
  a_law_spoilt : Addr
  d_law_spoilt : FuncData
  a_law_refusal : Addr
  d_law_refusal : FuncData
  a_law_sizes : Addr
  d_law_sizes : FuncData
  a_law : Addr
  d_law : FuncData
  c_BridgeError : Addr
  c_InvalidProgram : Addr
  c_Program : Addr
  c_TooMany : Addr
  k_KIND_WORDS : Addr
  k_SHAPES : Addr
  es_SHAPES : Array DictEntry
  nn_SHAPES : Nat
/-- what the top has written -/
structure Txt (K : PySem.W.Frag) (w : World) (mg : Str → Option Value) (ad : Ad) : Prop where
  F_law_take : Fun K "_law_take" "_law_take" s_law_take ad.a_law_take ad.d_law_take
  b_law_take : Binds K ad.d_law_take ["deck", "many"] []
  m_law_take : mg "_law_take" = some (.ref ad.a_law_take)
  F_law_deck : Fun K "_law_deck" "_law_deck" s_law_deck ad.a_law_deck ad.d_law_deck
  b_law_deck : Binds K ad.d_law_deck ["script", "cells", "each"] []
  m_law_deck : mg "_law_deck" = some (.ref ad.a_law_deck)
  F_law_plain : Fun K "_law_plain" "_law_plain" s_law_plain ad.a_law_plain ad.d_law_plain
  b_law_plain : Binds K ad.d_law_plain ["value"] []
  m_law_plain : mg "_law_plain" = some (.ref ad.a_law_plain)
  F_TooMany_init_ : Fun K "__init__" "TooMany.__init__" s_TooMany_init_ ad.a_TooMany_init_ ad.d_TooMany_init_
  b_TooMany_init_ : Binds K ad.d_TooMany_init_ ["self", "what"] []
  F_InvalidProgram_init_ : Fun K "__init__" "InvalidProgram.__init__" s_InvalidProgram_init_ ad.a_InvalidProgram_init_ ad.d_InvalidProgram_init_
  b_InvalidProgram_init_ : Binds K ad.d_InvalidProgram_init_ ["self", "body", "command"] []
  F_fits : Fun K "fits" "fits" s_fits ad.a_fits ad.d_fits
  b_fits : Binds K ad.d_fits ["letter", "operand", "behind", "bodies"] []
  m_fits : mg "fits" = some (.ref ad.a_fits)
  F_allowed : Fun K "allowed" "allowed" s_allowed ad.a_allowed ad.d_allowed
  b_allowed : Binds K ad.d_allowed ["command", "behind", "bodies"] []
  m_allowed : mg "allowed" = some (.ref ad.a_allowed)
  F_named_registers_of : Fun K "named_registers_of" "named_registers_of" s_named_registers_of ad.a_named_registers_of ad.d_named_registers_of
  b_named_registers_of : Binds K ad.d_named_registers_of ["command"] []
  m_named_registers_of : mg "named_registers_of" = some (.ref ad.a_named_registers_of)
  F_check_bodies : Fun K "check_bodies" "check_bodies" s_check_bodies ad.a_check_bodies ad.d_check_bodies
  b_check_bodies : Binds K ad.d_check_bodies ["bodies"] []
  m_check_bodies : mg "check_bodies" = some (.ref ad.a_check_bodies)
  F_room_of : Fun K "room_of" "room_of" s_room_of ad.a_room_of ad.d_room_of
  b_room_of : Binds K ad.d_room_of ["bodies"] []
  m_room_of : mg "room_of" = some (.ref ad.a_room_of)
  F_Program_init_ : Fun K "__init__" "Program.__init__" s_Program_init_ ad.a_Program_init_ ad.d_Program_init_
  b_Program_init_ : Binds K ad.d_Program_init_ ["self", "bodies"] []
  F_law_shapes : Fun K "_law_shapes" "_law_shapes" s_law_shapes ad.a_law_shapes ad.d_law_shapes
  b_law_shapes : Binds K ad.d_law_shapes [] []
  m_law_shapes : mg "_law_shapes" = some (.ref ad.a_law_shapes)
  F_law_value : Fun K "_law_value" "_law_value" s_law_value ad.a_law_value ad.d_law_value
  b_law_value : Binds K ad.d_law_value ["deck"] []
  m_law_value : mg "_law_value" = some (.ref ad.a_law_value)
  F_law_operand : Fun K "_law_operand" "_law_operand" s_law_operand ad.a_law_operand ad.d_law_operand
  b_law_operand : Binds K ad.d_law_operand ["deck", "letter", "behind", "many"] []
  m_law_operand : mg "_law_operand" = some (.ref ad.a_law_operand)
  F_law_command : Fun K "_law_command" "_law_command" s_law_command ad.a_law_command ad.d_law_command
  b_law_command : Binds K ad.d_law_command ["deck", "shapes", "behind", "many", "verdicts"] []
  m_law_command : mg "_law_command" = some (.ref ad.a_law_command)
  F_law_bodies : Fun K "_law_bodies" "_law_bodies" s_law_bodies ad.a_law_bodies ad.d_law_bodies
  b_law_bodies : Binds K ad.d_law_bodies ["deck", "shapes", "most", "verdicts"] []
  m_law_bodies : mg "_law_bodies" = some (.ref ad.a_law_bodies)
  F_law_bad_operand : Fun K "_law_bad_operand" "_law_bad_operand" s_law_bad_operand ad.a_law_bad_operand ad.d_law_bad_operand
  b_law_bad_operand : Binds K ad.d_law_bad_operand ["deck", "letter", "behind", "many"] []
  m_law_bad_operand : mg "_law_bad_operand" = some (.ref ad.a_law_bad_operand)
  F_law_spoilt : Fun K "_law_spoilt" "_law_spoilt" s_law_spoilt ad.a_law_spoilt ad.d_law_spoilt
  b_law_spoilt : Binds K ad.d_law_spoilt ["deck", "shapes", "command", "behind", "many"] []
  m_law_spoilt : mg "_law_spoilt" = some (.ref ad.a_law_spoilt)
  F_law_refusal : Fun K "_law_refusal" "_law_refusal" s_law_refusal ad.a_law_refusal ad.d_law_refusal
  b_law_refusal : Binds K ad.d_law_refusal ["bodies"] []
  m_law_refusal : mg "_law_refusal" = some (.ref ad.a_law_refusal)
  F_law_sizes : Fun K "_law_sizes" "_law_sizes" s_law_sizes ad.a_law_sizes ad.d_law_sizes
  b_law_sizes : Binds K ad.d_law_sizes ["deck", "bodies"] []
  m_law_sizes : mg "_law_sizes" = some (.ref ad.a_law_sizes)
  F_law : Fun K "law" "law" s_law ad.a_law ad.d_law
  b_law : Binds K ad.d_law ["script"] []
  m_law : mg "law" = some (.ref ad.a_law)
  cl_Program : Cls K ad.c_Program
  mg_Program : mg "Program" = some (.ref ad.c_Program)
  mk_Program : Mk K ad.c_Program ad.a_Program_init_
  n_Program_bodies : NoAttr K ad.c_Program "bodies"
  n_Program_room : NoAttr K ad.c_Program "room"
  mg_BridgeError : mg "BridgeError" = some (.ref ad.c_BridgeError)
  ov_BridgeError : OvB K ad.c_BridgeError
  mg_InvalidProgram : mg "InvalidProgram" = some (.ref ad.c_InvalidProgram)
  ox_InvalidProgram : OexC K ad.c_InvalidProgram
  ix_InvalidProgram : PySem.W.findIn K (.ref ad.c_InvalidProgram) "__init__" = some (some (.ref ad.a_InvalidProgram_init_))
  tx_InvalidProgram : PySem.W.typeIn K (.ref ad.a_InvalidProgram_init_) = some (.type "function")
  xd_InvalidProgram : ExD K ad.c_InvalidProgram
  mg_TooMany : mg "TooMany" = some (.ref ad.c_TooMany)
  ox_TooMany : OexC K ad.c_TooMany
  ix_TooMany : PySem.W.findIn K (.ref ad.c_TooMany) "__init__" = some (some (.ref ad.a_TooMany_init_))
  tx_TooMany : PySem.W.typeIn K (.ref ad.a_TooMany_init_) = some (.type "function")
  xd_TooMany : ExD K ad.c_TooMany
  nx_InvalidProgram_body : PySem.W.findIn K (.ref ad.c_InvalidProgram) "body" = some none
  nx_InvalidProgram_command : PySem.W.findIn K (.ref ad.c_InvalidProgram) "command" = some none
  nx_TooMany_what : PySem.W.findIn K (.ref ad.c_TooMany) "what" = some none
  em_InvalidProgram_BridgeError : PySem.W.exmOne K (.ref ad.c_InvalidProgram) (.ref ad.c_BridgeError) = some true
  em_TooMany_BridgeError : PySem.W.exmOne K (.ref ad.c_TooMany) (.ref ad.c_BridgeError) = some true
  kt_InvalidProgram_TooMany : PySem.W.kitOne K (.ref ad.c_InvalidProgram) (.ref ad.c_TooMany) = some false
  kt_InvalidProgram_InvalidProgram : PySem.W.kitOne K (.ref ad.c_InvalidProgram) (.ref ad.c_InvalidProgram) = some true
  kt_InvalidProgram_ValueError : PySem.W.kitOne K (.ref ad.c_InvalidProgram) (.type "ValueError") = some true
  kt_TooMany_TooMany : PySem.W.kitOne K (.ref ad.c_TooMany) (.ref ad.c_TooMany) = some true
  kt_TooMany_InvalidProgram : PySem.W.kitOne K (.ref ad.c_TooMany) (.ref ad.c_InvalidProgram) = some false
  mc_KIND_WORDS : mg "KIND_WORDS" = some (.ref ad.k_KIND_WORDS)
  tv_KIND_WORDS : ∀ H : Hp, SqT K H ad.k_KIND_WORDS [V.str "nothing", V.str "number", V.str "text", V.str "code", V.str "cell", V.str "service"]
  mc_LOCALS : ∃ u, mg "LOCALS" = some u ∧ RelV (.int 8) u
  mc_MOST_BODIES : ∃ u, mg "MOST_BODIES" = some u ∧ RelV (.int 1000) u
  mc_MOST_COMMANDS : ∃ u, mg "MOST_COMMANDS" = some u ∧ RelV (.int 4000) u
  mc_REGISTERS : ∃ u, mg "REGISTERS" = some u ∧ RelV (.int 256) u
  mc_SHAPES : mg "SHAPES" = some (.ref ad.k_SHAPES)
  kd_SHAPES : KDict K w ad.k_SHAPES ad.es_SHAPES ad.nn_SHAPES
  kw_SHAPES : ∀ p ∈ tab_SHAPES, KDct K w ad.k_SHAPES p.1 (.str p.2) ∧ ∃ u, PySem.W.nsIn K ad.k_SHAPES p.1 = some (some u)
  kn_SHAPES : ∀ z ∈ non_SHAPES, PySem.W.nsIn K ad.k_SHAPES z = some none
  z_ValueError : mg "ValueError" = none
  z_abs : mg "abs" = none
  z_bool : mg "bool" = none
  z_enumerate : mg "enumerate" = none
  z_int : mg "int" = none
  z_isinstance : mg "isinstance" = none
  z_len : mg "len" = none
  z_list : mg "list" = none
  z_max : mg "max" = none
  z_min : mg "min" = none
  z_range : mg "range" = none
  z_sorted : mg "sorted" = none
  z_str : mg "str" = none
  z_tuple : mg "tuple" = none
/-- the fields of Program, in order -/
def fs_Program (v_bodies v_room : V) : List (Str × V) := [("bodies", v_bodies), ("room", v_room)]
theorem lk_Program_bodies (v_bodies v_room : V) : (fs_Program v_bodies v_room).lookup ("bodies" : Str) = some v_bodies := by rfl
theorem lk_Program_room (v_bodies v_room : V) : (fs_Program v_bodies v_room).lookup ("room" : Str) = some v_room := by rfl
theorem pf_Program_bodies (v_bodies : V) : putF "bodies" v_bodies ([] : List (Str × V)) = [(("bodies" : Str), v_bodies)] := by rfl
theorem pf_Program_room (v_bodies v_room : V) : putF "room" v_room ([(("bodies" : Str), v_bodies)] : List (Str × V)) = fs_Program v_bodies v_room := by rfl
theorem st_Program_bodies (v_bodies v_room w : V) : putF "bodies" w (fs_Program v_bodies v_room) = fs_Program w v_room := by rfl
theorem st_Program_room (v_bodies v_room w : V) : putF "room" w (fs_Program v_bodies v_room) = fs_Program v_bodies w := by rfl
local macro_rules | `(tactic| walk_at "lk") => `(tactic| with_reducible first | exact Toy.lk_Program_bodies _ _ | exact Toy.lk_Program_room _ _)
section
variable {P : Program} {w : World} {K : PySem.W.Frag} {mg : Str → Option Value} {base : Heap}
/-! ### the deck and its draws -/
theorem ok_law_takeC {ad : Ad} (T : Txt K w mg ad) : FnOk P w K mg base CX0 1 ad.a_law_take ad.d_law_take ["deck", "many"] (Dk.spTakeC) := by
  refine T.F_law_take.ok sc_law_take (fun vs H Q E h => ?_) (fun cdv A outer s H vs Q E hr h => ?_)
  · obtain ⟨l, ns, m, rfl, h1, h2, h3, k⟩ := h
    rfl
  · obtain ⟨l, ns, m, rfl, h1, h2, h3, k⟩ := h
    refine ⟨_, (pss_cons (ps_if (pt_cmpR op_eq (pe_callB (id := "len") Rd.c_len (by rfl) T.z_len (by decide +kernel) (pa_cons (pv 0) pa_nil)) pe_int (nomark _)) (pss_one (ps_ret pe_int)) pss_nil)
      (pss_one (ps_ret (pe_op op_mod (pe_callTy (T := "int") Rd.c_int (by rfl) T.z_int (by decide +kernel) (pa_cons (pe_bm0 PySem.F.plainAttrs_list PySem.F.slot_list_pop PySem.F.type_list_pop mt_pop (pv 0)) pa_nil)) (pv 1))))), ?_⟩
    try dsimp only [L2.cxOf, L2.Cx.nox, L2.Cx.wish]
    change (_ : TS) _ ([some (.ref l), some (.int m)] : St) _
    have cl_Program := T.cl_Program
    have n_Program_bodies := T.n_Program_bodies
    have n_Program_room := T.n_Program_room
    have hd : L2.Same H H := Same.refl H
    walk_at "rd"
    refine Rd.ifd (fun c => ?_) (fun c => ?_)
    · walk_at "rd"
      have q := k 0 ns (by omega) h3 h2
      rw [Dk.upd_id h1] at q
      exact q
    · walk_at "rd"
      have hl : (ns.map V.int).length = ns.length := List.length_map ..
      have hp : 0 < ns.length := by
        rw [hl] at c
        omega
      have hz : (ns.map V.int)[(ns.map V.int).length - 1]? = some (V.int (ns[ns.length - 1]'(by omega))) := by
        rw [hl, List.getElem?_map, List.getElem?_eq_getElem (by omega)]
        rfl
      refine Rd.pop h1 hz ?_
      walk_at "rd"
      rw [← List.map_dropLast]
      exact k _ _ (Int.emod_nonneg _ (by omega)) (Int.emod_lt_of_pos _ h3) (by rw [List.length_dropLast]; omega)
theorem ok_law_take {ad : Ad} (T : Txt K w mg ad) : FnOk P w K mg base CX0 1 ad.a_law_take ad.d_law_take ["deck", "many"] Dk.spTake := Dk.ok_take (ok_law_takeC T)
theorem ok_law_deckC {ad : Ad} (T : Txt K w mg ad) : FnOk P w K mg base CX0 1 ad.a_law_deck ad.d_law_deck ["script", "cells", "each"] (Dk.spDeckC K) := by
  refine T.F_law_deck.ok sc_law_deck (fun vs H Q E h => ?_) (fun cdv A outer s H vs Q E hr h => ?_)
  · obtain ⟨a, ns, c, e, rfl, hS, hn, hc0, he0, hc1, he1, k⟩ := h
    rfl
  · obtain ⟨a, ns, c, e, rfl, hS, hn, hc0, he0, hc1, he1, k⟩ := h
    refine ⟨_, (pss_cons (ps_set (i := 3) sc_law_deck.nd rfl (Or.inl rfl) (pe_lst pa_nil))
      (pss_cons (ps_set (i := 4) sc_law_deck.nd rfl (Or.inl rfl) (pe_op op_add pe_int (pe_callB (id := "len") Rd.c_len (by rfl) T.z_len (by decide +kernel) (pa_cons (pv 0) pa_nil))))
      (pss_cons (ps_for PassesOwn.never rfl (pi_range1 rfl T.z_range (pa_cons (pv 1) pa_nil)) (pg_name (i := 5) sc_law_deck.nd rfl (Or.inl rfl)) (pss_cons (ps_set (i := 6) sc_law_deck.nd rfl (Or.inl rfl) pe_int)
      (Evl.pss_cut (ps_if (pt_cmpR op_lt (pv 5) (pe_callB (id := "len") Rd.c_len (by rfl) T.z_len (by decide +kernel) (pa_cons (pv 0) pa_nil)) (nomark _)) (pss_one (ps_set (i := 6) sc_law_deck.nd rfl (Or.inl rfl) (pe_ix ix_list (pv 0) (pv 5) (fun _ _ => rfl)))) pss_nil)
      (pss_cons (ps_set (i := 7) sc_law_deck.nd rfl (Or.inl rfl) (pe_callB (id := "abs") Rd.c_abs (by rfl) T.z_abs (by decide +kernel) (pa_cons (pv 6) pa_nil)))
      (pss_one (ps_if (pt_cmpR op_ge (pv 7) (pe_op op_pow pe_int pe_int) (nomark _)) (pss_one (ps_for PassesOwn.never rfl (pi_range1 rfl T.z_range (pa_cons (pv 2) pa_nil)) (pg_name (i := 8) sc_law_deck.nd rfl (Or.inl rfl)) (pss_cons (ps_expr (pe_bm PySem.F.plainAttrs_list PySem.F.slot_list_append PySem.F.type_list_append mt_append (pv 3) (pa_cons (pe_op op_mod (pe_callTy (T := "int") Rd.c_int (by rfl) T.z_int (by decide +kernel) (pa_cons (pv 7) pa_nil)) pe_int) pa_nil)))
      (pss_one (ps_set (i := 7) sc_law_deck.nd rfl (Or.inl rfl) (pe_op op_fdiv (pv 7) pe_int)))))) (pss_cons (ps_set (i := 4) sc_law_deck.nd rfl (Or.inl rfl) (pe_op op_mod (pe_callTy (T := "int") Rd.c_int (by rfl) T.z_int (by decide +kernel) (pa_cons (pe_op op_add (pe_op op_add (pe_op op_add (pe_op op_mul (pv 4) pe_int) (pe_op op_mul pe_int (pv 7))) (pe_callTy (T := "int") Rd.c_int (by rfl) T.z_int (by decide +kernel) (pa_cons (pe_cmpR op_lt (pv 6) pe_int (nomark _)) pa_nil))) (pv 5)) pa_nil)) pe_int))
      (pss_one (ps_for PassesOwn.never rfl (pi_range1 rfl T.z_range (pa_cons (pv 2) pa_nil)) (pg_name (i := 8) sc_law_deck.nd rfl (Or.inl rfl)) (pss_cons (ps_set (i := 4) sc_law_deck.nd rfl (Or.inl rfl) (pe_op op_mod (pe_callTy (T := "int") Rd.c_int (by rfl) T.z_int (by decide +kernel) (pa_cons (pe_op op_add (pe_op op_add (pe_op op_mul (pv 4) pe_int) (pv 8)) pe_int) pa_nil)) pe_int))
      (pss_one (ps_expr (pe_bm PySem.F.plainAttrs_list PySem.F.slot_list_append PySem.F.type_list_append mt_append (pv 3) (pa_cons (pe_op op_mod (pe_callTy (T := "int") Rd.c_int (by rfl) T.z_int (by decide +kernel) (pa_cons (pe_op op_fdiv (pv 4) pe_int) pa_nil)) pe_int) pa_nil))))))))))))))
      (pss_cons (ps_expr (pe_bm0 PySem.F.plainAttrs_list PySem.F.slot_list_reverse PySem.F.type_list_reverse mt_reverse (pv 3)))
      (pss_one (ps_ret (pv 3))))))), ?_⟩
    try dsimp only [L2.cxOf, L2.Cx.nox, L2.Cx.wish]
    change (_ : TS) _ ([some (.ref a), some (.int c), some (.int e), none, none, none, none, none, none] : St) _
    have cl_Program := T.cl_Program
    have n_Program_bodies := T.n_Program_bodies
    have n_Program_room := T.n_Program_room
    walk_at "rd"
    refine Rd.xlstU rfl fun l hl => ?_
    have hS1 : SqL K (upd H l (.lst [])) a (ns.map V.int) := Evl.ex_l (Evl.Ex.new hl) hS
    walk_at "rd"
    refine Rd.xfr1 ⟨by omega, by omega⟩ (fun i σ H' => ∃ (ms : List Int) (sd : Int) (v5 v6 v7 v8 : Option V), σ = [some (.ref a), some (.int c), some (.int e), some (.ref l), some (.int sd), v5, v6, v7, v8] ∧ H' = upd H l (.lst (ms.map V.int)) ∧ ms.length ≤ i * 64)
      ⟨[], _, none, none, none, none, rfl, rfl, Nat.zero_le _⟩ ?_ ?_
    · rintro i σ H' hi ⟨ms, sd, v5, v6, v7, v8, rfl, rfl, hm⟩
      have hS2 : SqL K (upd H l (.lst (ms.map V.int))) a (ns.map V.int) := Evl.ex_l (Evl.Ex.new hl) hS
      walk_at "rd"
      refine ⟨fun σ H' => ∃ cell : Int, σ = [some (.ref a), some (.int c), some (.int e), some (.ref l), some (.int sd), some (.int i), some (.int cell), v7, v8] ∧ H' = upd H l (.lst (ms.map V.int)), ?_, ?_⟩
      · walk_at "rd"
        refine Rd.ifd (fun h1 => ?_) (fun h1 => ?_)
        · walk_at "rd"
          rw [List.length_map] at h1
          refine Rd.ixL hS2 (atI_nat (j := i) (v := V.int (ns[i]'(by omega))) (by rw [List.getElem?_map, List.getElem?_eq_getElem (by omega)]; rfl)) ?_
          walk_at "rd"
          exact ⟨_, rfl, rfl⟩
        · walk_at "rd"
          exact ⟨_, rfl, rfl⟩
      · rintro σ H' ⟨cell, rfl, rfl⟩
        walk_at "rd"
        generalize hrest : (if cell < 0 then -cell else cell) = rest0
        refine Rd.ifd (fun h1 => ?_) (fun h1 => ?_)
        · walk_at "rd"
          refine Rd.xfr1 ⟨by omega, by omega⟩ (fun j σ H' => ∃ (ms' : List Int) (rest : Int) (v8 : Option V), σ = [some (.ref a), some (.int c), some (.int e), some (.ref l), some (.int sd), some (.int i), some (.int cell), some (.int rest), v8] ∧ H' = upd H l (.lst (ms'.map V.int)) ∧ ms'.length ≤ i * 64 + j)
            ⟨ms, _, _, rfl, rfl, hm⟩ ?_ ?_
          · rintro j σ H' hj ⟨ms', rest, v8, rfl, rfl, hm'⟩
            walk_at "rd"
            refine Rd.append upd_same (by rw [List.length_map]; omega) ?_
            walk_at "rd"
            exact ⟨ms' ++ [rest % 1000003], rest / 1000003, _, rfl, by rw [upd_upd, List.map_append]; rfl, by rw [List.length_append]; simp; omega⟩
          · rintro σ H' ⟨ms', rest, v8, rfl, rfl, hm'⟩
            exact ⟨ms', sd, _, _, _, _, rfl, rfl, by omega⟩
        · walk_at "rd"
          refine Rd.xfr1 ⟨by omega, by omega⟩ (fun j σ H' => ∃ (ms' : List Int) (sd : Int) (v8 : Option V), σ = [some (.ref a), some (.int c), some (.int e), some (.ref l), some (.int sd), some (.int i), some (.int cell), some (.int rest0), v8] ∧ H' = upd H l (.lst (ms'.map V.int)) ∧ ms'.length ≤ i * 64 + j)
            ⟨ms, _, _, rfl, rfl, hm⟩ ?_ ?_
          · rintro j σ H' hj ⟨ms', sd, v8, rfl, rfl, hm'⟩
            walk_at "rd"
            refine Rd.append upd_same (by rw [List.length_map]; omega) ?_
            walk_at "rd"
            exact ⟨ms' ++ [_], _, _, rfl, by rw [upd_upd, List.map_append]; rfl, by rw [List.length_append]; simp; omega⟩
          · rintro σ H' ⟨ms', sd, v8, rfl, rfl, hm'⟩
            exact ⟨ms', sd, _, _, _, _, rfl, rfl, by omega⟩
    · rintro σ H' ⟨ms, sd, v5, v6, v7, v8, rfl, rfl, hm⟩
      walk_at "rd"
      refine Rd.reverse upd_same ?_
      walk_at "rd"
      rw [upd_upd, ← List.map_reverse]
      exact k l ms.reverse _ hl rfl (by rw [List.length_reverse]; have := Int.toNat_of_nonneg hc0; omega)
theorem ok_law_deck {ad : Ad} (T : Txt K w mg ad) : FnOk P w K mg base CX0 1 ad.a_law_deck ad.d_law_deck ["script", "cells", "each"] (Dk.spDeck K) := Dk.ok_deck (ok_law_deckC T)

/-! ### _law_plain: data told plainly -/
/-- what is new in H' -/
def nwH (H H' : Hp) : Hp := fun a => match H a with | none => H' a | some _ => none
theorem nw_at {H H' : Hp} {a : Addr} (h : H a = none) : nwH H H' a = H' a := by unfold nwH; rw [h]
theorem nw_old {H H' : Hp} {a : Addr} (h : H a ≠ none) : nwH H H' a = none := by
  unfold nwH
  split
  · rename_i e; exact (h e).elim
  · rfl
theorem nw_ex (H H' : Hp) : Evl.Ex (nwH H H') H' := fun a o h => by
  cases e : H a with
  | none => rwa [nw_at e] at h
  | some u => rw [nw_old (by rw [e]; simp)] at h; cases h
/-- G is a part of H' and new over H -/
theorem nw_of {G H H' : Hp} (e : Evl.Ex G H') (n : ∀ a, H a ≠ none → G a = none) : Evl.Ex G (nwH H H') := fun a o h => by
  cases q : H a with
  | none => rw [nw_at q]; exact e _ _ h
  | some u => rw [n a (by rw [q]; simp)] at h; cases h
def orH (G G2 : Hp) : Hp := fun a => match G a with | none => G2 a | some o => some o
theorem orH_l (G G2 : Hp) : Evl.Ex G (orH G G2) := fun a o h => by unfold orH; rw [h]
theorem orH_r {G G2 H' : Hp} (e : Evl.Ex G H') (n : ∀ a, H' a ≠ none → G2 a = none) : Evl.Ex G2 (orH G G2) := fun a o h => by
  unfold orH
  cases q : G a with
  | none => exact h
  | some u => rw [n a (by rw [e _ _ q]; simp)] at h; cases h
theorem orH_none {G G2 : Hp} {a : Addr} (h1 : G a = none) (h2 : G2 a = none) : orH G G2 a = none := by unfold orH; rw [h1]; exact h2
theorem orH_ex {G G2 H2 : Hp} (e1 : Evl.Ex G H2) (e2 : Evl.Ex G2 H2) : Evl.Ex (orH G G2) H2 := fun a o h => by
  unfold orH at h
  cases q : G a with
  | none => rw [q] at h; exact e2 _ _ h
  | some u => rw [q] at h; cases h; exact e1 _ _ q
def LwN (K : PySem.W.Frag) (H : Hp) (R : Nat → PyData → Prop) (D : Addr) (i : Nat) (H' : Hp) : Prop := H D = none ∧ Evl.Ex H H' ∧ ∃ (G : Hp) (ys : List V) (ds : List PyData), Evl.Ex G H' ∧ (∀ a, H a ≠ none → G a = none) ∧ G D = none ∧ H' D = some (.lst ys) ∧ DpAll K G ys ds ∧ ds.length = i ∧ ∀ k d, ds[k]? = some d → R k d
theorem lwN_turn {K : PySem.W.Frag} {H H' : Hp} {te : TE} {R : Nat → PyData → Prop} {D : Addr} {i : Nat} {σ2 : L2.St} (hi : i < 50000) (pw : LwN K H R D i H')
    (he : ∀ (acc : List V), Evl.Ex H H' → H' D = some (.lst acc) → ∀ Q' : VK, (∀ y H2 d, Evl.Ex H' H2 → Dp K (nwH H' H2) y d → R i d → Q' y H2) → te σ2 H' Q') :
    te σ2 H' fun y H4 => ∃ acc, H4 D = some (.lst acc) ∧ acc.length < sizeLine ∧ LwN K H R D (i + 1) (upd H4 D (.lst (acc ++ [y]))) := by
  obtain ⟨hD, e1, G, ys, ds, e2, gn, g, hys, hd, hl, hR⟩ := pw
  refine he ys e1 hys _ fun y H2 d a4 a5 a6 => ⟨ys, a4 _ _ hys, Evl.sz_lt (by rw [Dt.lenA hd]; omega), hD, Evl.Ex.mut (e1.trans a4) hD, orH G (nwH H' H2), ys ++ [y], ds ++ [d], ?_, ?_, ?_, upd_same, ?_, by rw [List.length_append, hl]; rfl, fun k d' hk => ?_⟩
  · have gD2 : orH G (nwH H' H2) D = none := orH_none g (nw_old (by rw [hys]; simp))
    exact Evl.Ex.mut (orH_ex (e2.trans a4) (nw_ex _ _)) gD2
  · intro a ha
    refine orH_none (gn a ha) (nw_old ?_)
    cases q : H a with
    | none => exact (ha q).elim
    | some u => rw [e1 _ _ q]; simp
  · exact orH_none g (nw_old (by rw [hys]; simp))
  · exact Dt.snocA (Dt.mnA hd (orH_l _ _)) (Dt.mn a5 (orH_r e2 fun a ha => nw_old ha))
  · by_cases hki : k < ds.length
    · rw [List.getElem?_append_left hki] at hk; exact hR k d' hk
    · rw [List.getElem?_append_right (by omega)] at hk
      have hk0 : k - ds.length = 0 := by
        cases e : k - ds.length with
        | zero => rfl
        | succ m => rw [e] at hk; cases hk
      rw [hk0] at hk
      have hd' : d = d' := Option.some.inj hk
      rw [← hd', show k = i from by omega]
      exact a6
section
variable {σ : L2.St} {H : Hp} {Q : VK} {te : TE} {xs : List V} {l : Addr} {j : Nat} {vs : List Nat} {K : PySem.W.Frag}
theorem xlcN (R : Nat → PyData → Prop) (hx : SqL K H l xs) (hz : xs.length ≤ 40000) (hw : ∀ x, wipe ((wipe σ vs).set j (some x)) vs = wipe σ vs)
    (he : ∀ (i : Nat) (x : V) (D : Addr) (H' : Hp) (acc : List V), xs[i]? = some x → H D = none → Evl.Ex H H' → H' D = some (.lst acc) → ∀ Q' : VK, (∀ y H2 d, Evl.Ex H' H2 → Dp K (nwH H' H2) y d → R i d → Q' y H2) → te ((wipe σ vs).set j (some x)) H' Q')
    (q : ∀ p G H' ys ds, H p = none → Evl.Ex H H' → Evl.Ex G H' → (∀ a, H a ≠ none → G a = none) → G p = none → H' p = some (.lst ys) → DpAll K G ys ds → ds.length = xs.length → (∀ i d, ds[i]? = some d → R i d) → Q (.ref p) H') : Rd.xLcL K (gName j) tYes te vs σ (.ref l) H Q :=
  ⟨l, rfl, ⟨xs, hx⟩, fun D hD => lc_list (xs := xs) (LwN K H R D) ⟨hD, Evl.Ex.new hD, fun _ => none, [], [], (fun _ _ h => nomatch h), (fun _ _ => rfl), rfl, upd_same, .nil, rfl, fun _ _ h => nomatch h⟩
    (fun i H' _ ⟨_, e, _⟩ => Evl.ex_l e hx)
    (fun i x H' hi p => ⟨hw x, iteT (B := LwN K H R D (i + 1) H') (lwN_turn (by have := (List.getElem?_eq_some_iff.mp hi).1; omega) p fun acc a1 a2 => he i x D H' acc hi hD a1 a2)⟩)
    (fun H' ⟨_, e1, G, ys, ds, e2, gn, g, hys, hd, hl, hR⟩ => q D G H' ys ds hD e1 e2 gn g hys hd hl hR)⟩
theorem xlcNT (R : Nat → PyData → Prop) (hx : SqT K H l xs) (hz : xs.length ≤ 40000) (hw : ∀ x, wipe ((wipe σ vs).set j (some x)) vs = wipe σ vs)
    (he : ∀ (i : Nat) (x : V) (D : Addr) (H' : Hp) (acc : List V), xs[i]? = some x → H D = none → Evl.Ex H H' → H' D = some (.lst acc) → ∀ Q' : VK, (∀ y H2 d, Evl.Ex H' H2 → Dp K (nwH H' H2) y d → R i d → Q' y H2) → te ((wipe σ vs).set j (some x)) H' Q')
    (q : ∀ p G H' ys ds, H p = none → Evl.Ex H H' → Evl.Ex G H' → (∀ a, H a ≠ none → G a = none) → G p = none → H' p = some (.lst ys) → DpAll K G ys ds → ds.length = xs.length → (∀ i d, ds[i]? = some d → R i d) → Q (.ref p) H') : Rd.xLcT K (gName j) tYes te vs σ (.ref l) H Q :=
  ⟨l, rfl, ⟨xs, hx⟩, fun D hD => lc_tup (xs := xs) (LwN K H R D) ⟨hD, Evl.Ex.new hD, fun _ => none, [], [], (fun _ _ h => nomatch h), (fun _ _ => rfl), rfl, upd_same, .nil, rfl, fun _ _ h => nomatch h⟩
    (fun i H' _ ⟨_, e, _⟩ => Evl.ex_t e hx)
    (fun i x H' hi p => ⟨hw x, iteT (B := LwN K H R D (i + 1) H') (lwN_turn (by have := (List.getElem?_eq_some_iff.mp hi).1; omega) p fun acc a1 a2 => he i x D H' acc hi hD a1 a2)⟩)
    (fun H' ⟨_, e1, G, ys, ds, e2, gn, g, hys, hd, hl, hR⟩ => q D G H' ys ds hD e1 e2 gn g hys hd hl hR)⟩
theorem isi2 {x : V} {t A B : String} {tp : Addr} {a b c : Bool} (ty : TyX K H x (.type t)) (h : H tp = some (.tup [.ty A, .ty B])) (k1 : kitB t A = some a) (k2 : kitB t B = some b) (hc : (a || b) = c) (q : Q (.bl c) H) : rIsiT K [x, .ref tp] H Q := by
  subst hc
  exact ⟨x, tp, [.ty A, .ty B], .type t, [.type A, .type B], (a || b), rfl, h, .cons (.ty A) (.cons (.ty B) .nil), ty, kitAny_cons (kit_ty k1) (fun ha => kitAny_cons (kit_ty k2) (fun hb => by rw [ha, hb]; rfl) (fun hb => by rw [hb, Bool.or_true])) (fun ha => by rw [ha]; rfl), q⟩
theorem tyT {a : Addr} (h : SqT K H a xs) : TyX K H (.ref a) (.type "tuple") := by
  rcases h with (h | ⟨o, h⟩) | ⟨o, its, n, h1, h2, _⟩
  · exact .base (.tup h)
  · exact .fTuple h
  · exact .kTuple h1 h2
theorem tyL {a : Addr} (h : SqL K H a xs) : TyX K H (.ref a) (.type "list") := by
  rcases h with (h | ⟨o, h⟩) | ⟨o, its, n, h1, h2, _⟩
  · exact .base (.lst h)
  · exact .base (.frz h)
  · exact .kList h1 h2
end
def flatD : PyData → Prop
  | .tuple _ => False
  | .list _ => False
  | .dict _ => False
  | _ => True
def Pl : Nat → PyData → Prop
  | _, .none => True
  | _, .bool _ => True
  | _, .int _ => True
  | _, .str _ => True
  | n + 1, .tuple ds => ds.length ≤ 1000 ∧ ∀ d ∈ ds, Pl n d
  | n + 1, .list ds => ds.length ≤ 1000 ∧ ∀ d ∈ ds, Pl n d
  | _, _ => False
mutual
def plD : PyData → PyData
  | .tuple ds => .list (.bool false :: plA ds)
  | .list ds => .list (.bool true :: plA ds)
  | .none => .str "None"
  | .bool b => .str (if b then "True" else "False")
  | .int i => .list [.bool false, .int i]
  | .str s => .list [.bool true, .str s]
  | .dict _ => .str "another"
def plA : List PyData → List PyData
  | [] => []
  | d :: ds => plD d :: plA ds
end
theorem plA_map : ∀ ds : List PyData, plA ds = ds.map plD
  | [] => rfl
  | d :: ds => by rw [plA, plA_map ds]; rfl
theorem plA_of {es ds : List PyData} (h : es.length = ds.length) (f : ∀ (i : Nat) e, es[i]? = some e → ∃ d, ds[i]? = some d ∧ e = plD d) : es = plA ds := by
  rw [plA_map]
  refine List.ext_getElem? fun i => ?_
  rw [List.getElem?_map]
  cases q : es[i]? with
  | none =>
    have : es.length ≤ i := List.getElem?_eq_none_iff.mp q
    rw [List.getElem?_eq_none (by omega)]
    rfl
  | some e =>
    obtain ⟨d, h1, h2⟩ := f i e q
    rw [h1, h2]
    rfl
/-- data new over H -/
def NewD (K : PySem.W.Frag) (H H' : Hp) (v : V) (d : PyData) : Prop := Dp K (nwH H H') v d
theorem NewD.dp {H H' : Hp} {v : V} {d : PyData} (h : NewD K H H' v d) : Dp K H' v d := Dt.mn h (nw_ex _ _)
theorem NewD.ex {H H' H2 : Hp} {v : V} {d : PyData} (h : NewD K H H' v d) (e : Evl.Ex H' H2) : NewD K H H2 v d := Dt.mn h (nw_of ((nw_ex _ _).trans e) fun _ h => nw_old h)
theorem NewD.back {G H H' : Hp} {v : V} {d : PyData} (h : NewD K H H' v d) (e : Evl.Ex G H) : NewD K G H' v d := Dt.mn h (nw_of (nw_ex _ _) fun a ha => nw_old (by
  cases q : G a with
  | none => exact (ha q).elim
  | some u => rw [e _ _ q]; simp))
def spPlain (K : PySem.W.Frag) (n : Nat) : Sp := fun vs H Q _ => ∃ (v : V) (d : PyData), vs = [v] ∧ Dp K H v d ∧ Pl n d ∧ ∀ v' H', Evl.Ex H H' → NewD K H H' v' (plD d) → Q v' H'
def spNever : Sp := fun _ _ _ _ => False
theorem ok_law_plain_never {ad : Ad} (T : Txt K w mg ad) : FnOk P w K mg base CX0 0 ad.a_law_plain ad.d_law_plain ["value"] spNever := ⟨fun _ _ _ _ h => False.elim h, fun _ _ _ _ _ _ _ _ _ _ _ _ _ h => False.elim h⟩
theorem ok_law_plain_0 {ad : Ad} (T : Txt K w mg ad) : FnOk P w K mg base CX0 1 ad.a_law_plain ad.d_law_plain ["value"] (spPlain K 0) := by
  refine T.F_law_plain.ok sc_law_plain (fun vs H Q E h => ?_) (fun cdv A outer s H vs Q E hr h => ?_)
  · obtain ⟨v, d, rfl, hv, hp, k⟩ := h
    rfl
  · obtain ⟨v, d, rfl, hv, hp, k⟩ := h
    refine ⟨_, (pss_cons (ps_if (pt_val (pe_callB (id := "isinstance") call_isiT (by rfl) T.z_isinstance (by decide +kernel) (pa_cons (pv 0) (pa_cons (pe_tup (pa_cons (pe_bltn rfl T.z_tuple (by decide +kernel) (v := .ty "tuple") rfl) (pa_cons (pe_bltn rfl T.z_list (by decide +kernel) (v := .ty "list") rfl) pa_nil))) pa_nil)))) (pss_one (ps_ret (pe_op op_cat (pe_lst (pa_cons (pe_callB (id := "isinstance") call_isi (by rfl) T.z_isinstance (by decide +kernel) (pa_cons (pv 0) (pa_cons (pe_bltn rfl T.z_list (by decide +kernel) (v := .ty "list") rfl) pa_nil))) pa_nil)) (pe_lc (own := [("item", 1)]) (g := gName 1) (tt := tYes) rfl sc_law_plain.nd (Rd.pi_seq (pv 0)) (blkOk_by (N := ["value", "item"]) (sc := (defScope s_law_plain)) (by decide +kernel)) (fun _ _ _ _ _ => (pg_name (i := 1) sc_law_plain.nd rfl (Or.inl rfl))) (fun _ _ _ _ _ => pts_nil) (fun _ _ _ _ _ => (pe_call (ok_law_plain_never T) (hr.mono (by decide)) rfl T.m_law_plain T.F_law_plain.kp T.b_law_plain .nil pass0 (pa_cons (pv 1) pa_nil))))))) pss_nil)
      (pss_cons (ps_if (PW.pt (pw_or (pt_cmpR op_isN1 (pv 0) pe_non (nomark _)) (pw_or1 (pt_val (pe_callB (id := "isinstance") call_isi (by rfl) T.z_isinstance (by decide +kernel) (pa_cons (pv 0) (pa_cons (pe_bltn rfl T.z_bool (by decide +kernel) (v := .ty "bool") rfl) pa_nil))))))) (pss_one (ps_ret (pe_ix ix_list (pe_lst (pa_cons pe_str (pa_cons pe_str (pa_cons pe_str pa_nil)))) (pe_op op_add (pe_callTy (T := "int") Rd.c_int (by rfl) T.z_int (by decide +kernel) (pa_cons (pe_cmpR op_notN1 (pv 0) pe_non (nomark _)) pa_nil)) (pe_callTy (T := "int") Rd.c_int (by rfl) T.z_int (by decide +kernel) (pa_cons (pe_cmpR Rd.op_isX (pv 0) pe_bl (nomark _)) pa_nil))) (fun _ _ => rfl)))) pss_nil)
      (pss_cons (ps_if (pt_val (pe_callB (id := "isinstance") call_isiT (by rfl) T.z_isinstance (by decide +kernel) (pa_cons (pv 0) (pa_cons (pe_tup (pa_cons (pe_bltn rfl T.z_int (by decide +kernel) (v := .ty "int") rfl) (pa_cons (pe_bltn rfl T.z_str (by decide +kernel) (v := .ty "str") rfl) pa_nil))) pa_nil)))) (pss_one (ps_ret (pe_lst (pa_cons (pe_callB (id := "isinstance") call_isi (by rfl) T.z_isinstance (by decide +kernel) (pa_cons (pv 0) (pa_cons (pe_bltn rfl T.z_str (by decide +kernel) (v := .ty "str") rfl) pa_nil))) (pa_cons (pv 0) pa_nil))))) pss_nil)
      (pss_one (ps_ret pe_str))))), ?_⟩
    try dsimp only [L2.cxOf, L2.Cx.nox, L2.Cx.wish]
    change (_ : TS) _ ([some (v), none] : St) _
    have flat : ∀ (tg : Bool) (d' : PyData) (x : V) (H1 H2 : Hp) (p : Addr), Evl.Ex H H1 → H1 p = none → Evl.Ex H1 H2 → H2 p = some (.lst [.bl tg, x]) → Dp K (nwH H H2) x d' → NewD K H H2 (.ref p) (.list [.bool tg, d']) := fun tg d' x H1 H2 p e1 n1 e2 h2 hx =>
      Dt.ofL (by rw [nw_at (Evl.fresh_back e1 n1)]; exact h2) (.cons (.bl _) (.cons hx .nil))
    have fin : ∀ (tg : Bool) (l1 p : Addr) (G H1 H2 : Hp) (ys : List V) (ds es : List PyData), Evl.Ex H H1 → H1 l1 = some (.lst [.bl tg]) → Evl.Ex H1 H2 → Evl.Ex G H2 → (∀ a, H1 a ≠ none → G a = none) → H2 p = some (.lst ys) → DpAll K G ys es → es.length = ds.length → ds.length ≤ 1000 → (∀ (i : Nat) e, es[i]? = some e → ∃ d, ds[i]? = some d ∧ e = plD d) → plD d = .list (.bool tg :: plA ds) → rCat (.ref l1) (.ref p) H2 Q := by
      intro tg l1 p G H1 H2 ys ds es e1 h1 e2 eG gn hp2 hA hl hz hR hd
      refine Rd.cat (e2 _ _ h1) hp2 (by rw [Dt.lenA hA, hl]; simp; omega) fun q H3 n3 e3 h3 => ?_
      refine k _ H3 ((e1.trans e2).trans e3) ?_
      rw [hd, ← plA_of hl hR]
      refine Dt.ofL (by rw [nw_at (Evl.fresh_back (e1.trans e2) n3)]; exact h3) (.cons (.bl _) (Dt.mnA hA (nw_of (eG.trans e3) fun a ha => gn a ?_)))
      cases q : H a with
      | none => exact (ha q).elim
      | some u => rw [e1 _ _ q]; simp
    walk_at "rd"
    refine Rd.xtup rfl fun q1 H1 n1 e1 h1 => ?_
    walk_at "rd"
    cases d with
    | none =>
      obtain rfl := Dt.inv_n hv
      refine isi2 (c := false) (t := "NoneType") (.base .non) h1 rfl rfl rfl ?_
      walk_at "rd"
      refine Rd.xlst rfl fun l2 H2 n2 e2 h2 => ?_
      walk_at "rd"
      exact k _ _ (e1.trans e2) (.str _)
    | bool b =>
      cases hv
      refine isi2 (c := false) (t := "bool") (.base (.bl b)) h1 rfl rfl rfl ?_
      walk_at "rd"
      refine Rd.xlst rfl fun l2 H2 n2 e2 h2 => ?_
      walk_at "rd"
      cases b with
      | true =>
        walk_at "rd"
        exact k _ _ (e1.trans e2) (.str _)
      | false =>
        walk_at "rd"
        exact k _ _ (e1.trans e2) (.str _)
    | int i =>
      obtain rfl := Dt.inv_i hv
      refine isi2 (c := false) (t := "int") (.base (.int i)) h1 rfl rfl rfl ?_
      walk_at "rd"
      refine Rd.xtup rfl fun q2 H2 n2 e2 h2 => ?_
      walk_at "rd"
      refine isi2 (c := true) (t := "int") (.base (.int i)) h2 rfl rfl rfl ?_
      walk_at "rd"
      refine Rd.xlst rfl fun l3 H3 n3 e3 h3 => ?_
      exact k _ _ ((e1.trans e2).trans e3) (flat false (.int i) _ H2 H3 l3 (e1.trans e2) n3 e3 h3 (.int _))
    | str z =>
      cases hv
      refine isi2 (c := false) (t := "str") (.base (.str z)) h1 rfl rfl rfl ?_
      walk_at "rd"
      refine Rd.xtup rfl fun q2 H2 n2 e2 h2 => ?_
      walk_at "rd"
      refine isi2 (c := true) (t := "str") (.base (.str z)) h2 rfl rfl rfl ?_
      walk_at "rd"
      refine Rd.xlst rfl fun l3 H3 n3 e3 h3 => ?_
      exact k _ _ ((e1.trans e2).trans e3) (flat true (.str z) _ H2 H3 l3 (e1.trans e2) n3 e3 h3 (.str _))
    | dict ds => exact (hp : False).elim
    | tuple ds => exact (hp : False).elim
    | list ds => exact (hp : False).elim
theorem ok_law_plain_1 {ad : Ad} (T : Txt K w mg ad) : FnOk P w K mg base CX0 2 ad.a_law_plain ad.d_law_plain ["value"] (spPlain K 1) := by
  refine T.F_law_plain.ok sc_law_plain (fun vs H Q E h => ?_) (fun cdv A outer s H vs Q E hr h => ?_)
  · obtain ⟨v, d, rfl, hv, hp, k⟩ := h
    rfl
  · obtain ⟨v, d, rfl, hv, hp, k⟩ := h
    refine ⟨_, (pss_cons (ps_if (pt_val (pe_callB (id := "isinstance") call_isiT (by rfl) T.z_isinstance (by decide +kernel) (pa_cons (pv 0) (pa_cons (pe_tup (pa_cons (pe_bltn rfl T.z_tuple (by decide +kernel) (v := .ty "tuple") rfl) (pa_cons (pe_bltn rfl T.z_list (by decide +kernel) (v := .ty "list") rfl) pa_nil))) pa_nil)))) (pss_one (ps_ret (pe_op op_cat (pe_lst (pa_cons (pe_callB (id := "isinstance") call_isi (by rfl) T.z_isinstance (by decide +kernel) (pa_cons (pv 0) (pa_cons (pe_bltn rfl T.z_list (by decide +kernel) (v := .ty "list") rfl) pa_nil))) pa_nil)) (pe_lc (own := [("item", 1)]) (g := gName 1) (tt := tYes) rfl sc_law_plain.nd (Rd.pi_seq (pv 0)) (blkOk_by (N := ["value", "item"]) (sc := (defScope s_law_plain)) (by decide +kernel)) (fun _ _ _ _ _ => (pg_name (i := 1) sc_law_plain.nd rfl (Or.inl rfl))) (fun _ _ _ _ _ => pts_nil) (fun _ _ _ _ _ => (pe_call (ok_law_plain_0 T) (hr.mono (by decide)) rfl T.m_law_plain T.F_law_plain.kp T.b_law_plain .nil pass0 (pa_cons (pv 1) pa_nil))))))) pss_nil)
      (pss_cons (ps_if (PW.pt (pw_or (pt_cmpR op_isN1 (pv 0) pe_non (nomark _)) (pw_or1 (pt_val (pe_callB (id := "isinstance") call_isi (by rfl) T.z_isinstance (by decide +kernel) (pa_cons (pv 0) (pa_cons (pe_bltn rfl T.z_bool (by decide +kernel) (v := .ty "bool") rfl) pa_nil))))))) (pss_one (ps_ret (pe_ix ix_list (pe_lst (pa_cons pe_str (pa_cons pe_str (pa_cons pe_str pa_nil)))) (pe_op op_add (pe_callTy (T := "int") Rd.c_int (by rfl) T.z_int (by decide +kernel) (pa_cons (pe_cmpR op_notN1 (pv 0) pe_non (nomark _)) pa_nil)) (pe_callTy (T := "int") Rd.c_int (by rfl) T.z_int (by decide +kernel) (pa_cons (pe_cmpR Rd.op_isX (pv 0) pe_bl (nomark _)) pa_nil))) (fun _ _ => rfl)))) pss_nil)
      (pss_cons (ps_if (pt_val (pe_callB (id := "isinstance") call_isiT (by rfl) T.z_isinstance (by decide +kernel) (pa_cons (pv 0) (pa_cons (pe_tup (pa_cons (pe_bltn rfl T.z_int (by decide +kernel) (v := .ty "int") rfl) (pa_cons (pe_bltn rfl T.z_str (by decide +kernel) (v := .ty "str") rfl) pa_nil))) pa_nil)))) (pss_one (ps_ret (pe_lst (pa_cons (pe_callB (id := "isinstance") call_isi (by rfl) T.z_isinstance (by decide +kernel) (pa_cons (pv 0) (pa_cons (pe_bltn rfl T.z_str (by decide +kernel) (v := .ty "str") rfl) pa_nil))) (pa_cons (pv 0) pa_nil))))) pss_nil)
      (pss_one (ps_ret pe_str))))), ?_⟩
    try dsimp only [L2.cxOf, L2.Cx.nox, L2.Cx.wish]
    change (_ : TS) _ ([some (v), none] : St) _
    have flat : ∀ (tg : Bool) (d' : PyData) (x : V) (H1 H2 : Hp) (p : Addr), Evl.Ex H H1 → H1 p = none → Evl.Ex H1 H2 → H2 p = some (.lst [.bl tg, x]) → Dp K (nwH H H2) x d' → NewD K H H2 (.ref p) (.list [.bool tg, d']) := fun tg d' x H1 H2 p e1 n1 e2 h2 hx =>
      Dt.ofL (by rw [nw_at (Evl.fresh_back e1 n1)]; exact h2) (.cons (.bl _) (.cons hx .nil))
    have fin : ∀ (tg : Bool) (l1 p : Addr) (G H1 H2 : Hp) (ys : List V) (ds es : List PyData), Evl.Ex H H1 → H1 l1 = some (.lst [.bl tg]) → Evl.Ex H1 H2 → Evl.Ex G H2 → (∀ a, H1 a ≠ none → G a = none) → H2 p = some (.lst ys) → DpAll K G ys es → es.length = ds.length → ds.length ≤ 1000 → (∀ (i : Nat) e, es[i]? = some e → ∃ d, ds[i]? = some d ∧ e = plD d) → plD d = .list (.bool tg :: plA ds) → rCat (.ref l1) (.ref p) H2 Q := by
      intro tg l1 p G H1 H2 ys ds es e1 h1 e2 eG gn hp2 hA hl hz hR hd
      refine Rd.cat (e2 _ _ h1) hp2 (by rw [Dt.lenA hA, hl]; simp; omega) fun q H3 n3 e3 h3 => ?_
      refine k _ H3 ((e1.trans e2).trans e3) ?_
      rw [hd, ← plA_of hl hR]
      refine Dt.ofL (by rw [nw_at (Evl.fresh_back (e1.trans e2) n3)]; exact h3) (.cons (.bl _) (Dt.mnA hA (nw_of (eG.trans e3) fun a ha => gn a ?_)))
      cases q : H a with
      | none => exact (ha q).elim
      | some u => rw [e1 _ _ q]; simp
    walk_at "rd"
    refine Rd.xtup rfl fun q1 H1 n1 e1 h1 => ?_
    walk_at "rd"
    cases d with
    | none =>
      obtain rfl := Dt.inv_n hv
      refine isi2 (c := false) (t := "NoneType") (.base .non) h1 rfl rfl rfl ?_
      walk_at "rd"
      refine Rd.xlst rfl fun l2 H2 n2 e2 h2 => ?_
      walk_at "rd"
      exact k _ _ (e1.trans e2) (.str _)
    | bool b =>
      cases hv
      refine isi2 (c := false) (t := "bool") (.base (.bl b)) h1 rfl rfl rfl ?_
      walk_at "rd"
      refine Rd.xlst rfl fun l2 H2 n2 e2 h2 => ?_
      walk_at "rd"
      cases b with
      | true =>
        walk_at "rd"
        exact k _ _ (e1.trans e2) (.str _)
      | false =>
        walk_at "rd"
        exact k _ _ (e1.trans e2) (.str _)
    | int i =>
      obtain rfl := Dt.inv_i hv
      refine isi2 (c := false) (t := "int") (.base (.int i)) h1 rfl rfl rfl ?_
      walk_at "rd"
      refine Rd.xtup rfl fun q2 H2 n2 e2 h2 => ?_
      walk_at "rd"
      refine isi2 (c := true) (t := "int") (.base (.int i)) h2 rfl rfl rfl ?_
      walk_at "rd"
      refine Rd.xlst rfl fun l3 H3 n3 e3 h3 => ?_
      exact k _ _ ((e1.trans e2).trans e3) (flat false (.int i) _ H2 H3 l3 (e1.trans e2) n3 e3 h3 (.int _))
    | str z =>
      cases hv
      refine isi2 (c := false) (t := "str") (.base (.str z)) h1 rfl rfl rfl ?_
      walk_at "rd"
      refine Rd.xtup rfl fun q2 H2 n2 e2 h2 => ?_
      walk_at "rd"
      refine isi2 (c := true) (t := "str") (.base (.str z)) h2 rfl rfl rfl ?_
      walk_at "rd"
      refine Rd.xlst rfl fun l3 H3 n3 e3 h3 => ?_
      exact k _ _ ((e1.trans e2).trans e3) (flat true (.str z) _ H2 H3 l3 (e1.trans e2) n3 e3 h3 (.str _))
    | dict ds => exact (hp : False).elim
    | tuple ds =>
      skip
      obtain ⟨hz, hA⟩ := hp
      obtain ⟨a, us, rfl, hs, hus⟩ := Dt.inv_t hv
      have hs1 := Evl.ex_t e1 hs
      refine isi2 (c := true) (t := "tuple") (tyT hs1) h1 rfl rfl rfl ?_
      walk_at "rd"
      refine Rd.xlst rfl fun l2 H2 n2 e2 h2 => ?_
      have hs2 := Evl.ex_t e2 hs1
      walk_at "rd"
      refine Rd.lcQT ?_
      walk_at "rd"
      refine xlcNT (fun i e => ∃ d, ds[i]? = some d ∧ e = plD d) hs2 (by rw [Dt.lenA hus]; omega) (fun _ => rfl) ?_ ?_
      · intro i x D H' acc hx hD e hacc Q' kq
        obtain ⟨d', hd', hdx⟩ := Dt.getA1 hus hx
        walk_at "rd"
        exact ⟨x, d', rfl, Dt.mn hdx ((e1.trans e2).trans e), hA d' (List.mem_of_getElem? hd'), fun v' H2 e2 h2 => kq v' H2 _ e2 h2 ⟨d', hd', rfl⟩⟩
      · intro p G H3 ys es np e3 eG gn gp hp3 hAe hle hR
        exact fin false l2 p G H2 H3 ys ds es (e1.trans e2) h2 e3 eG gn hp3 hAe (by rw [hle, Dt.lenA hus]) hz hR rfl
    | list ds =>
      skip
      obtain ⟨hz, hA⟩ := hp
      obtain ⟨a, us, rfl, hs, hus⟩ := Dt.inv_l hv
      have hs1 := Evl.ex_l e1 hs
      refine isi2 (c := true) (t := "list") (tyL hs1) h1 rfl rfl rfl ?_
      walk_at "rd"
      refine Rd.xlst rfl fun l2 H2 n2 e2 h2 => ?_
      have hs2 := Evl.ex_l e2 hs1
      walk_at "rd"
      refine Rd.lcQL ?_
      walk_at "rd"
      refine xlcN (fun i e => ∃ d, ds[i]? = some d ∧ e = plD d) hs2 (by rw [Dt.lenA hus]; omega) (fun _ => rfl) ?_ ?_
      · intro i x D H' acc hx hD e hacc Q' kq
        obtain ⟨d', hd', hdx⟩ := Dt.getA1 hus hx
        walk_at "rd"
        exact ⟨x, d', rfl, Dt.mn hdx ((e1.trans e2).trans e), hA d' (List.mem_of_getElem? hd'), fun v' H2 e2 h2 => kq v' H2 _ e2 h2 ⟨d', hd', rfl⟩⟩
      · intro p G H3 ys es np e3 eG gn gp hp3 hAe hle hR
        exact fin true l2 p G H2 H3 ys ds es (e1.trans e2) h2 e3 eG gn hp3 hAe (by rw [hle, Dt.lenA hus]) hz hR rfl
theorem ok_law_plain_2 {ad : Ad} (T : Txt K w mg ad) : FnOk P w K mg base CX0 3 ad.a_law_plain ad.d_law_plain ["value"] (spPlain K 2) := by
  refine T.F_law_plain.ok sc_law_plain (fun vs H Q E h => ?_) (fun cdv A outer s H vs Q E hr h => ?_)
  · obtain ⟨v, d, rfl, hv, hp, k⟩ := h
    rfl
  · obtain ⟨v, d, rfl, hv, hp, k⟩ := h
    refine ⟨_, (pss_cons (ps_if (pt_val (pe_callB (id := "isinstance") call_isiT (by rfl) T.z_isinstance (by decide +kernel) (pa_cons (pv 0) (pa_cons (pe_tup (pa_cons (pe_bltn rfl T.z_tuple (by decide +kernel) (v := .ty "tuple") rfl) (pa_cons (pe_bltn rfl T.z_list (by decide +kernel) (v := .ty "list") rfl) pa_nil))) pa_nil)))) (pss_one (ps_ret (pe_op op_cat (pe_lst (pa_cons (pe_callB (id := "isinstance") call_isi (by rfl) T.z_isinstance (by decide +kernel) (pa_cons (pv 0) (pa_cons (pe_bltn rfl T.z_list (by decide +kernel) (v := .ty "list") rfl) pa_nil))) pa_nil)) (pe_lc (own := [("item", 1)]) (g := gName 1) (tt := tYes) rfl sc_law_plain.nd (Rd.pi_seq (pv 0)) (blkOk_by (N := ["value", "item"]) (sc := (defScope s_law_plain)) (by decide +kernel)) (fun _ _ _ _ _ => (pg_name (i := 1) sc_law_plain.nd rfl (Or.inl rfl))) (fun _ _ _ _ _ => pts_nil) (fun _ _ _ _ _ => (pe_call (ok_law_plain_1 T) (hr.mono (by decide)) rfl T.m_law_plain T.F_law_plain.kp T.b_law_plain .nil pass0 (pa_cons (pv 1) pa_nil))))))) pss_nil)
      (pss_cons (ps_if (PW.pt (pw_or (pt_cmpR op_isN1 (pv 0) pe_non (nomark _)) (pw_or1 (pt_val (pe_callB (id := "isinstance") call_isi (by rfl) T.z_isinstance (by decide +kernel) (pa_cons (pv 0) (pa_cons (pe_bltn rfl T.z_bool (by decide +kernel) (v := .ty "bool") rfl) pa_nil))))))) (pss_one (ps_ret (pe_ix ix_list (pe_lst (pa_cons pe_str (pa_cons pe_str (pa_cons pe_str pa_nil)))) (pe_op op_add (pe_callTy (T := "int") Rd.c_int (by rfl) T.z_int (by decide +kernel) (pa_cons (pe_cmpR op_notN1 (pv 0) pe_non (nomark _)) pa_nil)) (pe_callTy (T := "int") Rd.c_int (by rfl) T.z_int (by decide +kernel) (pa_cons (pe_cmpR Rd.op_isX (pv 0) pe_bl (nomark _)) pa_nil))) (fun _ _ => rfl)))) pss_nil)
      (pss_cons (ps_if (pt_val (pe_callB (id := "isinstance") call_isiT (by rfl) T.z_isinstance (by decide +kernel) (pa_cons (pv 0) (pa_cons (pe_tup (pa_cons (pe_bltn rfl T.z_int (by decide +kernel) (v := .ty "int") rfl) (pa_cons (pe_bltn rfl T.z_str (by decide +kernel) (v := .ty "str") rfl) pa_nil))) pa_nil)))) (pss_one (ps_ret (pe_lst (pa_cons (pe_callB (id := "isinstance") call_isi (by rfl) T.z_isinstance (by decide +kernel) (pa_cons (pv 0) (pa_cons (pe_bltn rfl T.z_str (by decide +kernel) (v := .ty "str") rfl) pa_nil))) (pa_cons (pv 0) pa_nil))))) pss_nil)
      (pss_one (ps_ret pe_str))))), ?_⟩
    try dsimp only [L2.cxOf, L2.Cx.nox, L2.Cx.wish]
    change (_ : TS) _ ([some (v), none] : St) _
    have flat : ∀ (tg : Bool) (d' : PyData) (x : V) (H1 H2 : Hp) (p : Addr), Evl.Ex H H1 → H1 p = none → Evl.Ex H1 H2 → H2 p = some (.lst [.bl tg, x]) → Dp K (nwH H H2) x d' → NewD K H H2 (.ref p) (.list [.bool tg, d']) := fun tg d' x H1 H2 p e1 n1 e2 h2 hx =>
      Dt.ofL (by rw [nw_at (Evl.fresh_back e1 n1)]; exact h2) (.cons (.bl _) (.cons hx .nil))
    have fin : ∀ (tg : Bool) (l1 p : Addr) (G H1 H2 : Hp) (ys : List V) (ds es : List PyData), Evl.Ex H H1 → H1 l1 = some (.lst [.bl tg]) → Evl.Ex H1 H2 → Evl.Ex G H2 → (∀ a, H1 a ≠ none → G a = none) → H2 p = some (.lst ys) → DpAll K G ys es → es.length = ds.length → ds.length ≤ 1000 → (∀ (i : Nat) e, es[i]? = some e → ∃ d, ds[i]? = some d ∧ e = plD d) → plD d = .list (.bool tg :: plA ds) → rCat (.ref l1) (.ref p) H2 Q := by
      intro tg l1 p G H1 H2 ys ds es e1 h1 e2 eG gn hp2 hA hl hz hR hd
      refine Rd.cat (e2 _ _ h1) hp2 (by rw [Dt.lenA hA, hl]; simp; omega) fun q H3 n3 e3 h3 => ?_
      refine k _ H3 ((e1.trans e2).trans e3) ?_
      rw [hd, ← plA_of hl hR]
      refine Dt.ofL (by rw [nw_at (Evl.fresh_back (e1.trans e2) n3)]; exact h3) (.cons (.bl _) (Dt.mnA hA (nw_of (eG.trans e3) fun a ha => gn a ?_)))
      cases q : H a with
      | none => exact (ha q).elim
      | some u => rw [e1 _ _ q]; simp
    walk_at "rd"
    refine Rd.xtup rfl fun q1 H1 n1 e1 h1 => ?_
    walk_at "rd"
    cases d with
    | none =>
      obtain rfl := Dt.inv_n hv
      refine isi2 (c := false) (t := "NoneType") (.base .non) h1 rfl rfl rfl ?_
      walk_at "rd"
      refine Rd.xlst rfl fun l2 H2 n2 e2 h2 => ?_
      walk_at "rd"
      exact k _ _ (e1.trans e2) (.str _)
    | bool b =>
      cases hv
      refine isi2 (c := false) (t := "bool") (.base (.bl b)) h1 rfl rfl rfl ?_
      walk_at "rd"
      refine Rd.xlst rfl fun l2 H2 n2 e2 h2 => ?_
      walk_at "rd"
      cases b with
      | true =>
        walk_at "rd"
        exact k _ _ (e1.trans e2) (.str _)
      | false =>
        walk_at "rd"
        exact k _ _ (e1.trans e2) (.str _)
    | int i =>
      obtain rfl := Dt.inv_i hv
      refine isi2 (c := false) (t := "int") (.base (.int i)) h1 rfl rfl rfl ?_
      walk_at "rd"
      refine Rd.xtup rfl fun q2 H2 n2 e2 h2 => ?_
      walk_at "rd"
      refine isi2 (c := true) (t := "int") (.base (.int i)) h2 rfl rfl rfl ?_
      walk_at "rd"
      refine Rd.xlst rfl fun l3 H3 n3 e3 h3 => ?_
      exact k _ _ ((e1.trans e2).trans e3) (flat false (.int i) _ H2 H3 l3 (e1.trans e2) n3 e3 h3 (.int _))
    | str z =>
      cases hv
      refine isi2 (c := false) (t := "str") (.base (.str z)) h1 rfl rfl rfl ?_
      walk_at "rd"
      refine Rd.xtup rfl fun q2 H2 n2 e2 h2 => ?_
      walk_at "rd"
      refine isi2 (c := true) (t := "str") (.base (.str z)) h2 rfl rfl rfl ?_
      walk_at "rd"
      refine Rd.xlst rfl fun l3 H3 n3 e3 h3 => ?_
      exact k _ _ ((e1.trans e2).trans e3) (flat true (.str z) _ H2 H3 l3 (e1.trans e2) n3 e3 h3 (.str _))
    | dict ds => exact (hp : False).elim
    | tuple ds =>
      skip
      obtain ⟨hz, hA⟩ := hp
      obtain ⟨a, us, rfl, hs, hus⟩ := Dt.inv_t hv
      have hs1 := Evl.ex_t e1 hs
      refine isi2 (c := true) (t := "tuple") (tyT hs1) h1 rfl rfl rfl ?_
      walk_at "rd"
      refine Rd.xlst rfl fun l2 H2 n2 e2 h2 => ?_
      have hs2 := Evl.ex_t e2 hs1
      walk_at "rd"
      refine Rd.lcQT ?_
      walk_at "rd"
      refine xlcNT (fun i e => ∃ d, ds[i]? = some d ∧ e = plD d) hs2 (by rw [Dt.lenA hus]; omega) (fun _ => rfl) ?_ ?_
      · intro i x D H' acc hx hD e hacc Q' kq
        obtain ⟨d', hd', hdx⟩ := Dt.getA1 hus hx
        walk_at "rd"
        exact ⟨x, d', rfl, Dt.mn hdx ((e1.trans e2).trans e), hA d' (List.mem_of_getElem? hd'), fun v' H2 e2 h2 => kq v' H2 _ e2 h2 ⟨d', hd', rfl⟩⟩
      · intro p G H3 ys es np e3 eG gn gp hp3 hAe hle hR
        exact fin false l2 p G H2 H3 ys ds es (e1.trans e2) h2 e3 eG gn hp3 hAe (by rw [hle, Dt.lenA hus]) hz hR rfl
    | list ds =>
      skip
      obtain ⟨hz, hA⟩ := hp
      obtain ⟨a, us, rfl, hs, hus⟩ := Dt.inv_l hv
      have hs1 := Evl.ex_l e1 hs
      refine isi2 (c := true) (t := "list") (tyL hs1) h1 rfl rfl rfl ?_
      walk_at "rd"
      refine Rd.xlst rfl fun l2 H2 n2 e2 h2 => ?_
      have hs2 := Evl.ex_l e2 hs1
      walk_at "rd"
      refine Rd.lcQL ?_
      walk_at "rd"
      refine xlcN (fun i e => ∃ d, ds[i]? = some d ∧ e = plD d) hs2 (by rw [Dt.lenA hus]; omega) (fun _ => rfl) ?_ ?_
      · intro i x D H' acc hx hD e hacc Q' kq
        obtain ⟨d', hd', hdx⟩ := Dt.getA1 hus hx
        walk_at "rd"
        exact ⟨x, d', rfl, Dt.mn hdx ((e1.trans e2).trans e), hA d' (List.mem_of_getElem? hd'), fun v' H2 e2 h2 => kq v' H2 _ e2 h2 ⟨d', hd', rfl⟩⟩
      · intro p G H3 ys es np e3 eG gn gp hp3 hAe hle hR
        exact fin true l2 p G H2 H3 ys ds es (e1.trans e2) h2 e3 eG gn hp3 hAe (by rw [hle, Dt.lenA hus]) hz hR rfl

/-- texts joined -/
def jn (ws : List Str) : Str := ws.foldl (· ++ ·) ⟨#[]⟩
theorem jn_snoc (ws : List Str) (w : Str) : jn (ws ++ [w]) = jn ws ++ w := by unfold jn; rw [List.foldl_append]; rfl
theorem str_assoc (a b c : Str) : (a ++ b) ++ c = a ++ (b ++ c) := by
  show (⟨(a.cps ++ b.cps) ++ c.cps⟩ : Str) = ⟨a.cps ++ (b.cps ++ c.cps)⟩
  rw [Array.append_assoc]
theorem str_nil (a : Str) : (⟨#[]⟩ : Str) ++ a = a := by
  show (⟨#[] ++ a.cps⟩ : Str) = a
  rw [Array.empty_append]
theorem str_nilR (a : Str) : a ++ (⟨#[]⟩ : Str) = a := by
  show (⟨a.cps ++ #[]⟩ : Str) = a
  rw [Array.append_empty]
theorem len_app (a b : Str) : (a ++ b).length = a.length + b.length := by show (a.cps ++ b.cps).size = _; rw [Array.size_append]; rfl
theorem jn_from : ∀ (ws : List Str) (a : Str), ws.foldl (· ++ ·) a = a ++ jn ws
  | [], a => (str_nilR a).symm
  | w :: ws, a => by
    unfold jn
    rw [List.foldl_cons, List.foldl_cons, jn_from ws (a ++ w), jn_from ws (⟨#[]⟩ ++ w), str_nil, str_assoc]
theorem jn_cons (w : Str) (ws : List Str) : jn (w :: ws) = w ++ jn ws := by
  show ws.foldl (· ++ ·) (⟨#[]⟩ ++ w) = _
  rw [jn_from, str_nil]
theorem join_jn' : ∀ ws : List Str, Str.join ⟨#[]⟩ ws = jn ws
  | [] => rfl
  | [w] => (str_nil w).symm
  | w :: v :: ws => by
    have ih := join_jn' (v :: ws)
    rw [jn_cons, ← ih]
    show w ++ ⟨#[]⟩ ++ Str.join ⟨#[]⟩ (v :: ws) = _
    rw [str_nilR]
theorem join_jn (ws : List Str) : Txt.join ⟨#[]⟩ ws = jn ws := (eq_of_beq (PyProof.Rows.join_plain_closes _ _)).trans (join_jn' ws)
theorem jn_len {n : Nat} : ∀ ws : List Str, (∀ w ∈ ws, w.length ≤ n) → (jn ws).length ≤ n * ws.length
  | [], _ => Nat.zero_le _
  | w :: ws, h => by
    rw [jn_cons, len_app, List.length_cons, Nat.mul_succ]
    have h1 := h w List.mem_cons_self
    have h2 := jn_len ws fun x hx => h x (List.mem_cons_of_mem _ hx)
    omega
theorem ok_app {a b : Str} (h1 : PyData.strOk a = true) (h2 : PyData.strOk b = true) : PyData.strOk (a ++ b) = true := by
  show (a.cps ++ b.cps).all _ = true
  rw [Array.all_append]
  exact Bool.and_eq_true_iff.mpr ⟨h1, h2⟩
theorem jn_ok : ∀ ws : List Str, (∀ w ∈ ws, PyData.strOk w = true) → PyData.strOk (jn ws) = true
  | [], _ => by decide +kernel
  | w :: ws, h => by
    rw [jn_cons]
    exact ok_app (h w List.mem_cons_self) (jn_ok ws fun x hx => h x (List.mem_cons_of_mem _ hx))

/-! split -/
/-! ### programs, plain -/
abbrev Cmd := Str × List PyData
def cmdD (c : Cmd) : PyData := .tuple (.str c.1 :: c.2)
def bodyD (b : List Cmd) : PyData := .list (b.map cmdD)
def iOf : PyData → Int
  | .int i => i
  | _ => 0
def sOf : PyData → Str
  | .str s => s
  | _ => ⟨#[]⟩
def fitB (l : Str) (o : PyData) (bh bs : Int) : Bool :=
  if l = "r" then decide (0 ≤ iOf o) && decide (iOf o < 256)
  else if l = "b" then decide (0 ≤ iOf o) && decide (iOf o < bs)
  else if l = "k" then decide (0 ≤ iOf o) && decide (iOf o < 1000)
  else if l = "n" then decide (0 ≤ iOf o) && decide (iOf o ≤ bh)
  else if l = "w" then inV (.str (sOf o)) [.str "nothing", .str "number", .str "text", .str "code", .str "cell", .str "service"]
  else if l = "m" then decide (0 ≤ iOf o) else true
def IntL (l : Str) : Prop := l = "r" ∨ l = "b" ∨ l = "k" ∨ l = "n" ∨ l = "m"
def OpT (l : Str) (o : PyData) : Prop := l = "v" ∨ (l = "w" ∧ ∃ s, o = .str s) ∨ (IntL l ∧ ∃ i, o = .int i)
def ltrs (sh : Str) : List Str := sh.cps.toList.map fun c => ⟨#[c]⟩
theorem ltrs_len (sh : Str) : (ltrs sh).length = sh.length := List.length_map ..
theorem fit_r (o : PyData) (bh bs : Int) : fitB "r" o bh bs = (decide (0 ≤ iOf o) && decide (iOf o < 256)) := if_pos rfl
theorem fit_b (o : PyData) (bh bs : Int) : fitB "b" o bh bs = (decide (0 ≤ iOf o) && decide (iOf o < bs)) := by
  unfold fitB; rw [if_neg (by decide), if_pos rfl]
theorem fit_k (o : PyData) (bh bs : Int) : fitB "k" o bh bs = (decide (0 ≤ iOf o) && decide (iOf o < 1000)) := by
  unfold fitB; rw [if_neg (by decide), if_neg (by decide), if_pos rfl]
theorem fit_n (o : PyData) (bh bs : Int) : fitB "n" o bh bs = (decide (0 ≤ iOf o) && decide (iOf o ≤ bh)) := by
  unfold fitB; rw [if_neg (by decide), if_neg (by decide), if_neg (by decide), if_pos rfl]
theorem fit_w (o : PyData) (bh bs : Int) : fitB "w" o bh bs = inV (.str (sOf o)) [.str "nothing", .str "number", .str "text", .str "code", .str "cell", .str "service"] := by
  unfold fitB; rw [if_neg (by decide), if_neg (by decide), if_neg (by decide), if_neg (by decide), if_pos rfl]
theorem fit_m (o : PyData) (bh bs : Int) : fitB "m" o bh bs = decide (0 ≤ iOf o) := by
  unfold fitB; rw [if_neg (by decide), if_neg (by decide), if_neg (by decide), if_neg (by decide), if_neg (by decide), if_pos rfl]
theorem fit_v (o : PyData) (bh bs : Int) : fitB "v" o bh bs = true := by
  unfold fitB; rw [if_neg (by decide), if_neg (by decide), if_neg (by decide), if_neg (by decide), if_neg (by decide), if_neg (by decide)]
theorem fit_mono {l : Str} {o : PyData} {bh bs bh' bs' : Int} (h : fitB l o bh bs = true) (h1 : bh ≤ bh') (h2 : bs ≤ bs') : fitB l o bh' bs' = true := by
  unfold fitB at h ⊢
  by_cases c1 : l = "r"
  · rw [if_pos c1] at h ⊢; exact h
  rw [if_neg c1] at h ⊢
  by_cases c2 : l = "b"
  · rw [if_pos c2] at h ⊢; simp only [Bool.and_eq_true, decide_eq_true_eq] at h ⊢; omega
  rw [if_neg c2] at h ⊢
  by_cases c3 : l = "k"
  · rw [if_pos c3] at h ⊢; exact h
  rw [if_neg c3] at h ⊢
  by_cases c4 : l = "n"
  · rw [if_pos c4] at h ⊢; simp only [Bool.and_eq_true, decide_eq_true_eq] at h ⊢; omega
  rw [if_neg c4] at h ⊢
  exact h
def Shp (w sh : Str) : Prop := (w, sh) ∈ tab_SHAPES
theorem tab_fun : (tab_SHAPES.all fun p => tab_SHAPES.all fun q => !(decide (p.1 = q.1)) || decide (p.2 = q.2)) = true := by decide +kernel
theorem shp_fun {w s1 s2 : Str} (h1 : Shp w s1) (h2 : Shp w s2) : s1 = s2 := by
  have h := List.all_eq_true.mp (List.all_eq_true.mp tab_fun _ h1) _ h2
  simpa using h
theorem tab_non : (tab_SHAPES.all fun p => non_SHAPES.all fun z => !(decide (p.1 = z))) = true := by decide +kernel
theorem shp_non {w sh : Str} (h1 : Shp w sh) (h2 : w ∈ non_SHAPES) : False := by
  have h := List.all_eq_true.mp (List.all_eq_true.mp tab_non _ h1) _ h2
  simp at h
theorem tab_len : (tab_SHAPES.all fun p => decide (p.2.length ≤ 3)) = true := by decide +kernel
theorem shp_len {w sh : Str} (h1 : Shp w sh) : sh.length ≤ 3 := by
  have h := List.all_eq_true.mp tab_len _ h1
  simpa using h
theorem tab_let : (tab_SHAPES.all fun p => (ltrs p.2).all fun l => decide (l = "r" ∨ l = "b" ∨ l = "k" ∨ l = "n" ∨ l = "m" ∨ l = "w" ∨ l = "v")) = true := by decide +kernel
theorem shp_let {w sh l : Str} (h1 : Shp w sh) (h2 : l ∈ ltrs sh) : l = "r" ∨ l = "b" ∨ l = "k" ∨ l = "n" ∨ l = "m" ∨ l = "w" ∨ l = "v" := by
  have h := List.all_eq_true.mp (List.all_eq_true.mp tab_let _ h1) _ h2
  simpa using h
def typC (c : Cmd) (sh : Str) : Prop := c.2.length = sh.length → ∀ (i : Nat) l o, (ltrs sh)[i]? = some l → c.2[i]? = some o → OpT l o
/-- what an operand may be asked for -/
def CmdT (c : Cmd) : Prop := c.1 ∈ non_SHAPES ∨ ∃ sh, Shp c.1 sh ∧ typC c sh
def okC (c : Cmd) (bh bs : Int) : Prop := ∃ sh, Shp c.1 sh ∧ c.2.length = sh.length ∧ ∀ (i : Nat) l o, (ltrs sh)[i]? = some l → c.2[i]? = some o → fitB l o bh bs = true
theorem okC_mono {c : Cmd} {bh bs bh' bs' : Int} (h : okC c bh bs) (h1 : bh ≤ bh') (h2 : bs ≤ bs') : okC c bh' bs' := by
  obtain ⟨sh, a, b, d⟩ := h
  exact ⟨sh, a, b, fun i l o e1 e2 => fit_mono (d i l o e1 e2) h1 h2⟩
def copyC : Cmd := ("copy", [.int 0, .int 0])
theorem ltr_at {sh : Str} {i : Nat} {l : Str} (h : (ltrs sh)[i]? = some l) : ∃ c, sh.cps.toList[i]? = some c ∧ l = ⟨#[c]⟩ := by
  unfold ltrs at h
  rw [List.getElem?_map] at h
  cases e : sh.cps.toList[i]? with
  | none => rw [e] at h; cases h
  | some c => rw [e] at h; cases h; exact ⟨c, rfl, rfl⟩
theorem at_ltr {sh : Str} {i c : Nat} (h : sh.cps.toList[i]? = some c) : (ltrs sh)[i]? = some ⟨#[c]⟩ := by
  unfold ltrs
  rw [List.getElem?_map, h]
  rfl
theorem copy_shp : Shp "copy" "rr" := by unfold Shp tab_SHAPES; simp
theorem copy_ltr : ltrs "rr" = [("r" : Str), "r"] := by rfl
theorem copy_typ : CmdT copyC := .inr ⟨"rr", copy_shp, fun _ i l o h1 h2 => by
  rw [copy_ltr] at h1
  rcases i with _ | _ | i
  · cases h1; cases h2; exact .inr (.inr ⟨.inl rfl, _, rfl⟩)
  · cases h1; cases h2; exact .inr (.inr ⟨.inl rfl, _, rfl⟩)
  · cases h1⟩
theorem copy_ok (bh bs : Int) : okC copyC bh bs := ⟨"rr", copy_shp, rfl, fun i l o h1 h2 => by
  rw [copy_ltr] at h1
  rcases i with _ | _ | i
  · cases h1; cases h2; rw [fit_r]; rfl
  · cases h1; cases h2; rw [fit_r]; rfl
  · cases h1⟩
/-! what a program is refused for -/
abbrev Why := Option (Str ⊕ (Nat × Nat))
def BadAt (bs : List (List Cmd)) (n k : Nat) : Prop := ∃ b c, bs[n]? = some b ∧ b[k]? = some c ∧ ¬ okC c ((b.length : Int) - k - 1) bs.length
inductive Ref (bs : List (List Cmd)) : Why → Prop
  | bodies : 1000 < bs.length → Ref bs (some (.inl "bodies"))
  | commands : bs.length ≤ 1000 → (∃ b ∈ bs, 4000 < b.length) → Ref bs (some (.inl "commands"))
  | empty : bs = [] → Ref bs (some (.inr (0, 0)))
  | bad (n k : Nat) : bs.length ≤ 1000 → (∀ b ∈ bs, b.length ≤ 4000) → BadAt bs n k → (∀ m j, BadAt bs m j → n < m ∨ n = m ∧ k ≤ j) → Ref bs (some (.inr (n, k)))
  | ok : bs ≠ [] → bs.length ≤ 1000 → (∀ b ∈ bs, b.length ≤ 4000) → (∀ n k, ¬ BadAt bs n k) → Ref bs none
theorem bad_nil {n k : Nat} (h : BadAt [] n k) : False := by
  obtain ⟨b, c, h, _⟩ := h
  cases h
theorem ref_one {bs : List (List Cmd)} {r s : Why} (h1 : Ref bs r) (h2 : Ref bs s) : r = s := by
  have nc : ∀ {bs : List (List Cmd)}, (∃ b ∈ bs, 4000 < b.length) → (∀ b ∈ bs, b.length ≤ 4000) → False := fun ⟨b, hb, h⟩ g => by have := g b hb; omega
  cases h1 with
  | bodies a => cases h2 with
    | bodies b => rfl
    | commands b c => omega
    | empty b => subst b; simp at a
    | bad n k b => omega
    | ok b c => omega
  | commands a a2 => cases h2 with
    | bodies b => omega
    | commands b c => rfl
    | empty b => subst b; obtain ⟨_, h, _⟩ := a2; cases h
    | bad n k b c => exact (nc a2 c).elim
    | ok b c d => exact (nc a2 d).elim
  | empty a => cases h2 with
    | bodies b => subst a; simp at b
    | commands b c => subst a; obtain ⟨_, h, _⟩ := c; cases h
    | empty b => rfl
    | bad n k b c d => subst a; exact (bad_nil d).elim
    | ok b => exact (b a).elim
  | bad n k a a2 a3 a4 => cases h2 with
    | bodies b => omega
    | commands b c => exact (nc c a2).elim
    | empty b => subst b; exact (bad_nil a3).elim
    | bad m j b c d e =>
      have h1 := a4 m j d
      have h2 := e n k a3
      have : n = m ∧ k = j := by omega
      rw [this.1, this.2]
    | ok b c d e => exact (e n k a3).elim
  | ok a a2 a3 a4 => cases h2 with
    | bodies b => omega
    | commands b c => exact (nc c a3).elim
    | empty b => exact (a b).elim
    | bad m j b c d e => exact (a4 m j d).elim
    | ok b c d e => rfl
def whyD : Why → PyData
  | none => .none
  | some (.inl s) => .str s
  | some (.inr (n, k)) => .tuple [.int n, .int k]

/-! split -/
theorem num_len : ((List.range 4001).all fun n => decide ((toString (n : Int) : Str).length ≤ 10) && decide ((n : Int).natAbs.log2 < 1920)) = true := by decide +kernel
theorem len_num2 {n : Nat} (h : n ≤ 4000) : (toString (n : Int) : Str).length ≤ 10 ∧ (n : Int).natAbs.log2 < 1920 := by
  have := List.all_eq_true.mp num_len n (List.mem_range.mpr (by omega))
  simpa using this
def spExP (C : Addr) : Sp := fun vs H Q _ => ∃ (a : Addr) (n m : Nat), vs = [.ref a, .int n, .int m] ∧ n ≤ 4000 ∧ m ≤ 4000 ∧ H a = some (exo a C none) ∧ ∀ dx, H dx = none → dx ≠ a → Q .non (upd (upd (upd H dx (exd dx [("body", .int n)])) a (exo a C (some dx))) dx (exd dx [("command", .int m), ("body", .int n)]))
theorem xmkoP {C : Addr} {H : Hp} {n m : Nat} {Q : XK} (hn : n ≤ 4000) (hm : m ≤ 4000) (q : ∀ d H', H d = none → Evl.Ex H H' → H' d = some (.xd [("command", .int m), ("body", .int n)]) → Q (.ref C) (some d) H') : Rd.xMkO C (spExP C) [] [.int n, .int m] H Q := by
  refine ⟨Nat.le_of_ble_eq_true rfl, fun a na => ⟨a, n, m, rfl, hn, hm, upd_same, fun dx nx ne => ⟨rfl, dx, [("command", .int m), ("body", .int n)], (upd_ne (Ne.symm ne)).trans upd_same, upd_same, ?_, ?_⟩⟩⟩
  · rw [upd_ne ne] at nx; exact nx
  · have nx' : H dx = none := by rw [upd_ne ne] at nx; exact nx
    refine q dx _ nx' (fun b o hb => ?_) upd_same
    have h1 : b ≠ dx := ne_of_none hb nx'
    have h2 : b ≠ a := ne_of_none hb na
    rw [upd_ne h1, del_ne h2, upd_ne h1, upd_ne h2, upd_ne h1, upd_ne h2]
    exact hb
theorem xost2 {K : PySem.W.Frag} {H : Hp} {a C dx : Addr} {f : Str} {v : V} {fs : List (Str × V)} {N : Hp → Prop} (T : OexC K C) (n : PySem.W.findIn K (.ref C) f = some none) (h : H a = some (exo a C (some dx))) (hd : H dx = some (exd dx fs)) (hl : fs.length ≤ 900) (q : N (upd H dx (exd dx ((f, v) :: fs)))) : Rd.xOst K f v (.ref a) H N := ⟨a, C, rfl, T, n, .inr ⟨dx, fs, h, hd, hl, q⟩⟩
theorem ok_TooMany_init_ {ad : Ad} (T : Txt K w mg ad) : FnOk P w K mg base CX0 1 ad.a_TooMany_init_ ad.d_TooMany_init_ ["self", "what"] (Rd.spEx1 ad.c_TooMany "what") := by
  refine T.F_TooMany_init_.ok sc_TooMany_init_ (fun vs H Q E h => ?_) (fun cdv A outer s H vs Q E hr h => ?_)
  · obtain ⟨a, s1, rfl, hs, ha, k⟩ := h
    rfl
  · obtain ⟨a, s1, rfl, hs, ha, k⟩ := h
    refine ⟨_, (pss_cons (ps_expr (pe_ovinit rfl T.mg_BridgeError T.ov_BridgeError (pa_cons (pv 0) (pa_cons (pe_op Rd.op_addS pe_str (pv 1)) pa_nil))))
      (pss_one (ps_ost (pv 0) (pv 1)))), ?_⟩
    try dsimp only [L2.cxOf, L2.Cx.nox, L2.Cx.wish]
    change (_ : TS) _ ([some (.ref a), some (.str s1)] : St) _
    have cl_Program := T.cl_Program
    have n_Program_bodies := T.n_Program_bodies
    have n_Program_room := T.n_Program_room
    walk_at "rd"
    refine Rd.catS (by rw [show (PySem.Str.ofString "too many ").length = 9 from by rfl]; omega) ?_
    walk_at "rd"
    refine Rd.xvei T.ox_TooMany ha rfl ?_
    walk_at "rd"
    refine Rd.xost T.ox_TooMany T.nx_TooMany_what ha fun dx nx ne => ?_
    walk_at "rd"
    exact k dx nx ne
theorem ok_InvalidProgram_init_ {ad : Ad} (T : Txt K w mg ad) : FnOk P w K mg base CX0 1 ad.a_InvalidProgram_init_ ad.d_InvalidProgram_init_ ["self", "body", "command"] (spExP ad.c_InvalidProgram) := by
  refine T.F_InvalidProgram_init_.ok sc_InvalidProgram_init_ (fun vs H Q E h => ?_) (fun cdv A outer s H vs Q E hr h => ?_)
  · obtain ⟨a, n, m, rfl, hn, hm, ha, k⟩ := h
    rfl
  · obtain ⟨a, n, m, rfl, hn, hm, ha, k⟩ := h
    refine ⟨_, (pss_cons (ps_expr (pe_ovinit rfl T.mg_BridgeError T.ov_BridgeError (pa_cons (pv 0) (pa_cons (Rd.pe_joinN (.cons pe_str (.cons (pe_fmt (pv 1)) (.cons pe_str (.cons (pe_fmt (pv 2)) .nil))))) pa_nil))))
      (pss_cons (ps_ost (pv 0) (pv 1))
      (pss_one (ps_ost (pv 0) (pv 2))))), ?_⟩
    try dsimp only [L2.cxOf, L2.Cx.nox, L2.Cx.wish]
    change (_ : TS) _ ([some (.ref a), some (.int n), some (.int m)] : St) _
    have cl_Program := T.cl_Program
    have n_Program_bodies := T.n_Program_bodies
    have n_Program_room := T.n_Program_room
    obtain ⟨hn1, hn2⟩ := len_num2 hn
    obtain ⟨hm1, hm2⟩ := len_num2 hm
    walk_at "rd"
    refine Rd.xjs (by decide +kernel) ?_
    walk_at "rd"
    refine Rd.xfmtI hn2 ?_
    refine Rd.xjs (by rw [Rd.len_app, Rd.len_app, show Str.empty.length = 0 from rfl, show ("invalid program: body " : Str).length = 22 from by decide +kernel]; omega) ?_
    walk_at "rd"
    refine Rd.xjs (by rw [Rd.len_app, Rd.len_app, Rd.len_app, show Str.empty.length = 0 from rfl, show ("invalid program: body " : Str).length = 22 from by decide +kernel, show (", command " : Str).length = 10 from by decide +kernel]; omega) ?_
    walk_at "rd"
    refine Rd.xfmtI hm2 ?_
    refine Rd.xjs (by rw [Rd.len_app, Rd.len_app, Rd.len_app, Rd.len_app, show Str.empty.length = 0 from rfl, show ("invalid program: body " : Str).length = 22 from by decide +kernel, show (", command " : Str).length = 10 from by decide +kernel]; omega) ?_
    walk_at "rd"
    refine Rd.xvei T.ox_InvalidProgram ha rfl ?_
    walk_at "rd"
    refine Rd.xost T.ox_InvalidProgram T.nx_InvalidProgram_body ha fun dx nx ne => ?_
    walk_at "rd"
    refine xost2 T.ox_InvalidProgram T.nx_InvalidProgram_command upd_same ((upd_ne ne).trans upd_same) (Nat.le_of_ble_eq_true rfl) ?_
    walk_at "rd"
    exact k dx nx ne
/-! split -/
def spFits (K : PySem.W.Frag) : Sp := fun vs H Q _ => ∃ (l : Str) (v : V) (o : PyData) (bh bs : Int), vs = [.str l, v, .int bh, .int bs] ∧ Dp K H v o ∧ OpT l o ∧ Q (.bl (fitB l o bh bs)) H
theorem ok_fits {ad : Ad} (T : Txt K w mg ad) : FnOk P w K mg base CX0 1 ad.a_fits ad.d_fits ["letter", "operand", "behind", "bodies"] (spFits K) := by
  refine T.F_fits.ok sc_fits (fun vs H Q E h => ?_) (fun cdv A outer s H vs Q E hr h => ?_)
  · obtain ⟨l, v, o, bh, bs, rfl, hv, ho, k⟩ := h
    rfl
  · obtain ⟨l, v, o, bh, bs, rfl, hv, ho, k⟩ := h
    refine ⟨_, (pss_cons (ps_if (pt_cmpR op_eq (pv 0) pe_str (nomark _)) (pss_one (ps_ret (pe_chain op_le op_lt pe_int (pv 1) (C8.pe_gc (v := .int 256) rfl T.mc_REGISTERS)))) pss_nil)
      (pss_cons (ps_if (pt_cmpR op_eq (pv 0) pe_str (nomark _)) (pss_one (ps_ret (pe_chain op_le op_lt pe_int (pv 1) (pv 3)))) pss_nil)
      (pss_cons (ps_if (pt_cmpR op_eq (pv 0) pe_str (nomark _)) (pss_one (ps_ret (pe_chain op_le op_lt pe_int (pv 1) (C8.pe_gc (v := .int 1000) rfl T.mc_MOST_BODIES)))) pss_nil)
      (pss_cons (ps_if (pt_cmpR op_eq (pv 0) pe_str (nomark _)) (pss_one (ps_ret (pe_chain op_le op_le pe_int (pv 1) (pv 2)))) pss_nil)
      (pss_cons (ps_if (pt_cmpR op_eq (pv 0) pe_str (nomark _)) (pss_one (ps_ret (pe_cmpR op_in_seq (pv 1) (pe_glob (v := .ref ad.k_KIND_WORDS) rfl T.mc_KIND_WORDS rfl) (by with_unfolding_all rfl)))) pss_nil)
      (pss_cons (ps_if (pt_cmpR op_eq (pv 0) pe_str (nomark _)) (pss_one (ps_ret (pe_cmpR op_ge (pv 1) pe_int (nomark _)))) pss_nil)
      (pss_one (ps_ret pe_bl)))))))), ?_⟩
    try dsimp only [L2.cxOf, L2.Cx.nox, L2.Cx.wish]
    change (_ : TS) _ ([some (.str l), some (v), some (.int bh), some (.int bs)] : St) _
    rcases ho with rfl | ⟨rfl, z, rfl⟩ | ⟨hl, i, rfl⟩
    · rw [fit_v] at k
      walk_at "rd"
      exact k
    · obtain rfl := (show v = .str z by cases hv; rfl)
      rw [fit_w] at k
      walk_at "rd"
      exact Rd.inT (T.tv_KIND_WORDS H) rfl rfl rfl k
    · obtain rfl := Dt.inv_i hv
      have tt : ∀ {b : Bool}, 0 ≤ i → Q (.bl (decide (0 ≤ i) && b)) H → Q (.bl b) H := fun {b} c h => by
        rwa [decide_eq_true c, Bool.true_and] at h
      have ff : ∀ {b : Bool}, ¬ 0 ≤ i → Q (.bl (decide (0 ≤ i) && b)) H → Q (.bl false) H := fun {b} c h => by
        rwa [decide_eq_false c, Bool.false_and] at h
      rcases hl with rfl | rfl | rfl | rfl | rfl
      · rw [fit_r] at k
        walk_at "rd"
        refine Rd.ifd (fun c0 => ?_) (fun c0 => ff c0 k)
        walk_at "rd"
        exact tt c0 k
      · rw [fit_b] at k
        walk_at "rd"
        refine Rd.ifd (fun c0 => ?_) (fun c0 => ff c0 k)
        walk_at "rd"
        exact tt c0 k
      · rw [fit_k] at k
        walk_at "rd"
        refine Rd.ifd (fun c0 => ?_) (fun c0 => ff c0 k)
        walk_at "rd"
        exact tt c0 k
      · rw [fit_n] at k
        walk_at "rd"
        refine Rd.ifd (fun c0 => ?_) (fun c0 => ff c0 k)
        walk_at "rd"
        exact tt c0 k
      · rw [fit_m] at k
        walk_at "rd"
        exact k
theorem bA1 {α : Type} {K : PySem.W.Frag} {H : Hp} {f : α → PyData} {as : List α} {xs : List V} {i : Nat} {y : V} (h : DpAll K H xs (as.map f)) (e : xs[i]? = some y) : ∃ a, as[i]? = some a ∧ Dp K H y (f a) := by
  obtain ⟨d, h1, h2⟩ := Dt.getA1 h e
  rw [List.getElem?_map] at h1
  cases q : as[i]? with
  | none => rw [q] at h1; cases h1
  | some a => rw [q] at h1; cases h1; exact ⟨a, rfl, h2⟩
theorem bA2 {α : Type} {K : PySem.W.Frag} {H : Hp} {f : α → PyData} {as : List α} {xs : List V} {i : Nat} {a : α} (h : DpAll K H xs (as.map f)) (e : as[i]? = some a) : ∃ y, xs[i]? = some y ∧ Dp K H y (f a) := Dt.getA2 h (by rw [List.getElem?_map, e]; rfl)
theorem bLen {α : Type} {K : PySem.W.Frag} {H : Hp} {f : α → PyData} {as : List α} {xs : List V} (h : DpAll K H xs (as.map f)) : xs.length = as.length := by rw [Dt.lenA h, List.length_map]
theorem dpA_cons {K : PySem.W.Frag} {H : Hp} {us : List V} {d : PyData} {ds : List PyData} (h : DpAll K H us (d :: ds)) : ∃ v vs, us = v :: vs ∧ Dp K H v d ∧ DpAll K H vs ds := by
  cases h with
  | cons h1 h2 => exact ⟨_, _, rfl, h1, h2⟩
theorem inv_s {K : PySem.W.Frag} {H : Hp} {v : V} {z : Str} (h : Dp K H v (.str z)) : v = .str z := by
  cases h
  rfl
theorem cmd_inv {K : PySem.W.Frag} {H : Hp} {p : Addr} {c : Cmd} (h : Dp K H (.ref p) (cmdD c)) : ∃ vs, SqT K H p (.str c.1 :: vs) ∧ DpAll K H vs c.2 := by
  obtain ⟨a, us, e0, hs, hA⟩ := Dt.inv_t h
  cases e0
  obtain ⟨v, vs, rfl, h1, h2⟩ := dpA_cons hA
  cases inv_s h1
  exact ⟨vs, hs, h2⟩
theorem ninKdT {K : PySem.W.Frag} {d : Addr} {z : Str} {u : Value} {H : Hp} {Q : VK} (h : PySem.W.nsIn K d z = some (some u)) (q : Q (.bl false) H) : Rd.rNinKd K d (.str z) (.ref d) H Q := Rd.ninKd h q
theorem ninKdF {K : PySem.W.Frag} {d : Addr} {z : Str} {H : Hp} {Q : VK} (h : PySem.W.nsIn K d z = some none) (q : Q (.bl true) H) : Rd.rNinKd K d (.str z) (.ref d) H Q := Rd.ninKd h q
def spAllowed (K : PySem.W.Frag) : Sp := fun vs H Q _ => ∃ (p : Addr) (c : Cmd) (bh bs : Int), vs = [.ref p, .int bh, .int bs] ∧ Dp K H (.ref p) (cmdD c) ∧ CmdT c ∧ c.2.length ≤ 1000 ∧ (okC c bh bs → Q (.bl true) H) ∧ (¬ okC c bh bs → Q (.bl false) H)
theorem ok_allowed {ad : Ad} (T : Txt K w mg ad) : FnOk P w K mg base CX0 2 ad.a_allowed ad.d_allowed ["command", "behind", "bodies"] (spAllowed K) := by
  refine T.F_allowed.ok sc_allowed (fun vs H Q E h => ?_) (fun cdv A outer s H vs Q E hr h => ?_)
  · obtain ⟨p, c, bh, bs, rfl, hp, hT, hz, kT, kF⟩ := h
    rfl
  · obtain ⟨p, c, bh, bs, rfl, hp, hT, hz, kT, kF⟩ := h
    refine ⟨_, (pss_cons (ps_if (PW.pt (pw_or (pt_cmpR op_eq (pe_callB (id := "len") Rd.c_len (by rfl) T.z_len (by decide +kernel) (pa_cons (pv 0) pa_nil)) pe_int (nomark _)) (pw_or1 (pt_cmpR (Rd.op_ninKd T.kd_SHAPES) (pe_ix ix_tup (pv 0) pe_int (fun _ _ => rfl)) (pe_glob (v := .ref ad.k_SHAPES) rfl T.mc_SHAPES rfl) (by with_unfolding_all rfl))))) (pss_one (ps_ret pe_bl)) pss_nil)
      (pss_cons (ps_set (i := 3) sc_allowed.nd rfl (Or.inl rfl) (pe_ix (ix_kdict : IxR _ (rIxD K w)) (pe_glob (v := .ref ad.k_SHAPES) rfl T.mc_SHAPES rfl) (pe_ix ix_tup (pv 0) pe_int (fun _ _ => rfl)) (fun _ _ => rfl)))
      (pss_cons (ps_if (pt_cmpR op_ne (pe_callB (id := "len") Rd.c_len (by rfl) T.z_len (by decide +kernel) (pa_cons (pv 0) pa_nil)) (pe_op op_add (pe_callB (id := "len") Rd.c_lenS (by rfl) T.z_len (by decide +kernel) (pa_cons (pv 3) pa_nil)) pe_int) (nomark _)) (pss_one (ps_ret pe_bl)) pss_nil)
      (pss_cons (ps_for PassesOwn.never rfl (pi_range1 rfl T.z_range (pa_cons (pe_callB (id := "len") Rd.c_lenS (by rfl) T.z_len (by decide +kernel) (pa_cons (pv 3) pa_nil)) pa_nil)) (pg_name (i := 4) sc_allowed.nd rfl (Or.inl rfl)) (pss_one (ps_if (pt_not (pt_val (pe_call (ok_fits T) (hr.mono (by decide)) rfl T.m_fits T.F_fits.kp T.b_fits .nil pass0 (pa_cons (pe_ix ix_str (pv 3) (pv 4) (fun _ _ => rfl)) (pa_cons (pe_ix ix_tup (pv 0) (pe_op op_add (pv 4) pe_int) (fun _ _ => rfl)) (pa_cons (pv 1) (pa_cons (pv 2) pa_nil))))))) (pss_one (ps_ret pe_bl)) pss_nil)))
      (pss_one (ps_ret pe_bl)))))), ?_⟩
    try dsimp only [L2.cxOf, L2.Cx.nox, L2.Cx.wish]
    change (_ : TS) _ ([some (.ref p), some (.int bh), some (.int bs), none, none] : St) _
    obtain ⟨w1, ds⟩ := c
    obtain ⟨vs, hs, hA⟩ := cmd_inv hp
    dsimp only at hs hA
    have hl : vs.length = ds.length := Dt.lenA hA
    walk_at "rd"
    refine Rd.ifF (by rw [List.length_cons]; omega) ?_
    walk_at "rd"
    have h0 : atI (V.str w1 :: vs) 0 = some (V.str w1) := Rd.atI_i (by decide) rfl
    refine Rd.ixT hs h0 ?_
    walk_at "rd"
    rcases hT with hn | ⟨sh, hs1, hty⟩
    · have hn : w1 ∈ non_SHAPES := hn
      refine ninKdF (T.kn_SHAPES _ hn) ?_
      walk_at "rd"
      exact kF fun ⟨sh, h, _⟩ => shp_non h hn
    · have hs1 : Shp w1 sh := hs1
      obtain ⟨hk, u, hu⟩ := T.kw_SHAPES _ hs1
      dsimp only at hk hu
      have hsl := shp_len hs1
      refine ninKdT hu ?_
      walk_at "rd"
      refine Rd.ixT hs h0 ?_
      walk_at "rd"
      refine Rd.ixKd hk ?_
      walk_at "rd"
      refine Rd.lenS (by show sh.length ≤ 100000; omega) ?_
      walk_at "rd"
      refine Rd.ifNd (fun c1 => ?_) (fun c1 => ?_)
      · walk_at "rd"
        refine kF fun ⟨sh', h, h2, _⟩ => c1 ?_
        obtain rfl := shp_fun h hs1
        rw [List.length_cons, hl, h2]
        rfl
      · have hlen : ds.length = sh.length := by
          rw [List.length_cons, hl] at c1
          show ds.length = sh.length
          have : ((sh.length : Nat) : Int) = sh.length := rfl
          omega
        have ht := hty hlen
        walk_at "rd"
        refine Rd.lenS (by show sh.length ≤ 100000; omega) ?_
        walk_at "rd"
        refine Rd.xfr1 ⟨by omega, by omega⟩ (fun i σ H' => ∃ v4, σ = [some (.ref p), some (.int bh), some (.int bs), some (.str sh), v4] ∧ H' = H ∧ ∀ (j : Nat) l o, j < i → (ltrs sh)[j]? = some l → ds[j]? = some o → fitB l o bh bs = true) ⟨none, rfl, rfl, fun j l o hj => by omega⟩ ?_ ?_
        · rintro i σ H' hi ⟨v4, rfl, rfl, hno⟩
          have hic : sh.cps.toList[i]? = some (sh.cps.toList[i]'(by have : sh.cps.toList.length = sh.length := rfl; omega)) := List.getElem?_eq_getElem _
          generalize sh.cps.toList[i]'_ = ch at hic
          have hio : ds[i]? = some (ds[i]'(by omega)) := List.getElem?_eq_getElem _
          generalize ds[i]'_ = o at hio
          obtain ⟨y, hy, hyo⟩ := Dt.getA2 hA hio
          walk_at "rd"
          refine Rd.ixS (by omega) (atI_nat hic) ?_
          walk_at "rd"
          refine Rd.ixT hs (Rd.atI_i (by omega) (by rw [show ((i : Int) + 1).toNat = i + 1 from by omega]; exact hy)) ?_
          walk_at "rd"
          refine ⟨_, y, o, bh, bs, rfl, hyo, ht i _ o (at_ltr hic) hio, ?_⟩
          walk_at "rd"
          cases hf : fitB ⟨#[ch]⟩ o bh bs with
          | false =>
            walk_at "rd"
            exact kF fun ⟨sh', h, h2, h3⟩ => by
              obtain rfl := shp_fun h hs1
              rw [h3 i _ o (at_ltr hic) hio] at hf
              cases hf
          | true =>
            walk_at "rd"
            refine ⟨_, rfl, rfl, fun j l o' hj hjl hjo => ?_⟩
            by_cases e : j = i
            · subst e
              rw [at_ltr hic] at hjl
              rw [hio] at hjo
              cases hjl; cases hjo
              exact hf
            · exact hno j l o' (by omega) hjl hjo
        · rintro σ H' ⟨v4, rfl, rfl, hno⟩
          walk_at "rd"
          refine kT ⟨sh, hs1, hlen, fun i l o h1 h2 => hno i l o ?_ h1 h2⟩
          have h3 : i < ds.length := (List.getElem?_eq_some_iff.mp h2).1
          omega
/-! split -/
/-- a list of whole numbers -/
def spNamed (K : PySem.W.Frag) : Sp := fun vs H Q _ => ∃ (p : Addr) (c : Cmd) (bh bs : Int), vs = [.ref p] ∧ Dp K H (.ref p) (cmdD c) ∧ CmdT c ∧ okC c bh bs ∧ ∀ q H' (is : List Int), Evl.Ex H H' → H' q = some (.lst (is.map V.int)) → is.length ≤ 3 → Q (.ref q) H'
theorem given_ints {n : Nat} {f : Nat → Bool} {v : Nat → V} (h : ∀ i, i < n → f i = true → ∃ k : Int, v i = .int k) : ∃ is : List Int, Evl.given n f v = is.map V.int ∧ is.length ≤ n := by
  have h' : ∀ l : List Nat, (∀ i ∈ l, i < n) → ∃ is : List Int, (l.filter fun i => f i).map v = is.map V.int ∧ is.length ≤ l.length := by
    intro l
    induction l with
    | nil => exact fun _ => ⟨[], rfl, Nat.le_refl _⟩
    | cons i l ih =>
      intro hl
      obtain ⟨is, e, hz⟩ := ih fun j hj => hl j (List.mem_cons_of_mem _ hj)
      cases hf : f i with
      | false => exact ⟨is, by rw [List.filter_cons, hf]; exact e, by rw [List.length_cons]; omega⟩
      | true =>
        obtain ⟨k, hk⟩ := h i (hl i List.mem_cons_self) hf
        exact ⟨k :: is, by rw [List.filter_cons, hf]; show v i :: _ = _; rw [hk, e]; rfl, by rw [List.length_cons, List.length_cons]; omega⟩
  obtain ⟨is, e, hz⟩ := h' (List.range n) fun i hi => List.mem_range.mp hi
  exact ⟨is, e, by rw [List.length_range] at hz; exact hz⟩
theorem ok_named_registers_of {ad : Ad} (T : Txt K w mg ad) : FnOk P w K mg base CX0 1 ad.a_named_registers_of ad.d_named_registers_of ["command"] (spNamed K) := by
  refine T.F_named_registers_of.ok sc_named_registers_of (fun vs H Q E h => ?_) (fun cdv A outer s H vs Q E hr h => ?_)
  · obtain ⟨p, c, bh, bs, rfl, hp, hT, hok, k⟩ := h
    rfl
  · obtain ⟨p, c, bh, bs, rfl, hp, hT, hok, k⟩ := h
    refine ⟨_, (pss_cons (ps_set (i := 1) sc_named_registers_of.nd rfl (Or.inr rfl) (pe_ix (ix_kdict : IxR _ (rIxD K w)) (pe_glob (v := .ref ad.k_SHAPES) rfl T.mc_SHAPES rfl) (pe_ix ix_tup (pv 0) pe_int (fun _ _ => rfl)) (fun _ _ => rfl)))
      (pss_one (ps_ret (pe_lc (own := [("index", 2)]) (g := gName 2) rfl sc_named_registers_of.nd (pi_range1 rfl T.z_range (pa_cons (pe_callB (id := "len") Rd.c_lenS (by rfl) T.z_len (by decide +kernel) (pa_cons (pv 1) pa_nil)) pa_nil)) (blkOk_by (N := ["command", "shape", "index"]) (sc := (defScope s_named_registers_of)) (by decide +kernel)) (fun _ _ _ _ _ => (pg_name (i := 2) sc_named_registers_of.nd rfl (Or.inl rfl))) (fun _ _ _ _ _ => (pts_one (pt_cmpR op_eq (pe_ix ix_str (pv 1) (pv 2) (fun _ _ => rfl)) pe_str (nomark _)))) (fun _ _ _ _ _ => (pe_ix (ix_tup : IxR _ (rIxT K)) (pv 0) (pe_op op_add (pv 2) pe_int) (fun _ _ => rfl))))))), ?_⟩
    try dsimp only [L2.cxOf, L2.Cx.nox, L2.Cx.wish]
    change (_ : TS) _ ([some (.ref p), none, none] : St) _
    obtain ⟨w1, ds⟩ := c
    obtain ⟨vs, hs, hA⟩ := cmd_inv hp
    dsimp only at hs hA
    obtain ⟨sh, hs1, hlen, hfit⟩ := hok
    have hs1 : Shp w1 sh := hs1
    have hlen : ds.length = sh.length := hlen
    have hl : vs.length = ds.length := Dt.lenA hA
    have hty : ∀ (i : Nat) l o, (ltrs sh)[i]? = some l → ds[i]? = some o → OpT l o := by
      rcases hT with hn | ⟨sh', h, ht⟩
      · exact (shp_non hs1 hn).elim
      · obtain rfl := shp_fun h hs1
        exact ht hlen
    obtain ⟨hk, u, hu⟩ := T.kw_SHAPES _ hs1
    dsimp only at hk hu
    have hsl := shp_len hs1
    have h0 : atI (V.str w1 :: vs) 0 = some (V.str w1) := Rd.atI_i (by decide) rfl
    walk_at "rd"
    refine Rd.ixT hs h0 ?_
    walk_at "rd"
    refine Rd.ixKd hk ?_
    walk_at "rd"
    refine Rd.lenS (by show sh.length ≤ 100000; omega) ?_
    walk_at "rd"
    have hic : ∀ i : Nat, (i : Int) < (sh.length : Int) → ∃ ch, sh.cps.toList[i]? = some ch := fun i hi => ⟨_, List.getElem?_eq_getElem (by have : sh.cps.toList.length = sh.length := rfl; omega)⟩
    have hiv : ∀ i : Nat, (i : Int) < (sh.length : Int) → ∃ o y, ds[i]? = some o ∧ vs[i]? = some y ∧ Dp K H y o := fun i hi => by
      have hio : ds[i]? = some (ds[i]'(by omega)) := List.getElem?_eq_getElem _
      obtain ⟨y, hy, hyo⟩ := Dt.getA2 hA hio
      exact ⟨_, y, hio, hy, hyo⟩
    refine Rd.xlcR (fun i => decide ((ltrs sh)[i]? = some ("r" : Str))) (fun i => vs.getD i .non) ⟨by omega, by omega⟩ (fun _ => rfl) ?_ ?_ ?_
    · intro i H1 e1 hi H2 e2 Q2 q2
      obtain ⟨ch, hch⟩ := hic i hi
      walk_at "rd"
      refine Rd.ixS (by omega) (atI_nat hch) ?_
      walk_at "rd"
      rw [show decide ((⟨#[ch]⟩ : Str) = "r") = decide ((ltrs sh)[i]? = some ("r" : Str)) from by rw [at_ltr hch]; exact decide_eq_decide.mpr ⟨fun h => by rw [h], fun h => Option.some.inj h⟩]
      exact q2 _ (Evl.Ex.refl _)
    · intro i H1 e1 hi hf H2 e2 Q2 q2
      obtain ⟨o, y, h1, h2, h3⟩ := hiv i hi
      walk_at "rd"
      refine Rd.ixT (Evl.ex_t (e1.trans e2) hs) (Rd.atI_i (by omega) (by rw [show ((i : Int) + 1).toNat = i + 1 from by omega]; exact h2)) ?_
      have e3 : y = vs.getD i .non := by rw [List.getD_eq_getElem?_getD, h2]; rfl
      rw [e3]
      exact q2 _ (Evl.Ex.refl _)
    · intro q H' nq e hq
      obtain ⟨is, hg, hz⟩ := given_ints (n := (sh.length : Int).toNat) (f := fun i => decide ((ltrs sh)[i]? = some ("r" : Str))) (v := fun i => vs.getD i .non) fun i hi hf => by
        obtain ⟨o, y, h1, h2, h3⟩ := hiv i (by omega)
        have hr : (ltrs sh)[i]? = some ("r" : Str) := of_decide_eq_true hf
        rcases hty i _ o hr h1 with h | ⟨h, _⟩ | ⟨_, j, rfl⟩
        · exact absurd h (by decide)
        · exact absurd h (by decide)
        · refine ⟨j, ?_⟩
          rw [List.getD_eq_getElem?_getD, h2]
          exact Dt.inv_i h3
      rw [hg] at hq
      exact k q H' is e hq (by omega)
def RaiseT (C : Addr) (s : Str) (H : Hp) (E : XK) : Prop := ∀ d H', Evl.Ex H H' → H' d = some (.xd [("what", .str s)]) → E (.ref C) (some d) H'
def RaiseP (C : Addr) (n m : Nat) (H : Hp) (E : XK) : Prop := ∀ d H', Evl.Ex H H' → H' d = some (.xd [("command", .int m), ("body", .int n)]) → E (.ref C) (some d) H'
theorem RaiseT.mono {C : Addr} {s : Str} {H H1 : Hp} {E : XK} (h : RaiseT C s H E) (e : Evl.Ex H H1) : RaiseT C s H1 E := fun d H' e' hd => h d H' (e.trans e') hd
theorem RaiseP.mono {C : Addr} {n m : Nat} {H H1 : Hp} {E : XK} (h : RaiseP C n m H E) (e : Evl.Ex H H1) : RaiseP C n m H1 E := fun d H' e' hd => h d H' (e.trans e') hd
structure BsOk (bs : List (List Cmd)) : Prop where
  len : bs.length ≤ 20000
  each : ∀ b ∈ bs, b.length ≤ 20000
  typ : ∀ b ∈ bs, ∀ c ∈ b, CmdT c ∧ c.2.length ≤ 1000
def spCheck (CT CP : Addr) (K : PySem.W.Frag) : Sp := fun vs H Q E => ∃ (p : Addr) (bs : List (List Cmd)), vs = [.ref p] ∧ Dp K H (.ref p) (.list (bs.map bodyD)) ∧ BsOk bs ∧ (∀ s, Ref bs (some (.inl s)) → RaiseT CT s H E) ∧ (∀ n m, Ref bs (some (.inr (n, m))) → RaiseP CP n m H E) ∧ (Ref bs none → ∀ H', Evl.Ex H H' → Q .non H')
theorem ok_check_bodies {ad : Ad} (T : Txt K w mg ad) : FnOk P w K mg base (L2.CX P w) 3 ad.a_check_bodies ad.d_check_bodies ["bodies"] (spCheck ad.c_TooMany ad.c_InvalidProgram K) := by
  refine T.F_check_bodies.okX sc_check_bodies (fun vs H Q E h => ?_) (fun cdv A outer s H vs Q E hr h => ?_)
  · obtain ⟨p, bs, rfl, hp, ok, kT, kP, k⟩ := h
    rfl
  · obtain ⟨p, bs, rfl, hp, ok, kT, kP, k⟩ := h
    refine ⟨_, (pss_cons (ps_if (pt_cmpR op_gt (pe_callB (id := "len") Rd.c_len (by rfl) T.z_len (by decide +kernel) (pa_cons (pv 0) pa_nil)) (C8.pe_gc (v := .int 1000) rfl T.mc_MOST_BODIES) (nomark _)) (pss_one (ps_raise rfl (takes_of rfl rfl rfl rfl) (pmk_oex T.ox_TooMany T.ix_TooMany T.tx_TooMany (ok_TooMany_init_ T) (hr.mono (by decide)) T.b_TooMany_init_ .nil pass0 rfl T.mg_TooMany (pa_cons pe_str pa_nil)))) pss_nil)
      (pss_cons (ps_for (passes_of rfl) rfl (pi_list (pv 0)) (pg_name (i := 1) sc_check_bodies.nd rfl (Or.inl rfl)) (pss_one (ps_if (pt_cmpR op_gt (pe_callB (id := "len") Rd.c_len (by rfl) T.z_len (by decide +kernel) (pa_cons (pv 1) pa_nil)) (C8.pe_gc (v := .int 4000) rfl T.mc_MOST_COMMANDS) (nomark _)) (pss_one (ps_raise rfl (takes_of rfl rfl rfl rfl) (pmk_oex T.ox_TooMany T.ix_TooMany T.tx_TooMany (ok_TooMany_init_ T) (hr.mono (by decide)) T.b_TooMany_init_ .nil pass0 rfl T.mg_TooMany (pa_cons pe_str pa_nil)))) pss_nil)))
      (pss_cons (ps_if (pt_not (pt_truth (pv 0) (by intro _; rfl))) (pss_one (ps_raise rfl (takes_of rfl rfl rfl rfl) (pmk_oex T.ox_InvalidProgram T.ix_InvalidProgram T.tx_InvalidProgram (ok_InvalidProgram_init_ T) (hr.mono (by decide)) T.b_InvalidProgram_init_ .nil pass0 rfl T.mg_InvalidProgram (pa_cons pe_int (pa_cons pe_int pa_nil))))) pss_nil)
      (pss_one (ps_for (passes_of rfl) rfl (pi_enum (by rfl) T.z_enumerate (pa_cons (pv 0) pa_nil)) (pg_tup rfl (pgs_cons (pg_name (i := 2) sc_check_bodies.nd rfl (Or.inl rfl)) (pgs_cons (pg_name (i := 1) sc_check_bodies.nd rfl (Or.inl rfl)) pgs_nil))) (pss_one (ps_for (passes_of rfl) rfl (pi_enum (by rfl) T.z_enumerate (pa_cons (pv 1) pa_nil)) (pg_tup rfl (pgs_cons (pg_name (i := 3) sc_check_bodies.nd rfl (Or.inl rfl)) (pgs_cons (pg_name (i := 4) sc_check_bodies.nd rfl (Or.inl rfl)) pgs_nil))) (pss_one (ps_if (pt_not (pt_val (pe_call (ok_allowed T) (hr.mono (by decide)) rfl T.m_allowed T.F_allowed.kp T.b_allowed .nil pass0 (pa_cons (pv 4) (pa_cons (pe_op op_sub (pe_op op_sub (pe_callB (id := "len") Rd.c_len (by rfl) T.z_len (by decide +kernel) (pa_cons (pv 1) pa_nil)) (pv 3)) pe_int) (pa_cons (pe_callB (id := "len") Rd.c_len (by rfl) T.z_len (by decide +kernel) (pa_cons (pv 0) pa_nil)) pa_nil)))))) (pss_one (ps_raise rfl (takes_of rfl rfl rfl rfl) (pmk_oex T.ox_InvalidProgram T.ix_InvalidProgram T.tx_InvalidProgram (ok_InvalidProgram_init_ T) (hr.mono (by decide)) T.b_InvalidProgram_init_ .nil pass0 rfl T.mg_InvalidProgram (pa_cons (pv 2) (pa_cons (pv 3) pa_nil))))) pss_nil))))))))), ?_⟩
    try dsimp only [L2.cxOf, L2.Cx.nox, L2.Cx.wish]
    change (_ : TS) _ ([some (.ref p), none, none, none, none] : St) _
    obtain ⟨p', xs, e0, hs, hA⟩ := Dt.inv_l hp
    cases e0
    have hxl := bLen hA
    obtain ⟨okl, oke, okt⟩ := id ok
    walk_at "rd"
    refine Rd.ifd (fun c1 => ?_) (fun c1 => ?_)
    · walk_at "rd"
      exact Rd.xmko1 (by decide) fun d H' nd e hd' => kT _ (.bodies (by omega)) d H' e hd'
    walk_at "rd"
    refine Rd.xfl hs (fun i σ H' => ∃ v1 v2 v3 v4, σ = [some (.ref p), v1, v2, v3, v4] ∧ H' = H ∧ ∀ j b, j < i → bs[j]? = some b → b.length ≤ 4000) ⟨none, none, none, none, rfl, rfl, fun j b hj => by omega⟩ (fun i σ H' _ ⟨_, _, _, _, _, e, _⟩ => by rw [e]; exact hs) ?_ ?_
    · rintro i x σ H' hx ⟨v1, v2, v3, v4, rfl, rfl, hno⟩
      obtain ⟨b, hb, hbd⟩ := bA1 hA hx
      obtain ⟨pb, ys, rfl, hys, hyA⟩ := Dt.inv_l hbd
      have hyl := bLen hyA
      walk_at "rd"
      refine Rd.ifd (fun c2 => ?_) (fun c2 => ?_)
      · walk_at "rd"
        exact Rd.xmko1 (by decide) fun d H' nd e hd' => kT _ (.commands (by omega) ⟨b, List.mem_of_getElem? hb, by omega⟩) d H' e hd'
      · walk_at "rd"
        refine ⟨_, _, _, _, rfl, rfl, fun j b' hj hjb => ?_⟩
        by_cases e : j = i
        · subst e
          rw [hb] at hjb
          cases hjb
          omega
        · exact hno j b' (by omega) hjb
    · rintro σ H' ⟨v1, v2, v3, v4, rfl, rfl, hno⟩
      have small : ∀ b ∈ bs, b.length ≤ 4000 := fun b hb => by
        obtain ⟨j, hj⟩ := List.getElem?_of_mem hb
        exact hno j b (by have := (List.getElem?_eq_some_iff.mp hj).1; omega) hj
      walk_at "rd"
      refine ⟨!xs.isEmpty, .inl ⟨xs, hs, rfl⟩, ?_⟩
      cases hxe : xs.isEmpty with
      | true =>
        have hbe : bs = [] := by
          have : xs = [] := List.isEmpty_iff.mp hxe
          rw [this] at hxl
          exact List.length_eq_zero_iff.mp hxl.symm
        refine iteT ?_
        walk_at "rd"
        exact xmkoP (n := 0) (m := 0) (by decide) (by decide) fun d H2 nd e hd' => kP 0 0 (.empty hbe) d H2 e hd'
      | false =>
        have hbe : bs ≠ [] := fun h => by
          rw [h] at hxl
          rw [List.length_eq_zero_iff.mp hxl] at hxe
          cases hxe
        refine iteF ?_
        walk_at "rd"
        refine Rd.xfe hs (fun i σ H2 => ∃ v1 v2 v3 v4, σ = [some (.ref p), v1, v2, v3, v4] ∧ Evl.Ex H' H2 ∧ ∀ n m, n < i → ¬ BadAt bs n m) ⟨_, _, _, _, rfl, Evl.Ex.refl _, fun n m hn => by omega⟩ (fun i σ H2 _ ⟨_, _, _, _, _, e, _⟩ => Evl.ex_l e hs) ?_ ?_
        · rintro i x σ H1 T1 H2 hx ⟨v1, v2, v3, v4, rfl, e1, hno⟩ nT e2 hT
          obtain ⟨b, hb, hbd⟩ := bA1 hA hx
          obtain ⟨pb, ys, rfl, hys, hyA⟩ := Dt.inv_l hbd
          have hyl := bLen hyA
          have e12 := e1.trans e2
          have hbs := small b (List.mem_of_getElem? hb)
          have hin := (List.getElem?_eq_some_iff.mp hx).1
          walk_at "rd"
          refine Rd.xfe (Evl.ex_l e12 hys) (fun j σ H3 => ∃ v3 v4, σ = [some (.ref p), some (.ref pb), some (.int (i : Nat)), v3, v4] ∧ Evl.Ex H2 H3 ∧ ∀ m, m < j → ¬ BadAt bs i m) ⟨_, _, rfl, Evl.Ex.refl _, fun m hm => by omega⟩ (fun j σ H3 _ ⟨_, _, _, e, _⟩ => Evl.ex_l (e12.trans e) hys) ?_ ?_
          · rintro j y σ H3 T2 H4 hy ⟨v3, v4, rfl, e3, hno2⟩ nT2 e4 hT2
            obtain ⟨c, hc, hcd⟩ := bA1 hyA hy
            obtain ⟨pc, zs, rfl, hzs, hzA⟩ := Dt.inv_t hcd
            have e14 := (e12.trans e3).trans e4
            have hjn := (List.getElem?_eq_some_iff.mp hy).1
            walk_at "rd"
            refine Rd.len (Evl.ex_l e14 hys) ?_
            walk_at "rd"
            refine Rd.len (Evl.ex_l e14 hs) ?_
            walk_at "rd"
            obtain ⟨ct, cz⟩ := okt b (List.mem_of_getElem? hb) c (List.mem_of_getElem? hc)
            refine ⟨pc, c, _, _, rfl, Dt.mn hcd e14, ct, cz, fun hok => ?_, fun hbad => ?_⟩
            · walk_at "rd"
              refine ⟨_, _, rfl, e3.trans e4, fun m hm => ?_⟩
              by_cases e : m = j
              · subst e
                rintro ⟨b', c', h1, h2, h3⟩
                rw [hb] at h1; cases h1
                rw [hc] at h2; cases h2
                rw [hyl, hxl] at hok
                exact h3 hok
              · exact hno2 m (by omega)
            · walk_at "rd"
              have hb2 : BadAt bs i j := ⟨b, c, hb, hc, by rw [hyl, hxl] at hbad; exact hbad⟩
              refine xmkoP (by omega) (by omega) fun d H5 nd e5 hd' => kP i j (.bad i j (by omega) small hb2 fun m k hmk => ?_) d H5 (e14.trans e5) hd'
              by_cases h1 : m < i
              · exact (hno m k h1 hmk).elim
              · by_cases h2 : m = i
                · subst h2
                  by_cases h3 : k < j
                  · exact (hno2 k h3 hmk).elim
                  · exact .inr ⟨rfl, by omega⟩
                · exact .inl (by omega)
          · rintro σ H3 ⟨v3, v4, rfl, e3, hno2⟩
            refine ⟨_, _, _, _, rfl, e12.trans e3, fun n m hn hbad => ?_⟩
            by_cases h1 : n = i
            · subst h1
              obtain ⟨b', c', g1, g2, _⟩ := id hbad
              rw [hb] at g1; cases g1
              exact hno2 m (by have := (List.getElem?_eq_some_iff.mp g2).1; omega) hbad
            · exact hno n m (by omega) hbad
        · rintro σ H2 ⟨v1, v2, v3, v4, rfl, e1, hno⟩
          refine k (.ok hbe (by omega) small fun n m hbad => ?_) H2 e1
          obtain ⟨b', c', g1, g2, _⟩ := id hbad
          exact hno n m (by have := (List.getElem?_eq_some_iff.mp g1).1; omega) hbad
def spRoom (K : PySem.W.Frag) : Sp := fun vs H Q _ => ∃ (p : Addr) (bs : List (List Cmd)), vs = [.ref p] ∧ Dp K H (.ref p) (.list (bs.map bodyD)) ∧ BsOk bs ∧ (∀ n m, ¬ BadAt bs n m) ∧ ∀ r H', Evl.Ex H H' → Q (.int r) H'
theorem ok_room_of {ad : Ad} (T : Txt K w mg ad) : FnOk P w K mg base CX0 2 ad.a_room_of ad.d_room_of ["bodies"] (spRoom K) := by
  refine T.F_room_of.ok sc_room_of (fun vs H Q E h => ?_) (fun cdv A outer s H vs Q E hr h => ?_)
  · obtain ⟨p, bs, rfl, hp, ok, hnb, k⟩ := h
    rfl
  · obtain ⟨p, bs, rfl, hp, ok, hnb, k⟩ := h
    refine ⟨_, (pss_cons (ps_set (i := 1) sc_room_of.nd rfl (Or.inl rfl) pe_int)
      (pss_cons (ps_for PassesOwn.never rfl (pi_list (pv 0)) (pg_name (i := 2) sc_room_of.nd rfl (Or.inl rfl)) (pss_one (ps_for PassesOwn.never rfl (pi_list (pv 2)) (pg_name (i := 3) sc_room_of.nd rfl (Or.inl rfl)) (pss_one (ps_for PassesOwn.never rfl (pi_list (pe_call (ok_named_registers_of T) (hr.mono (by decide)) rfl T.m_named_registers_of T.F_named_registers_of.kp T.b_named_registers_of .nil pass0 (pa_cons (pv 3) pa_nil))) (pg_name (i := 4) sc_room_of.nd rfl (Or.inl rfl)) (pss_one (ps_set (i := 1) sc_room_of.nd rfl (Or.inl rfl) (pe_callB (id := "max") (Rd.c_max2 rfl) (by rfl) T.z_max (by decide +kernel) (pa_cons (pv 1) (pa_cons (pe_op op_add (pe_op op_sub (pv 4) (C8.pe_gc (v := .int 8) rfl T.mc_LOCALS)) pe_int) pa_nil))))))))))
      (pss_one (ps_ret (pv 1))))), ?_⟩
    try dsimp only [L2.cxOf, L2.Cx.nox, L2.Cx.wish]
    change (_ : TS) _ ([some (.ref p), none, none, none, none] : St) _
    obtain ⟨p', xs, e0, hs, hA⟩ := Dt.inv_l hp
    cases e0
    have hxl := bLen hA
    obtain ⟨okl, oke, okt⟩ := id ok
    walk_at "rd"
    refine Rd.xfl hs (fun i σ H' => ∃ (r : Int) (v2 v3 v4 : Option V), σ = [some (.ref p), some (.int r), v2, v3, v4] ∧ Evl.Ex H H') ⟨0, none, none, none, rfl, Evl.Ex.refl _⟩ (fun i σ H' _ ⟨_, _, _, _, _, e⟩ => Evl.ex_l e hs) ?_ ?_
    · rintro i x σ H1 hx ⟨r, v2, v3, v4, rfl, e1⟩
      obtain ⟨b, hb, hbd⟩ := bA1 hA hx
      obtain ⟨pb, ys, rfl, hys, hyA⟩ := Dt.inv_l hbd
      walk_at "rd"
      refine Rd.xfl (Evl.ex_l e1 hys) (fun j σ H' => ∃ (r : Int) (v3 v4 : Option V), σ = [some (.ref p), some (.int r), some (.ref pb), v3, v4] ∧ Evl.Ex H1 H') ⟨r, _, _, rfl, Evl.Ex.refl _⟩ (fun i σ H' _ ⟨_, _, _, _, e⟩ => Evl.ex_l (e1.trans e) hys) ?_ ?_
      · rintro j y σ H2 hy ⟨r, v3, v4, rfl, e2⟩
        obtain ⟨c, hc, hcd⟩ := bA1 hyA hy
        obtain ⟨pc, zs, rfl, hzs, hzA⟩ := Dt.inv_t hcd
        obtain ⟨ct, cz⟩ := okt b (List.mem_of_getElem? hb) c (List.mem_of_getElem? hc)
        have hok : okC c ((b.length : Int) - j - 1) bs.length := by
          by_cases h : okC c ((b.length : Int) - j - 1) bs.length
          · exact h
          · exact (hnb i j ⟨b, c, hb, hc, h⟩).elim
        walk_at "rd"
        refine ⟨pc, c, _, _, rfl, Dt.mn hcd (e1.trans e2), ct, hok, fun q H3 is e3 hq hz => ?_⟩
        walk_at "rd"
        refine Rd.xfl (SqL.of hq) (fun l σ H' => ∃ (r : Int) (v4 : Option V), σ = [some (.ref p), some (.int r), some (.ref pb), some (.ref pc), v4] ∧ H' = H3) ⟨r, _, rfl, rfl⟩ (fun i σ H' _ ⟨_, _, _, e⟩ => by rw [e]; exact SqL.of hq) ?_ ?_
        · rintro l z σ H4 hz ⟨r, v4, rfl, rfl⟩
          obtain ⟨n, hn, rfl⟩ : ∃ n : Int, is[l]? = some n ∧ z = .int n := by
            rw [List.getElem?_map] at hz
            cases e : is[l]? with
            | none => rw [e] at hz; cases hz
            | some n => rw [e] at hz; cases hz; exact ⟨n, rfl, rfl⟩
          walk_at "rd"
          exact ⟨_, _, rfl, rfl⟩
        · rintro σ H4 ⟨r, v4, rfl, rfl⟩
          exact ⟨_, _, _, rfl, e2.trans e3⟩
      · rintro σ H2 ⟨r, v3, v4, rfl, e2⟩
        exact ⟨_, _, _, _, rfl, e1.trans e2⟩
    · rintro σ H1 ⟨r, v2, v3, v4, rfl, e1⟩
      walk_at "rd"
      exact k _ _ e1
theorem xlcCopy {σ : L2.St} {H : Hp} {Q : VK} {l : Addr} {j : Nat} {vs : List Nat} {xs : List V} {rows : List (List V)} (hx : SqL K H l xs) (hl : xs.length = rows.length) (hr : ∀ (i : Nat) (x : V) (r : List V), xs[i]? = some x → rows[i]? = some r → ∃ a, x = .ref a ∧ SqL K H a r)
    (hz : xs.length ≤ 40000) (hw : ∀ x, wipe ((wipe σ vs).set j (some x)) vs = wipe σ vs) (hj : ∀ x, ((wipe σ vs).set j (some x))[j]? = some (some x))
    (q : ∀ (p : Addr) (as : List Addr) (H' : Hp), H p = none → Evl.Ex H H' → H' p = some (.lst (as.map V.ref)) → as.length = rows.length → (∀ (k : Nat) (a : Addr) (r : List V), as[k]? = some a → rows[k]? = some r → H a = none ∧ a ≠ p ∧ H' a = some (.lst r)) → Q (.ref p) H') :
    Rd.xLcL K (gName j) tYes (tCB (Rd.rListOf K) (tCons (tVar j) tNil)) vs σ (.ref l) H Q := by
  let Cp : Addr → Nat → Hp → Prop := fun D i H' => H D = none ∧ Evl.Ex H H' ∧ ∃ as : List Addr, as.length = i ∧ H' D = some (.lst (as.map V.ref)) ∧ ∀ (k : Nat) (a : Addr) (r : List V), as[k]? = some a → rows[k]? = some r → H a = none ∧ a ≠ D ∧ H' a = some (.lst r)
  refine ⟨l, rfl, ⟨xs, hx⟩, fun D hD => lc_list (xs := xs) (Cp D) ⟨hD, Evl.Ex.new hD, [], rfl, upd_same, fun k a r h => by cases h⟩ (fun i H' _ p => Evl.ex_l p.2.1 hx) (fun i x H' hi p => ⟨hw x, iteT (B := Cp D (i + 1) H') ?_⟩) (fun H' p => ?_)⟩
  · obtain ⟨_, e, as, has, hDl, hk⟩ := p
    have hi2 : i < xs.length := (List.getElem?_eq_some_iff.mp hi).1
    have hi3 : rows[i]? = some (rows[i]'(by omega)) := List.getElem?_eq_getElem _
    obtain ⟨a, rfl, hs⟩ := hr i x _ hi hi3
    refine Rd.cb (Rd.cons (Rd.var (hj _) (Rd.nil (Rd.listOfU (Evl.ex_l e hs) fun p hp => ?_))))
    have hpD : D ≠ p := ne_of_none hDl hp
    have hp0 : H p = none := Evl.fresh_back e hp
    refine ⟨as.map V.ref, (upd_ne hpD).trans hDl, Evl.sz_lt (by rw [List.length_map, has]; omega), hD, Evl.Ex.mut (e.trans (Evl.Ex.new hp)) hD, as ++ [p], by rw [List.length_append, has]; rfl, by rw [List.map_append]; exact upd_same, fun k b r h1 h2 => ?_⟩
    by_cases hkl : k < as.length
    · rw [List.getElem?_append_left hkl] at h1
      obtain ⟨g1, g2, g3⟩ := hk k b r h1 h2
      exact ⟨g1, g2, by rw [upd_ne g2, upd_ne (ne_of_none g3 hp)]; exact g3⟩
    · have hk2 : k = i := by
        have := (List.getElem?_eq_some_iff.mp h1).1
        rw [List.length_append] at this
        simp at this
        omega
      subst hk2
      rw [List.getElem?_append_right (by omega), has, Nat.sub_self] at h1
      cases h1
      rw [hi3] at h2
      cases h2
      exact ⟨hp0, Ne.symm hpD, by rw [upd_ne (Ne.symm hpD)]; exact upd_same⟩
  · obtain ⟨_, e, as, has, hDl, hk⟩ := p
    exact q D as H' hD e hDl (by rw [has, hl]) hk

/-- bodies at as -/
structure BodA (K : PySem.W.Frag) (H : Hp) (as : List Addr) (bs : List (List Cmd)) : Prop where
  len : as.length = bs.length
  rw : ∀ (k : Nat) (a : Addr) (b : List Cmd), as[k]? = some a → bs[k]? = some b → ∃ vs, H a = some (.lst vs) ∧ DpAll K H vs (b.map cmdD)
theorem BodA.ex {K : PySem.W.Frag} {H H' : Hp} {as : List Addr} {bs : List (List Cmd)} (h : BodA K H as bs) (e : Evl.Ex H H') : BodA K H' as bs := ⟨h.len, fun k a b h1 h2 => by
  obtain ⟨vs, h3, h4⟩ := h.rw k a b h1 h2
  exact ⟨vs, e _ _ h3, Dt.mnA h4 e⟩⟩
theorem bodA_dp {K : PySem.W.Frag} {H : Hp} : ∀ (as : List Addr) (bs : List (List Cmd)), as.length = bs.length → (∀ (k : Nat) (a : Addr) (b : List Cmd), as[k]? = some a → bs[k]? = some b → Dp K H (.ref a) (bodyD b)) → DpAll K H (as.map V.ref) (bs.map bodyD)
  | [], [], _, _ => .nil
  | a :: as, b :: bs, h, f => .cons (f 0 a b rfl rfl) (bodA_dp as bs (by simpa using h) fun k a b h1 h2 => f (k + 1) a b h1 h2)
  | [], _ :: _, h, _ => by cases h
  | _ :: _, [], h, _ => by cases h
theorem BodA.dpA {K : PySem.W.Frag} {H : Hp} {as : List Addr} {bs : List (List Cmd)} (h : BodA K H as bs) : DpAll K H (as.map V.ref) (bs.map bodyD) := bodA_dp as bs h.len fun k a b h1 h2 => by
  obtain ⟨vs, h3, h4⟩ := h.rw k a b h1 h2
  exact Dt.ofL h3 h4
theorem BodA.dp {K : PySem.W.Frag} {H : Hp} {p : Addr} {as : List Addr} {bs : List (List Cmd)} (h : BodA K H as bs) (hp : H p = some (.lst (as.map V.ref))) : Dp K H (.ref p) (.list (bs.map bodyD)) := Dt.ofL hp h.dpA
theorem bods_of {K : PySem.W.Frag} {H : Hp} : ∀ (bs : List (List Cmd)) (xs : List V), DpAll K H xs (bs.map bodyD) → ∃ vss : List (List V), vss.length = bs.length ∧ ∀ (i : Nat) (x : V) (r : List V), xs[i]? = some x → vss[i]? = some r → ∃ (a : Addr) (b : List Cmd), x = .ref a ∧ SqL K H a r ∧ bs[i]? = some b ∧ DpAll K H r (b.map cmdD)
  | [], xs, h => by
    cases h
    exact ⟨[], rfl, fun i x r h => by cases h⟩
  | b :: bs, xs, h => by
    obtain ⟨v, vs, rfl, h1, h2⟩ := dpA_cons h
    obtain ⟨vss, hl, hv⟩ := bods_of bs _ h2
    obtain ⟨a, r, rfl, hs, hd⟩ := Dt.inv_l h1
    refine ⟨r :: vss, by rw [List.length_cons, List.length_cons, hl], fun i x r' h3 h4 => ?_⟩
    cases i with
    | zero => cases h3; cases h4; exact ⟨a, b, rfl, hs, rfl, hd⟩
    | succ i => exact hv i x r' h3 h4
/-- [list(body) for body in bodies] -/
theorem xlcBods {K : PySem.W.Frag} {σ : L2.St} {H : Hp} {Q : VK} {l : Addr} {j : Nat} {vs : List Nat} {bs : List (List Cmd)} (hx : Dp K H (.ref l) (.list (bs.map bodyD))) (hz : bs.length ≤ 40000) (hw : ∀ x, wipe ((wipe σ vs).set j (some x)) vs = wipe σ vs) (hj : ∀ x, ((wipe σ vs).set j (some x))[j]? = some (some x))
    (q : ∀ (p : Addr) (as : List Addr) (H' : Hp), H p = none → Evl.Ex H H' → H' p = some (.lst (as.map V.ref)) → BodA K H' as bs → (∀ a ∈ as, H a = none ∧ a ≠ p) → Q (.ref p) H') :
    Rd.xLcL K (gName j) tYes (tCB (Rd.rListOf K) (tCons (tVar j) tNil)) vs σ (.ref l) H Q := by
  obtain ⟨_, xs, e0, hsx, hA⟩ := Dt.inv_l hx
  cases e0
  obtain ⟨vss, hvl, hv⟩ := bods_of bs xs hA
  have hxl := bLen hA
  refine xlcCopy (rows := vss) hsx (by omega) (fun i y r h1 h2 => ?_) (by omega) hw hj fun p as H' np e hp has hcp => q p as H' np e hp ⟨by rw [has, hvl], fun kk a b h1 h2 => ?_⟩ fun a ha => ?_
  · obtain ⟨a, b, h3, h4, _⟩ := hv i y r h1 h2
    exact ⟨a, h3, h4⟩
  · have hkl := (List.getElem?_eq_some_iff.mp h2).1
    have g3 : vss[kk]? = some (vss[kk]'(by omega)) := List.getElem?_eq_getElem _
    have g4 : xs[kk]? = some (xs[kk]'(by omega)) := List.getElem?_eq_getElem _
    obtain ⟨_, _, g5⟩ := hcp kk a _ h1 g3
    obtain ⟨a2, b2, _, _, g6, g7⟩ := hv kk _ _ g4 g3
    rw [h2] at g6
    cases g6
    exact ⟨_, g5, Dt.mnA g7 e⟩
  · obtain ⟨kk, hk⟩ := List.getElem?_of_mem ha
    have hkl := (List.getElem?_eq_some_iff.mp hk).1
    obtain ⟨g1, g2, _⟩ := hcp kk a _ hk (List.getElem?_eq_getElem (by omega))
    exact ⟨g1, g2⟩
def spProgram (C CT CP : Addr) (K : PySem.W.Frag) : Sp := fun vs H Q E => ∃ (x dx p : Addr) (bs : List (List Cmd)), vs = [.ref x, .ref p] ∧ H x = some (.ins C dx []) ∧ Dp K H (.ref p) (.list (bs.map bodyD)) ∧ BsOk bs ∧ (∀ s, Ref bs (some (.inl s)) → RaiseT CT s H E) ∧ (∀ n m, Ref bs (some (.inr (n, m))) → RaiseP CP n m H E) ∧ (Ref bs none → ∀ H', (∀ b o, b ≠ x → H b = some o → H' b = some o) → Q .non H')
theorem ok_Program_init_ {ad : Ad} (T : Txt K w mg ad) : FnOk P w K mg base (L2.CX P w) 4 ad.a_Program_init_ ad.d_Program_init_ ["self", "bodies"] (spProgram ad.c_Program ad.c_TooMany ad.c_InvalidProgram K) := by
  refine T.F_Program_init_.okX sc_Program_init_ (fun vs H Q E h => ?_) (fun cdv A outer s H vs Q E hr h => ?_)
  · obtain ⟨x, dx, p, bs, rfl, hx, hp, ok, kT, kP, k⟩ := h
    rfl
  · obtain ⟨x, dx, p, bs, rfl, hx, hp, ok, kT, kP, k⟩ := h
    refine ⟨_, (pss_cons (ps_expr (pe_call (ok_check_bodies T) (hr.mono (by decide)) rfl T.m_check_bodies T.F_check_bodies.kp T.b_check_bodies .nil (passes_call (takes_of rfl rfl rfl rfl) (fun _ _ _ _ h => h)) (pa_cons (pv 1) pa_nil)))
      (pss_cons (ps_fld (pv 0) (pe_lc (own := [("body", 2)]) (g := gName 2) (tt := tYes) rfl sc_Program_init_.nd (pi_list (pv 1)) (blkOk_by (N := ["self", "bodies", "body"]) (sc := (defScope s_Program_init_)) (by decide +kernel)) (fun _ _ _ _ _ => (pg_name (i := 2) sc_Program_init_.nd rfl (Or.inl rfl))) (fun _ _ _ _ _ => pts_nil) (fun _ _ _ _ _ => (pe_callTy (T := "list") (Rd.c_list : CallR _ _ (Rd.rListOf K)) (by rfl) T.z_list (by decide +kernel) (pa_cons (pv 2) pa_nil)))) rfl)
      (pss_one (ps_fld (pv 0) (pe_call (ok_room_of T) (hr.mono (by decide)) rfl T.m_room_of T.F_room_of.kp T.b_room_of .nil pass0 (pa_cons (pe_fld (pv 0) rfl) pa_nil)) rfl)))), ?_⟩
    try dsimp only [L2.cxOf, L2.Cx.nox, L2.Cx.wish]
    change (_ : TS) _ ([some (.ref x), some (.ref p), none] : St) _
    have cl_Program := T.cl_Program
    have n_Program_bodies := T.n_Program_bodies
    have n_Program_room := T.n_Program_room
    obtain ⟨p', xs, e0, hs, hA⟩ := Dt.inv_l hp
    cases e0
    have hxl := bLen hA
    obtain ⟨okl, oke, okt⟩ := id ok
    walk_at "rd"
    refine ⟨p, bs, rfl, hp, ok, kT, kP, fun hr H1 e1 => ?_⟩
    have hx1 := e1 _ _ hx
    walk_at "rd"
    refine xlcBods (Dt.mn hp e1) (by omega) (fun _ => rfl) (fun _ => rfl) fun q as H2 nq e2 hq hB hne => ?_
    have hx2 := e2 _ _ hx1
    have hq2 := hB.dp hq
    walk_at "rd"
    have hdp : Dp K (upd H2 x (.ins ad.c_Program dx (putF "bodies" (.ref q) []))) (.ref q) (.list (bs.map bodyD)) := Dt.updI hx2 _ _ hq2
    rw [pf_Program_bodies] at hdp ⊢
    have hx3 : (upd H2 x (.ins ad.c_Program dx [("bodies", .ref q)])) x = some (.ins ad.c_Program dx [("bodies", .ref q)]) := upd_same
    refine Rd.rfld hx3 (by assumption) (by assumption) rfl ?_
    walk_at "rd"
    refine ⟨q, bs, rfl, hdp, ok, ?_, fun r H4 e4 => ?_⟩
    · cases hr with
      | ok _ _ _ h => exact h
    have hx4 := e4 _ _ hx3
    walk_at "rd"
    exact k hr _ fun b o hb hbo => (upd_ne hb).trans (e4 _ _ ((upd_ne hb).trans (e2 _ _ (e1 _ _ hbo))))

/-! split -/
/-! ### programs drawn -/
def kvOf (l : List (Str × Str)) : List (Key × V) := l.map fun p => (Sum.inr p.1, V.str p.2)
def shKV : List (Key × V) := kvOf tab_SHAPES
def kvA : List (Key × V) := kvOf (tab_SHAPES.take 7)
def kvB : List (Key × V) := kvOf ((tab_SHAPES.drop 7).take 7)
def kvC : List (Key × V) := kvOf (tab_SHAPES.drop 14)
theorem put_B (i : Nat) (k : Key) (v : V) (h : kvB[i]? = some (k, v)) : putK (kvA ++ kvB.take i) k v = kvA ++ kvB.take (i + 1) ∧ valV kvB k = some v ∧ ∃ z, k = .inr z := by
  have hi : i < 7 := (List.getElem?_eq_some_iff.mp h).1
  rcases (by omega : i = 0 ∨ i = 1 ∨ i = 2 ∨ i = 3 ∨ i = 4 ∨ i = 5 ∨ i = 6) with rfl | rfl | rfl | rfl | rfl | rfl | rfl <;> (cases h; exact ⟨by rfl, by rfl, _, rfl⟩)
theorem put_C (i : Nat) (k : Key) (v : V) (h : kvC[i]? = some (k, v)) : putK ((kvA ++ kvB) ++ kvC.take i) k v = (kvA ++ kvB) ++ kvC.take (i + 1) ∧ valV kvC k = some v ∧ ∃ z, k = .inr z := by
  have hi : i < 7 := (List.getElem?_eq_some_iff.mp h).1
  rcases (by omega : i = 0 ∨ i = 1 ∨ i = 2 ∨ i = 3 ∨ i = 4 ∨ i = 5 ∨ i = 6) with rfl | rfl | rfl | rfl | rfl | rfl | rfl <;> (cases h; exact ⟨by rfl, by rfl, _, rfl⟩)
theorem sh_all : (kvA ++ kvB) ++ kvC = shKV := by rfl
/-- for word in part: shapes[word] = part[word] -/
theorem xpart {D : Ends} {H : Hp} {σ : L2.St} {s d : Addr} {acc P : List (Key × V)} (hσ : ∃ a1 a2 v, σ = [some (.ref s), a1, a2, some (.ref d), v]) (sd : s ≠ d) (hs : H s = some (.dK acc)) (hd : H d = some (.dK P)) (hl : acc.length + P.length ≤ 100) (put : ∀ (i : Nat) (k : Key) (v : V), P[i]? = some (k, v) → putK (acc ++ P.take i) k v = acc ++ P.take (i + 1) ∧ valV P k = some v ∧ ∃ z, k = .inr z)
    (hq : ∀ H' v, H' s = some (.dK (acc ++ P)) → (∀ b o, b ≠ s → H b = some o → H' b = some o) → D.nx (σ.set 4 v) H') : tLock (tFor (iKeys (tVar 3)) (gName 4) (sDPut (tVar 0) (tVar 4) (tDGet (tVar 3) (tVar 4)))) D σ H := by
  obtain ⟨a1, a2, v4, rfl⟩ := hσ
  refine Rd.forK (kvs := P) rfl hd (fun od i σ' H' => ∃ v, σ' = [some (.ref s), a1, a2, some (.ref d), v] ∧ H' s = some (.dK (acc ++ P.take i)) ∧ H' d = some (.frz od (.dK P)) ∧ ∀ b o, b ≠ s → b ≠ d → H b = some o → H' b = some o)
    (fun od => ⟨v4, rfl, (upd_ne sd).trans (by rw [List.take_zero, List.append_nil]; exact hs), upd_same, fun b o h1 h2 h3 => (upd_ne h2).trans h3⟩) (fun od i σ' H' _ ⟨_, _, _, e, _⟩ => e) ?_ ?_
  · rintro od i k v σ' H' E hE hk ⟨v', rfl, h1, h2, h3⟩
    obtain ⟨e1, e2, z, rfl⟩ := put i k v hk
    walk_at "rd"
    refine ⟨d, v, rfl, .inl ⟨P, .inr z, .inr ⟨od, h2⟩, rfl, e2.symm⟩, ?_⟩
    walk_at "rd"
    refine Rd.xdputS h1 (by rw [List.length_append, List.length_take]; omega) ?_
    rw [e1, hE]
    exact ⟨_, rfl, upd_same, (upd_ne (Ne.symm sd)).trans h2, fun b o g1 g2 g3 => (upd_ne g1).trans (h3 b o g1 g2 g3)⟩
  · rintro od σ' H' ⟨v, rfl, h1, h2, h3⟩
    rw [List.take_length] at h1
    refine hq _ v ((upd_ne sd).trans h1) fun b o g1 g3 => ?_
    by_cases e : b = d
    · subst e
      rw [upd_same]
      rw [hd] at g3
      exact g3
    · exact (upd_ne e).trans (h3 b o g1 e g3)
def spShapes : Sp := fun vs H Q _ => vs = [] ∧ ∀ s H', Evl.Ex H H' → H' s = some (.dK shKV) → Q (.ref s) H'
theorem ok_law_shapes {ad : Ad} (T : Txt K w mg ad) : FnOk P w K mg base CX0 1 ad.a_law_shapes ad.d_law_shapes [] (spShapes) := by
  refine T.F_law_shapes.ok sc_law_shapes (fun vs H Q E h => ?_) (fun cdv A outer s H vs Q E hr h => ?_)
  · obtain ⟨rfl, k⟩ := h
    rfl
  · obtain ⟨rfl, k⟩ := h
    refine ⟨_, (pss_cons (ps_set (i := 0) sc_law_shapes.nd rfl (Or.inl rfl) (pe_disp (pps_cons pe_str pe_str (pps_cons pe_str pe_str (pps_cons pe_str pe_str (pps_cons pe_str pe_str (pps_cons pe_str pe_str (pps_cons pe_str pe_str (pps_cons pe_str pe_str pps_nil))))))) (by rfl) (by rfl) (fun z => by cases z) (by decide)))
      (pss_cons (ps_set (i := 1) sc_law_shapes.nd rfl (Or.inl rfl) (pe_disp (pps_cons pe_str pe_str (pps_cons pe_str pe_str (pps_cons pe_str pe_str (pps_cons pe_str pe_str (pps_cons pe_str pe_str (pps_cons pe_str pe_str (pps_cons pe_str pe_str pps_nil))))))) (by rfl) (by rfl) (fun z => by cases z) (by decide)))
      (pss_cons (ps_set (i := 2) sc_law_shapes.nd rfl (Or.inl rfl) (pe_disp (pps_cons pe_str pe_str (pps_cons pe_str pe_str (pps_cons pe_str pe_str (pps_cons pe_str pe_str (pps_cons pe_str pe_str (pps_cons pe_str pe_str (pps_cons pe_str pe_str pps_nil))))))) (by rfl) (by rfl) (fun z => by cases z) (by decide)))
      (pss_cons (ps_for PassesOwn.never rfl (pi_list (pe_lst (pa_cons (pv 1) (pa_cons (pv 2) pa_nil)))) (pg_name (i := 3) sc_law_shapes.nd rfl (Or.inl rfl)) (pss_one (ps_lock (ps_for PassesOwn.never rfl (pi_keys (pv 3)) (pg_name (i := 4) sc_law_shapes.nd rfl (Or.inl rfl)) (pss_one (ps_dput (hu_of hr) (pv 0) (pv 4) (pe_dget (hu_of hr) (pv 3) (pv 4) (fun _ _ => rfl)) rfl))))))
      (pss_one (ps_ret (pv 0))))))), ?_⟩
    try dsimp only [L2.cxOf, L2.Cx.nox, L2.Cx.wish]
    change (_ : TS) _ ([none, none, none, none, none] : St) _
    walk_at "rd"
    refine Rd.dnewD fun s ns => ?_
    walk_at "rd"
    refine Rd.pairs0 ⟨upd_same, kvA, rfl, Nat.le_of_ble_eq_true rfl, ?_⟩
    have e1 : Evl.Ex H (upd (upd H s (.dK [])) s (.dK (mergeK [] kvA))) := Evl.Ex.mut (Evl.Ex.new ns) ns
    have h1 : (upd (upd H s (.dK [])) s (.dK (mergeK [] kvA))) s = some (.dK kvA) := upd_same.trans (by rfl)
    generalize upd (upd H s (.dK [])) s (.dK (mergeK [] kvA)) = H1 at *
    walk_at "rd"
    refine Rd.dnewD fun m nm => ?_
    walk_at "rd"
    refine Rd.pairs0 ⟨upd_same, kvB, rfl, Nat.le_of_ble_eq_true rfl, ?_⟩
    have e2 : Evl.Ex H1 (upd (upd H1 m (.dK [])) m (.dK (mergeK [] kvB))) := Evl.Ex.mut (Evl.Ex.new nm) nm
    have h2 : (upd (upd H1 m (.dK [])) m (.dK (mergeK [] kvB))) m = some (.dK kvB) := upd_same.trans (by rfl)
    generalize upd (upd H1 m (.dK [])) m (.dK (mergeK [] kvB)) = H2 at *
    walk_at "rd"
    refine Rd.dnewD fun l nl => ?_
    walk_at "rd"
    refine Rd.pairs0 ⟨upd_same, kvC, rfl, Nat.le_of_ble_eq_true rfl, ?_⟩
    have e3 : Evl.Ex H2 (upd (upd H2 l (.dK [])) l (.dK (mergeK [] kvC))) := Evl.Ex.mut (Evl.Ex.new nl) nl
    have h3 : (upd (upd H2 l (.dK [])) l (.dK (mergeK [] kvC))) l = some (.dK kvC) := upd_same.trans (by rfl)
    generalize upd (upd H2 l (.dK [])) l (.dK (mergeK [] kvC)) = H3 at *
    have sm : s ≠ m := ne_of_none h1 nm
    have sl : s ≠ l := ne_of_none (e2 _ _ h1) nl
    walk_at "rd"
    refine Rd.xlst rfl fun pl H4 n4 e4 h4 => ?_
    have hs4 := e4 _ _ (e3 _ _ (e2 _ _ h1))
    have hm4 := e4 _ _ (e3 _ _ h2)
    have hl4 := e4 _ _ h3
    have spl : s ≠ pl := ne_of_none (e3 _ _ (e2 _ _ h1)) n4
    have e04 := ((e1.trans e2).trans e3).trans e4
    have keep : ∀ {H5 : Hp}, (∀ b o, b ≠ s → H4 b = some o → H5 b = some o) → Evl.Ex H H5 := fun h => Rd.exBut e04 ns h
    walk_at "rd"
    refine Rd.xfl (SqL.of h4) (fun i σ H5 => ∃ v3 v4, σ = [some (.ref s), some (.ref m), some (.ref l), v3, v4] ∧ (∀ b o, b ≠ s → H4 b = some o → H5 b = some o) ∧ H5 s = some (.dK (match i with | 0 => kvA | 1 => kvA ++ kvB | _ => shKV)))
      ⟨none, none, rfl, (fun _ _ _ h => h), hs4⟩ (fun i σ H5 _ ⟨_, _, _, e, _⟩ => SqL.of (e _ _ (Ne.symm spl) h4)) ?_ ?_
    · rintro i x σ H5 hi ⟨v3, v4, rfl, e5, hs5⟩
      have hi2 : i < 2 := (List.getElem?_eq_some_iff.mp hi).1
      rcases (by omega : i = 0 ∨ i = 1) with rfl | rfl
      · cases hi
        walk_at "rd"
        refine xpart ⟨_, _, _, rfl⟩ sm hs5 (e5 _ _ (Ne.symm sm) hm4) (by decide) put_B fun H6 v h6 g6 => ?_
        exact ⟨_, _, rfl, fun b o h1 h2 => g6 b o h1 (e5 b o h1 h2), h6⟩
      · cases hi
        walk_at "rd"
        refine xpart ⟨_, _, _, rfl⟩ sl hs5 (e5 _ _ (Ne.symm sl) hl4) (by decide) put_C fun H6 v h6 g6 => ?_
        exact ⟨_, _, rfl, fun b o h1 h2 => g6 b o h1 (e5 b o h1 h2), h6⟩
    · rintro σ H5 ⟨v3, v4, rfl, e5, hs5⟩
      walk_at "rd"
      exact k s H5 (keep e5) hs5
/-! split -/
def ValOk (o : PyData) : Prop := Dt.noL o = true ∧ PyData.canLay0 o = true ∧ o.depth ≤ 6
theorem valok_int (i : Int) : ValOk (.int i) := ⟨by simp [Dt.noL], by simp [PyData.canLay0], by simp [PyData.depth]⟩
theorem valok_str {z : Str} (h : PyData.strOk z = true) : ValOk (.str z) := ⟨by simp [Dt.noL], by simp [PyData.canLay0, h], by simp [PyData.depth]⟩
theorem valok_none : ValOk .none := ⟨by simp [Dt.noL], by simp [PyData.canLay0], by simp [PyData.depth]⟩
theorem valok_si {z : Str} {i : Int} (h : PyData.strOk z = true) : ValOk (.tuple [.str z, .int i]) := ⟨by simp [Dt.noL], by simp [PyData.canLay0, PyData.canLayAll0, h], by simp [PyData.depth, PyData.depthAll]⟩
theorem valok_ss {z y : Str} (h : PyData.strOk z = true) (g : PyData.strOk y = true) : ValOk (.tuple [.str z, .str y]) := ⟨by simp [Dt.noL], by simp [PyData.canLay0, PyData.canLayAll0, h, g], by simp [PyData.depth, PyData.depthAll]⟩
theorem six_at {k : Int} (h0 : 0 ≤ k) (h1 : k < 6) : ∃ c, atI ("abcxyz" : Str).cps.toList k = some c ∧ c < 200 := by
  rcases (by omega : k = 0 ∨ k = 1 ∨ k = 2 ∨ k = 3 ∨ k = 4 ∨ k = 5) with rfl | rfl | rfl | rfl | rfl | rfl <;> exact ⟨_, rfl, by decide⟩
def Ch1 (z : Str) : Prop := ∃ c, z = ⟨#[c]⟩ ∧ c < 200
theorem chs_of {K : PySem.W.Frag} {H : Hp} : ∀ (vs : List V) (ds : List PyData), DpAll K H vs ds → (∀ (i : Nat) d, ds[i]? = some d → ∃ z : Str, d = .str z ∧ Ch1 z) → ∃ zs : List Str, vs = zs.map V.str ∧ (∀ z ∈ zs, Ch1 z) ∧ zs.length = ds.length
  | vs, [], h, _ => by
    cases h
    exact ⟨[], rfl, (fun _ h => nomatch h), rfl⟩
  | us, d :: ds, h, f => by
    obtain ⟨v, vs, rfl, h1, h2⟩ := dpA_cons h
    obtain ⟨z, rfl, hz⟩ := f 0 d rfl
    obtain ⟨zs, e, g, l⟩ := chs_of vs ds h2 fun i d hd => f (i + 1) d hd
    cases inv_s h1
    exact ⟨z :: zs, by rw [e]; rfl, fun y hy => (List.mem_cons.mp hy).elim (fun q => q ▸ hz) (g y), by rw [List.length_cons, List.length_cons, l]⟩
theorem ch_len : ∀ zs : List Str, (∀ z ∈ zs, Ch1 z) → (zs.map (·.length)).sum = zs.length
  | [], _ => rfl
  | z :: zs, h => by
    obtain ⟨c, rfl, _⟩ := h z List.mem_cons_self
    rw [List.map_cons, List.sum_cons, ch_len zs fun z m => h z (List.mem_cons_of_mem _ m), List.length_cons]
    show 1 + zs.length = _
    omega
theorem ch_ok {z : Str} (h : Ch1 z) : PyData.strOk z = true := by
  obtain ⟨c, rfl, hc⟩ := h
  show (#[c] : Array Nat).all (· < 0x110000) = true
  simp
  omega
theorem mul4_at {k : Int} (h0 : 0 ≤ k) (h1 : k < 4) : ∃ m : Int, atI [V.int 1, .int 1, .int 1000000000, .int 1000000000000000000000000000000] k = some (.int m) ∧ 0 ≤ m ∧ m ≤ 1000000000000000000000000000000 := by
  rcases (by omega : k = 0 ∨ k = 1 ∨ k = 2 ∨ k = 3) with rfl | rfl | rfl | rfl <;> exact ⟨_, rfl, by decide, by decide⟩
def spValue (K : PySem.W.Frag) : Sp := fun vs H Q _ => ∃ dk : Addr, vs = [.ref dk] ∧ H dk = some (Dk.DkO dk) ∧ ∀ v H' o, Evl.Ex H H' → Dp K H' v o → ValOk o → Q v H'
theorem ok_law_value {ad : Ad} (T : Txt K w mg ad) : FnOk P w K mg base CX0 2 ad.a_law_value ad.d_law_value ["deck"] (spValue K) := by
  refine T.F_law_value.ok sc_law_value (fun vs H Q E h => ?_) (fun cdv A outer s H vs Q E hr h => ?_)
  · obtain ⟨dk, rfl, hD, k⟩ := h
    rfl
  · obtain ⟨dk, rfl, hD, k⟩ := h
    refine ⟨_, (pss_cons (ps_set (i := 1) sc_law_value.nd rfl (Or.inl rfl) (pe_m1 PySem.F.slot_str_join PySem.F.type_str_join Rd.mt_jn pe_str (pe_lc (own := [("place", 2)]) (g := gName 2) (tt := tYes) rfl sc_law_value.nd (pi_range1 rfl T.z_range (pa_cons (pe_call (ok_law_take T) (hr.mono (by decide)) rfl T.m_law_take T.F_law_take.kp T.b_law_take .nil pass0 (pa_cons (pv 0) (pa_cons pe_int pa_nil))) pa_nil)) (blkOk_by (N := ["deck", "text", "place", "number"]) (sc := (defScope s_law_value)) (by decide +kernel)) (fun _ _ _ _ _ => (pg_name (i := 2) sc_law_value.nd rfl (Or.inl rfl))) (fun _ _ _ _ _ => pts_nil) (fun _ _ _ _ _ => (pe_ix ix_str pe_str (pe_call (ok_law_take T) (hr.mono (by decide)) rfl T.m_law_take T.F_law_take.kp T.b_law_take .nil pass0 (pa_cons (pv 0) (pa_cons pe_int pa_nil))) (fun _ _ => rfl))))))
      (pss_cons (ps_set (i := 3) sc_law_value.nd rfl (Or.inl rfl) (pe_op op_mulW (pe_op op_sub (pe_call (ok_law_take T) (hr.mono (by decide)) rfl T.m_law_take T.F_law_take.kp T.b_law_take .nil pass0 (pa_cons (pv 0) (pa_cons pe_int pa_nil))) pe_int) (pe_ix ix_list (pe_lst (pa_cons pe_int (pa_cons pe_int (pa_cons (pe_op op_pow pe_int pe_int) (pa_cons (pe_op op_pow pe_int pe_int) pa_nil))))) (pe_call (ok_law_take T) (hr.mono (by decide)) rfl T.m_law_take T.F_law_take.kp T.b_law_take .nil pass0 (pa_cons (pv 0) (pa_cons pe_int pa_nil))) (fun _ _ => rfl))))
      (pss_one (ps_ret (pe_ix ix_list (pe_lst (pa_cons pe_non (pa_cons (pe_tup (pa_cons pe_str (pa_cons (pv 3) pa_nil))) (pa_cons (pe_tup (pa_cons pe_str (pa_cons (pv 1) pa_nil))) (pa_cons (pe_tup (pa_cons pe_str (pa_cons (pe_call (ok_law_take T) (hr.mono (by decide)) rfl T.m_law_take T.F_law_take.kp T.b_law_take .nil pass0 (pa_cons (pv 0) (pa_cons pe_int pa_nil))) pa_nil))) (pa_cons (pe_tup (pa_cons pe_str (pa_cons pe_int pa_nil))) pa_nil)))))) (pe_call (ok_law_take T) (hr.mono (by decide)) rfl T.m_law_take T.F_law_take.kp T.b_law_take .nil pass0 (pa_cons (pv 0) (pa_cons pe_int pa_nil))) (fun _ _ => rfl)))))), ?_⟩
    try dsimp only [L2.cxOf, L2.Cx.nox, L2.Cx.wish]
    change (_ : TS) _ ([some (.ref dk), none, none, none] : St) _
    have cl_Program := T.cl_Program
    have n_Program_bodies := T.n_Program_bodies
    have n_Program_room := T.n_Program_room
    walk_at "rd"
    intro n n0 n1
    refine Rd.xlcGR (K := K) (fun _ d => ∃ z : Str, d = .str z ∧ Ch1 z) ⟨n0, by omega⟩ (fun _ => rfl) ?_ ?_
    · intro i Dl G H1 acc hi hDl e1 e2 gD hacc Q' kq
      have hD1 := (e1.trans e2) _ _ hD
      walk_at "rd"
      intro t t0 t1
      obtain ⟨c, hc, hc2⟩ := six_at t0 t1
      refine Rd.ixS (by decide) hc ?_
      exact kq _ H1 G _ (Evl.Ex.refl _) e2 gD (Evl.Ex.refl _) (.str _) ⟨_, rfl, c, rfl, hc2⟩
    · intro p G H1 ys ds np e1 e2 gp hp hA hl hR
      obtain ⟨zs, rfl, hz, hzl⟩ := chs_of ys ds hA hR
      have hD1 := (e1.trans e2) _ _ hD
      walk_at "rd"
      refine Rd.join (SqL.of hp) (by rw [ch_len zs hz, show (PySem.Str.ofString "").length = 0 from rfl]; omega) ?_
      walk_at "rd"
      have hw : PyData.strOk (Txt.join ⟨#[]⟩ zs) = true := by rw [join_jn]; exact jn_ok zs fun z m => ch_ok (hz z m)
      rw [show Txt.join (PySem.Str.ofString "") zs = Txt.join ⟨#[]⟩ zs from rfl]
      generalize Txt.join ⟨#[]⟩ zs = wd at *
      intro a a0 a1
      walk_at "rd"
      refine Rd.xlst rfl fun p2 H2 n2 e3 h2 => ?_
      have hD2 := e3 _ _ hD1
      walk_at "rd"
      intro b b0 b1
      obtain ⟨m, hm, m0, m1⟩ := mul4_at b0 b1
      refine Rd.ixL (SqL.of h2) hm ?_
      walk_at "rd"
      refine Rd.i1 (wide_mul (a := 20) (b := 100) (by omega) (by omega) (by decide) (by decide) (by decide)) ?_
      walk_at "rd"
      refine Rd.xtup rfl fun p3 H3 n3 e4 h3 => ?_
      walk_at "rd"
      refine Rd.xtup rfl fun p4 H4 n4 e5 h4 => ?_
      have hD4 := e5 _ _ (e4 _ _ hD2)
      walk_at "rd"
      intro c c0 c1
      walk_at "rd"
      refine Rd.xtup rfl fun p5 H5 n5 e6 h5 => ?_
      walk_at "rd"
      refine Rd.xtup rfl fun p6 H6 n6 e7 h6 => ?_
      walk_at "rd"
      refine Rd.xlst rfl fun p7 H7 n7 e8 h7 => ?_
      have hD7 := e8 _ _ (e7 _ _ (e6 _ _ hD4))
      walk_at "rd"
      intro x x0 x1
      have h3' := e8 _ _ (e7 _ _ (e6 _ _ (e5 _ _ h3)))
      have h4' := e8 _ _ (e7 _ _ (e6 _ _ h4))
      have h5' := e8 _ _ (e7 _ _ h5)
      have h6' := e8 _ _ h6
      have e07 : Evl.Ex H H7 := ((((((e1.trans e2).trans e3).trans e4).trans e5).trans e6).trans e7).trans e8
      obtain ⟨y, o, hy, hyo, hok⟩ : ∃ y o, atI [V.non, .ref p3, .ref p4, .ref p5, .ref p6] x = some y ∧ Dp K H7 y o ∧ ValOk o := by
        rcases (by omega : x = 0 ∨ x = 1 ∨ x = 2 ∨ x = 3 ∨ x = 4) with rfl | rfl | rfl | rfl | rfl
        · exact ⟨_, _, rfl, .non, valok_none⟩
        · exact ⟨_, _, rfl, Dt.ofT h3' (.cons (.str _) (.cons (.int _) .nil)), valok_si (by decide +kernel)⟩
        · exact ⟨_, _, rfl, Dt.ofT h4' (.cons (.str _) (.cons (.str _) .nil)), valok_ss (by decide +kernel) hw⟩
        · exact ⟨_, _, rfl, Dt.ofT h5' (.cons (.str _) (.cons (.int _) .nil)), valok_si (by decide +kernel)⟩
        · exact ⟨_, _, rfl, Dt.ofT h6' (.cons (.str _) (.cons (.int _) .nil)), valok_si (by decide +kernel)⟩
      refine Rd.ixL (SqL.of h7) hy ?_
      exact k y H7 o e07 hyo hok
/-! split -/
def Ltr (l : Str) : Prop := l = "r" ∨ l = "b" ∨ l = "k" ∨ l = "n" ∨ l = "m" ∨ l = "w" ∨ l = "v"
theorem w6_at {k : Int} (h0 : 0 ≤ k) (h1 : k < 6) : ∃ z : Str, atI [V.str "nothing", .str "number", .str "text", .str "code", .str "cell", .str "service"] k = some (.str z) ∧ PyData.strOk z = true ∧ inV (.str z) [.str "nothing", .str "number", .str "text", .str "code", .str "cell", .str "service"] = true := by
  rcases (by omega : k = 0 ∨ k = 1 ∨ k = 2 ∨ k = 3 ∨ k = 4 ∨ k = 5) with rfl | rfl | rfl | rfl | rfl | rfl <;> exact ⟨_, rfl, by decide +kernel, by rfl⟩
theorem fit_two {a b : Prop} [Decidable a] [Decidable b] (h1 : a) (h2 : b) : (decide a && decide b) = true := by rw [decide_eq_true h1, decide_eq_true h2]; rfl
def spOperand (K : PySem.W.Frag) : Sp := fun vs H Q _ => ∃ (dk : Addr) (l : Str) (bh many : Int), vs = [.ref dk, .str l, .int bh, .int many] ∧ H dk = some (Dk.DkO dk) ∧ Ltr l ∧ 0 ≤ bh ∧ bh ≤ 10000 ∧ 1 ≤ many ∧ many ≤ 10000 ∧ ∀ v H' o, Evl.Ex H H' → Dp K H' v o → OpT l o → ValOk o → fitB l o bh many = true → Q v H'
theorem ok_law_operand {ad : Ad} (T : Txt K w mg ad) : FnOk P w K mg base CX0 3 ad.a_law_operand ad.d_law_operand ["deck", "letter", "behind", "many"] (spOperand K) := by
  refine T.F_law_operand.ok sc_law_operand (fun vs H Q E h => ?_) (fun cdv A outer s H vs Q E hr h => ?_)
  · obtain ⟨dk, l, bh, many, rfl, hD, hl, b0, b1, m0, m1, k⟩ := h
    rfl
  · obtain ⟨dk, l, bh, many, rfl, hD, hl, b0, b1, m0, m1, k⟩ := h
    refine ⟨_, (pss_cons (ps_if (pt_cmpR op_eq (pv 1) pe_str (nomark _)) (pss_one (ps_ret (pe_ix ix_list (pe_lst (pa_cons (pe_call (ok_law_take T) (hr.mono (by decide)) rfl T.m_law_take T.F_law_take.kp T.b_law_take .nil pass0 (pa_cons (pv 0) (pa_cons pe_int pa_nil))) (pa_cons (pe_call (ok_law_take T) (hr.mono (by decide)) rfl T.m_law_take T.F_law_take.kp T.b_law_take .nil pass0 (pa_cons (pv 0) (pa_cons pe_int pa_nil))) (pa_cons pe_int (pa_cons pe_int (pa_cons pe_int (pa_cons pe_int pa_nil))))))) (pe_call (ok_law_take T) (hr.mono (by decide)) rfl T.m_law_take T.F_law_take.kp T.b_law_take .nil pass0 (pa_cons (pv 0) (pa_cons pe_int pa_nil))) (fun _ _ => rfl)))) pss_nil)
      (pss_cons (ps_if (pt_cmpR op_eq (pv 1) pe_str (nomark _)) (pss_one (ps_ret (pe_ix ix_list (pe_lst (pa_cons (pe_call (ok_law_take T) (hr.mono (by decide)) rfl T.m_law_take T.F_law_take.kp T.b_law_take .nil pass0 (pa_cons (pv 0) (pa_cons pe_int pa_nil))) (pa_cons (pe_call (ok_law_take T) (hr.mono (by decide)) rfl T.m_law_take T.F_law_take.kp T.b_law_take .nil pass0 (pa_cons (pv 0) (pa_cons pe_int pa_nil))) (pa_cons pe_int pa_nil)))) (pe_call (ok_law_take T) (hr.mono (by decide)) rfl T.m_law_take T.F_law_take.kp T.b_law_take .nil pass0 (pa_cons (pv 0) (pa_cons pe_int pa_nil))) (fun _ _ => rfl)))) pss_nil)
      (pss_cons (ps_if (pt_cmpR op_eq (pv 1) pe_str (nomark _)) (pss_one (ps_ret (pe_call (ok_law_take T) (hr.mono (by decide)) rfl T.m_law_take T.F_law_take.kp T.b_law_take .nil pass0 (pa_cons (pv 0) (pa_cons (pv 3) pa_nil))))) pss_nil)
      (pss_cons (ps_if (pt_cmpR op_eq (pv 1) pe_str (nomark _)) (pss_one (ps_ret (pe_ix ix_list (pe_lst (pa_cons (pe_call (ok_law_take T) (hr.mono (by decide)) rfl T.m_law_take T.F_law_take.kp T.b_law_take .nil pass0 (pa_cons (pv 0) (pa_cons (pe_op op_add (pv 2) pe_int) pa_nil))) (pa_cons (pv 2) (pa_cons pe_int pa_nil)))) (pe_call (ok_law_take T) (hr.mono (by decide)) rfl T.m_law_take T.F_law_take.kp T.b_law_take .nil pass0 (pa_cons (pv 0) (pa_cons pe_int pa_nil))) (fun _ _ => rfl)))) pss_nil)
      (pss_cons (ps_if (pt_cmpR op_eq (pv 1) pe_str (nomark _)) (pss_one (ps_ret (pe_ix ix_list (pe_lst (pa_cons pe_str (pa_cons pe_str (pa_cons pe_str (pa_cons pe_str (pa_cons pe_str (pa_cons pe_str pa_nil))))))) (pe_call (ok_law_take T) (hr.mono (by decide)) rfl T.m_law_take T.F_law_take.kp T.b_law_take .nil pass0 (pa_cons (pv 0) (pa_cons pe_int pa_nil))) (fun _ _ => rfl)))) pss_nil)
      (pss_cons (ps_if (pt_cmpR op_eq (pv 1) pe_str (nomark _)) (pss_one (ps_ret (pe_ix ix_list (pe_lst (pa_cons (pe_call (ok_law_take T) (hr.mono (by decide)) rfl T.m_law_take T.F_law_take.kp T.b_law_take .nil pass0 (pa_cons (pv 0) (pa_cons pe_int pa_nil))) (pa_cons (pe_call (ok_law_take T) (hr.mono (by decide)) rfl T.m_law_take T.F_law_take.kp T.b_law_take .nil pass0 (pa_cons (pv 0) (pa_cons pe_int pa_nil))) pa_nil))) (pe_call (ok_law_take T) (hr.mono (by decide)) rfl T.m_law_take T.F_law_take.kp T.b_law_take .nil pass0 (pa_cons (pv 0) (pa_cons pe_int pa_nil))) (fun _ _ => rfl)))) pss_nil)
      (pss_one (ps_ret (pe_call (ok_law_value T) (hr.mono (by decide)) rfl T.m_law_value T.F_law_value.kp T.b_law_value .nil pass0 (pa_cons (pv 0) pa_nil)))))))))), ?_⟩
    try dsimp only [L2.cxOf, L2.Cx.nox, L2.Cx.wish]
    change (_ : TS) _ ([some (.ref dk), some (.str l), some (.int bh), some (.int many)] : St) _
    have kI : ∀ (i : Int) H', IntL l → Evl.Ex H H' → fitB l (.int i) bh many = true → Q (.int i) H' := fun i H' h e f => k _ H' (.int i) e (.int i) (.inr (.inr ⟨h, i, rfl⟩)) (valok_int i) f
    rcases hl with rfl | rfl | rfl | rfl | rfl | rfl | rfl
    · walk_at "rd"
      intro a a0 a1
      walk_at "rd"
      intro b c0 c1
      walk_at "rd"
      refine Rd.xlst rfl fun p H1 n1 e1 h1 => ?_
      have hD1 := e1 _ _ hD
      walk_at "rd"
      intro x x0 x1
      obtain ⟨y, hy, y0, y1⟩ : ∃ y : Int, atI [V.int a, .int b, .int 0, .int 7, .int 8, .int 255] x = some (.int y) ∧ 0 ≤ y ∧ y < 256 := by
        rcases (by omega : x = 0 ∨ x = 1 ∨ x = 2 ∨ x = 3 ∨ x = 4 ∨ x = 5) with rfl | rfl | rfl | rfl | rfl | rfl <;> exact ⟨_, rfl, by omega, by omega⟩
      refine Rd.ixL (SqL.of h1) hy ?_
      exact kI y H1 (.inl rfl) e1 (by rw [fit_r]; exact fit_two y0 y1)
    · walk_at "rd"
      intro a a0 a1
      exact kI a H (.inr (.inl rfl)) (Evl.Ex.refl _) (by rw [fit_b]; exact fit_two a0 a1)
    · walk_at "rd"
      intro a a0 a1
      walk_at "rd"
      intro b c0 c1
      walk_at "rd"
      refine Rd.xlst rfl fun p H1 n1 e1 h1 => ?_
      have hD1 := e1 _ _ hD
      walk_at "rd"
      intro x x0 x1
      obtain ⟨y, hy, y0, y1⟩ : ∃ y : Int, atI [V.int a, .int b, .int 999] x = some (.int y) ∧ 0 ≤ y ∧ y < 1000 := by
        rcases (by omega : x = 0 ∨ x = 1 ∨ x = 2) with rfl | rfl | rfl <;> exact ⟨_, rfl, by omega, by omega⟩
      refine Rd.ixL (SqL.of h1) hy ?_
      exact kI y H1 (.inr (.inr (.inl rfl))) e1 (by rw [fit_k]; exact fit_two y0 y1)
    · walk_at "rd"
      intro a a0 a1
      walk_at "rd"
      refine Rd.xlst rfl fun p H1 n1 e1 h1 => ?_
      have hD1 := e1 _ _ hD
      walk_at "rd"
      intro x x0 x1
      obtain ⟨y, hy, y0, y1⟩ : ∃ y : Int, atI [V.int a, .int bh, .int 0] x = some (.int y) ∧ 0 ≤ y ∧ y ≤ bh := by
        rcases (by omega : x = 0 ∨ x = 1 ∨ x = 2) with rfl | rfl | rfl <;> exact ⟨_, rfl, by omega, by omega⟩
      refine Rd.ixL (SqL.of h1) hy ?_
      exact kI y H1 (.inr (.inr (.inr (.inl rfl)))) e1 (by rw [fit_n]; exact fit_two y0 y1)
    · walk_at "rd"
      intro a a0 a1
      walk_at "rd"
      intro b c0 c1
      walk_at "rd"
      refine Rd.xlst rfl fun p H1 n1 e1 h1 => ?_
      have hD1 := e1 _ _ hD
      walk_at "rd"
      intro x x0 x1
      obtain ⟨y, hy, y0⟩ : ∃ y : Int, atI [V.int a, .int b] x = some (.int y) ∧ 0 ≤ y := by
        rcases (by omega : x = 0 ∨ x = 1) with rfl | rfl <;> exact ⟨_, rfl, by omega⟩
      refine Rd.ixL (SqL.of h1) hy ?_
      exact kI y H1 (.inr (.inr (.inr (.inr rfl)))) e1 (by rw [fit_m]; exact decide_eq_true y0)
    · walk_at "rd"
      refine Rd.xlst rfl fun p H1 n1 e1 h1 => ?_
      have hD1 := e1 _ _ hD
      walk_at "rd"
      intro x x0 x1
      obtain ⟨z, hz, hzo, hzi⟩ := w6_at x0 x1
      refine Rd.ixL (SqL.of h1) hz ?_
      exact k _ H1 (.str z) e1 (.str z) (.inr (.inl ⟨rfl, z, rfl⟩)) (valok_str hzo) (by rw [fit_w]; exact hzi)
    · walk_at "rd"
      exact ⟨dk, rfl, hD, fun v H' o e hv ok => k v H' o e hv (.inl rfl) ok (fit_v _ _ _)⟩
def CmdG (c : Cmd) (bh bs : Int) : Prop := CmdT c ∧ okC c bh bs ∧ (∀ o ∈ c.2, ValOk o) ∧ c.2.length ≤ 3
theorem kvOf_one {w sh : Str} : ∀ l : List (Str × Str), (w, sh) ∈ l → (∀ p ∈ l, p.1 = w → p.2 = sh) → valV (kvOf l) (.inr w) = some (.str sh)
  | [], h, _ => by cases h
  | p :: l, h, f => by
    show valV ((Sum.inr p.1, V.str p.2) :: kvOf l) _ = _
    by_cases e : p.1 = w
    · rw [valV_pos (by rw [e]), f p List.mem_cons_self e]
    · rw [valV_neg (fun z => e (Sum.inr.inj z))]
      refine kvOf_one l ?_ fun q hq => f q (List.mem_cons_of_mem _ hq)
      rcases List.mem_cons.mp h with h | h
      · rw [← h] at e; exact (e rfl).elim
      · exact h
theorem kvOf_get {w sh : Str} (h : Shp w sh) : valV shKV (.inr w) = some (.str sh) := kvOf_one _ h fun p hp e => by
  obtain ⟨a, b⟩ := p
  have e : a = w := e
  subst e
  exact shp_fun hp h
def shNames : List Str := tab_SHAPES.map (·.1)
theorem sh_keys : (shKV.map fun kv => kV kv.1) = shNames.map V.str := by rfl
theorem inL {K : PySem.W.Frag} {H : Hp} {Q : VK} {x : V} {p : Addr} {xs : List V} {b : Bool} (h : SqL K H p xs) (hx : flatV x = true) (ha : xs.all flatV = true) (hb : inV x xs = b) (q : Q (.bl b) H) : rIn K false x (.ref p) H Q := ⟨p, xs, rfl, .inl h, hx, ha, by rw [hb]; exact q⟩
theorem shp_name {z : Str} (h : z ∈ shNames) : ∃ sh, Shp z sh := by
  obtain ⟨p, hp, rfl⟩ := List.mem_map.mp h
  exact ⟨p.2, hp⟩
def spCommand (K : PySem.W.Frag) : Sp := fun vs H Q _ => ∃ (dk sh : Addr) (bh many : Int) (vb : Bool), vs = [.ref dk, .ref sh, .int bh, .int many, .bl vb] ∧ H dk = some (Dk.DkO dk) ∧ H sh = some (.dK shKV) ∧ 0 ≤ bh ∧ bh ≤ 10000 ∧ 1 ≤ many ∧ many ≤ 10000 ∧ ∀ p H' c, Evl.Ex H H' → Dp K H' (.ref p) (cmdD c) → CmdG c bh many → Q (.ref p) H'
theorem ok_law_command {ad : Ad} (T : Txt K w mg ad) : FnOk P w K mg base CX0 4 ad.a_law_command ad.d_law_command ["deck", "shapes", "behind", "many", "verdicts"] (spCommand K) := by
  refine T.F_law_command.ok sc_law_command (fun vs H Q E h => ?_) (fun cdv A outer s H vs Q E hr h => ?_)
  · obtain ⟨dk, sh, bh, many, vb, rfl, hD, hs, b0, b1, m0, m1, k⟩ := h
    rfl
  · obtain ⟨dk, sh, bh, many, vb, rfl, hD, hs, b0, b1, m0, m1, k⟩ := h
    refine ⟨_, (pss_cons (ps_set (i := 5) sc_law_command.nd rfl (Or.inl rfl) (pe_callB (id := "sorted") cr_sortedS (by rfl) T.z_sorted (by decide +kernel) (pa_cons (Rd.pe_listKeys rfl (by rfl) T.z_list (pv 1)) pa_nil)))
      (pss_cons (ps_set (i := 6) sc_law_command.nd rfl (Or.inl rfl) (pe_ix ix_list (pv 5) (pe_call (ok_law_take T) (hr.mono (by decide)) rfl T.m_law_take T.F_law_take.kp T.b_law_take .nil pass0 (pa_cons (pv 0) (pa_cons (pe_callB (id := "len") Rd.c_len (by rfl) T.z_len (by decide +kernel) (pa_cons (pv 5) pa_nil)) pa_nil))) (fun _ _ => rfl)))
      (Evl.pss_cut (ps_if (PW.pt (pw_and (pt_not (pt_val (pv 4))) (pw_and1 (pt_cmpR op_in_seq (pv 6) (pe_lst (pa_cons pe_str (pa_cons pe_str pa_nil))) (by with_unfolding_all rfl))))) (pss_one (ps_set (i := 6) sc_law_command.nd rfl (Or.inl rfl) pe_str)) pss_nil)
      (pss_cons (ps_set (i := 7) sc_law_command.nd rfl (Or.inl rfl) (pe_lst (pa_cons (pv 6) pa_nil)))
      (pss_cons (ps_for PassesOwn.never rfl (pi_str (pe_dget (hu_of hr) (pv 1) (pv 6) (fun _ _ => rfl))) (pg_name (i := 8) sc_law_command.nd rfl (Or.inl rfl)) (pss_one (ps_expr (pe_bm PySem.F.plainAttrs_list PySem.F.slot_list_append PySem.F.type_list_append mt_append (pv 7) (pa_cons (pe_call (ok_law_operand T) (hr.mono (by decide)) rfl T.m_law_operand T.F_law_operand.kp T.b_law_operand .nil pass0 (pa_cons (pv 0) (pa_cons (pv 8) (pa_cons (pv 2) (pa_cons (pv 3) pa_nil))))) pa_nil)))))
      (pss_one (ps_ret (pe_callTy (T := "tuple") Rd.c_tup (by rfl) T.z_tuple (by decide +kernel) (pa_cons (pv 7) pa_nil))))))))), ?_⟩
    try dsimp only [L2.cxOf, L2.Cx.nox, L2.Cx.wish]
    change (_ : TS) _ ([some (.ref dk), some (.ref sh), some (.int bh), some (.int many), some (.bl vb), none, none, none, none] : St) _
    have cl_Program := T.cl_Program
    have n_Program_bodies := T.n_Program_bodies
    have n_Program_room := T.n_Program_room
    walk_at "rd"
    refine ⟨sh, shKV, rfl, hs, fun p1 n1 => ?_⟩
    rw [sh_keys]
    have e1 : Evl.Ex H (upd H p1 (.lst (shNames.map V.str))) := Evl.Ex.new n1
    have h1 : (upd H p1 (.lst (shNames.map V.str))) p1 = some (.lst (shNames.map V.str)) := upd_same
    generalize upd H p1 (.lst (shNames.map V.str)) = H1 at *
    walk_at "rd"
    refine Rd.sortS (SqL.of h1) (by decide) fun zs p2 H2 hperm n2 e2 h2 => ?_
    have hzl : zs.length = 21 := hperm.length_eq
    have hD2 := e2 _ _ (e1 _ _ hD)
    have hs2 := e2 _ _ (e1 _ _ hs)
    walk_at "rd"
    refine Rd.take hD2 (by rw [List.length_map]; omega) ?_
    intro x x0 x1
    have hx2 : x.toNat < zs.length := by rw [List.length_map] at x1; omega
    obtain ⟨sw, hsw⟩ := shp_name (hperm.mem_iff.mp (List.getElem_mem hx2))
    refine Rd.ixL (SqL.of h2) (Rd.atI_i x0 (by rw [List.getElem?_map, List.getElem?_eq_getElem hx2]; rfl)) ?_
    generalize zs[x.toNat]'hx2 = wd at *
    walk_at "rd"
    refine ⟨fun σ H' => ∃ w1 sw, Shp w1 sw ∧ σ = [some (.ref dk), some (.ref sh), some (.int bh), some (.int many), some (.bl vb), some (.ref p2), some (.str w1), none, none] ∧ Evl.Ex H2 H', ?_, ?_⟩
    · walk_at "rd"
      cases vb with
      | true =>
        walk_at "rd"
        exact ⟨wd, sw, hsw, rfl, Evl.Ex.refl _⟩
      | false =>
        walk_at "rd"
        refine Rd.xlst rfl fun p3 H3 n3 e3 h3 => ?_
        refine inL (SqL.of h3) rfl rfl rfl ?_
        walk_at "rd"
        refine Rd.ifb (fun hb => ?_) (fun hb => ?_)
        · walk_at "rd"
          exact ⟨"skip", "n", by unfold Shp tab_SHAPES; simp, rfl, e3⟩
        · walk_at "rd"
          exact ⟨wd, sw, hsw, rfl, e3⟩
    · rintro σ H3 ⟨w1, s1, hw1, rfl, e3⟩
      have hD3 := e3 _ _ hD2
      have hs3 := e3 _ _ hs2
      have hsl := shp_len hw1
      have hszl : s1.cps.size = s1.length := rfl
      walk_at "rd"
      refine Rd.xlst rfl fun pc H4 n4 e4 h4 => ?_
      have hD4 := e4 _ _ hD3
      walk_at "rd"
      refine Rd.xdgetS (e4 _ _ hs3) (kvOf_get hw1) ?_
      refine Rd.xfs (fun i σ H' => ∃ (us : List V) (os : List PyData) (v8 : Option V), σ = [some (.ref dk), some (.ref sh), some (.int bh), some (.int many), some (.bl vb), some (.ref p2), some (.str w1), some (.ref pc), v8] ∧ Evl.Ex H3 H' ∧ H' pc = some (.lst (.str w1 :: us)) ∧ DpAll K H' us os ∧ os.length = i ∧ (∀ o ∈ os, ValOk o) ∧ ∀ (j : Nat) l o, (ltrs s1)[j]? = some l → os[j]? = some o → OpT l o ∧ fitB l o bh many = true)
        ⟨[], [], none, rfl, e4, h4, .nil, rfl, (fun _ h => nomatch h), fun j l o _ h => nomatch h⟩ ?_ ?_
      · rintro i ch σ H5 hch ⟨us, os, v8, rfl, e5, h5, hA5, hol, hov, hof⟩
        have hD5 := e5 _ _ hD3
        have hic : s1.cps.toList[i]? = some ch := by rw [Array.getElem?_toList]; exact hch
        have hil : i < s1.length := (Array.getElem?_eq_some_iff.mp hch).1
        have hlt := at_ltr hic
        walk_at "rd"
        refine ⟨dk, ⟨#[ch]⟩, bh, many, rfl, hD5, shp_let hw1 (List.mem_of_getElem? hlt), b0, b1, m0, m1, fun v H6 o e6 hv hot hok hft => ?_⟩
        have hul := Dt.lenA hA5
        walk_at "rd"
        refine Rd.append (e6 _ _ h5) (by rw [List.length_cons]; omega) ?_
        walk_at "rd"
        refine ⟨us ++ [v], os ++ [o], _, rfl, Evl.Ex.mut (e5.trans e6) n4, upd_same, Dt.updLA (e6 _ _ h5) _ _ (fun d hd => ?_) (Dt.snocA (Dt.mnA hA5 e6) hv), by rw [List.length_append, hol]; rfl, fun d hd => ?_, fun j l o' hjl hjo => ?_⟩
        · rcases List.mem_append.mp hd with h | h
          · exact (hov d h).1
          · cases List.mem_singleton.mp h
            exact hok.1
        · rcases List.mem_append.mp hd with h | h
          · exact hov d h
          · cases List.mem_singleton.mp h
            exact hok
        · by_cases hj : j < os.length
          · rw [List.getElem?_append_left hj] at hjo
            exact hof j l o' hjl hjo
          · have e : j = i := by
              have := (List.getElem?_eq_some_iff.mp hjo).1
              rw [List.length_append] at this
              simp at this
              omega
            subst e
            rw [List.getElem?_append_right (by omega), hol, Nat.sub_self] at hjo
            cases hjo
            rw [hlt] at hjl
            cases hjl
            exact ⟨hot, hft⟩
      · rintro σ H5 ⟨us, os, v8, rfl, e5, h5, hA5, hol, hov, hof⟩
        walk_at "rd"
        intro q H6 n6 e6 h6
        refine k _ _ (w1, os) ((((e1.trans e2).trans e3).trans e5).trans e6) (Dt.ofT h6 (.cons (.str _) (Dt.mnA hA5 e6))) ⟨.inr ⟨s1, hw1, fun _ i l o h1 h2 => (hof i l o h1 h2).1⟩, ⟨s1, hw1, hol, fun i l o h1 h2 => (hof i l o h1 h2).2⟩, hov, ?_⟩
        show os.length ≤ 3
        omega
/-! split -/
/-! a list's address taken out of the heap -/
def er (H : Hp) (D : Addr) : Hp := fun a => if a = D then none else H a
theorem er_D (H : Hp) (D : Addr) : er H D D = none := if_pos rfl
theorem er_ne {H : Hp} {D a : Addr} (h : a ≠ D) : er H D a = H a := if_neg h
theorem er_ex (H : Hp) (D : Addr) : Evl.Ex (er H D) H := fun a o h => by
  by_cases e : a = D
  · subst e; rw [er_D] at h; cases h
  · rwa [er_ne e] at h
theorem er_of {G H : Hp} {D : Addr} (e : Evl.Ex G H) (n : G D = none) : Evl.Ex G (er H D) := fun a o h => by
  have : a ≠ D := fun z => by subst z; rw [n] at h; cases h
  rw [er_ne this]
  exact e _ _ h
theorem er_sq {K : PySem.W.Frag} {H : Hp} {D a : Addr} {acc xs : List V} (h : SqT K H a xs) (hD : H D = some (.lst acc)) : SqT K (er H D) a xs := by
  rcases h with (s | ⟨ob, s⟩) | s
  · exact .inl (.inl (by rw [er_ne (fun z => by subst z; rw [hD] at s; cases s)]; exact s))
  · exact .inl (.inr ⟨ob, by rw [er_ne (fun z => by subst z; rw [hD] at s; cases s)]; exact s⟩)
  · exact .inr s
mutual
theorem er_dp {K : PySem.W.Frag} {H : Hp} {D : Addr} {acc : List V} (hD : H D = some (.lst acc)) : ∀ (d : PyData) (v : V), Dt.noL d = true → Dp K H v d → Dp K (er H D) v d
  | .none, _, _, h1 => by cases h1; exact .non
  | .bool b, _, _, h1 => by cases h1; exact .bl b
  | .int i, _, _, h1 => by cases h1; exact .int i
  | .str x, _, _, h1 => by cases h1; exact .str x
  | .list _, _, n, _ => by simp [Dt.noL] at n
  | .tuple ds, _, n, h1 => by
    cases h1 with
    | tup hs ha => exact .tup (er_sq hs hD) (er_dpA hD ds _ (by simpa [Dt.noL] using n) ha)
  | .dict _, _, _, h1 => by cases h1
theorem er_dpA {K : PySem.W.Frag} {H : Hp} {D : Addr} {acc : List V} (hD : H D = some (.lst acc)) : ∀ (ds : List PyData) (vs : List V), (∀ d ∈ ds, Dt.noL d = true) → DpAll K H vs ds → DpAll K (er H D) vs ds
  | [], _, _, h1 => by cases h1; exact .nil
  | d :: ds, _, n, h1 => by
    cases h1 with
    | cons h2 h3 => exact .cons (er_dp hD d _ (n d List.mem_cons_self) h2) (er_dpA hD ds _ (fun d hd => n d (List.mem_cons_of_mem _ hd)) h3)
end

theorem cmd_noL {c : Cmd} (h : ∀ o ∈ c.2, ValOk o) : Dt.noL (cmdD c) = true := by
  simp [cmdD, Dt.noL]
  exact fun o ho => (h o ho).1
theorem cmds_of {ds : List PyData} {n : Nat} {R : Nat → Cmd → Prop} (hl : ds.length = n) (h : ∀ (i : Nat) d, ds[i]? = some d → ∃ c, d = cmdD c ∧ R i c) : ∃ b : List Cmd, ds = b.map cmdD ∧ b.length = n ∧ ∀ (i : Nat) c, b[i]? = some c → R i c := by
  induction ds generalizing n R with
  | nil => exact ⟨[], rfl, hl, fun i c h => nomatch h⟩
  | cons d ds ih =>
    obtain ⟨c, rfl, hc⟩ := h 0 d rfl
    obtain ⟨b, rfl, hb, hR⟩ := ih (n := ds.length) (R := fun i => R (i + 1)) rfl fun i d hd => h (i + 1) d hd
    refine ⟨c :: b, rfl, by rw [List.length_cons, hb]; exact hl, fun i c' hc' => ?_⟩
    cases i with
    | zero => cases hc'; exact hc
    | succ i => exact hR i c' hc'
structure BodsG (bs : List (List Cmd)) (most : Int) : Prop where
  one : 1 ≤ bs.length
  four : bs.length ≤ 4
  sz : ∀ b ∈ bs, (b.length : Int) ≤ most
  cmd : ∀ b ∈ bs, ∀ (i : Nat) c, b[i]? = some c → CmdG c ((b.length : Int) - i - 1) bs.length
theorem BodA.upd {K : PySem.W.Frag} {H : Hp} {p : Addr} {as : List Addr} {bs : List (List Cmd)} {ws : List V} {o : HO} (h : BodA K H as bs) (hp : H p = some (.lst ws)) (hne : ∀ a ∈ as, a ≠ p) (hno : ∀ b ∈ bs, ∀ c ∈ b, ∀ o ∈ c.2, ValOk o) : BodA K (L2.upd H p o) as bs := ⟨h.len, fun k a b h1 h2 => by
  obtain ⟨vs, h3, h4⟩ := h.rw k a b h1 h2
  refine ⟨vs, (upd_ne (hne a (List.mem_of_getElem? h1))).trans h3, Dt.updLA hp _ _ (fun d hd => ?_) h4⟩
  obtain ⟨c, hc, rfl⟩ := List.mem_map.mp hd
  exact cmd_noL (hno b (List.mem_of_getElem? h2) c hc)⟩
theorem BodA.snoc {K : PySem.W.Frag} {H : Hp} {as : List Addr} {bs : List (List Cmd)} {a : Addr} {b : List Cmd} {vs : List V} (h : BodA K H as bs) (ha : H a = some (.lst vs)) (hd : DpAll K H vs (b.map cmdD)) : BodA K H (as ++ [a]) (bs ++ [b]) := ⟨by rw [List.length_append, List.length_append, h.len]; rfl, fun k a' b' h1 h2 => by
  by_cases hk : k < as.length
  · rw [List.getElem?_append_left hk] at h1
    rw [List.getElem?_append_left (by rw [← h.len]; exact hk)] at h2
    exact h.rw k a' b' h1 h2
  · have hl := h.len
    rw [List.getElem?_append_right (by omega)] at h1 h2
    have : k - as.length = 0 := by
      have := (List.getElem?_eq_some_iff.mp h1).1
      simp at this
      omega
    rw [this] at h1
    rw [show k - bs.length = 0 from by omega] at h2
    cases h1
    cases h2
    exact ⟨vs, ha, hd⟩⟩
def spBodies (K : PySem.W.Frag) : Sp := fun vs H Q _ => ∃ (dk sh : Addr) (most : Int) (vb : Bool), vs = [.ref dk, .ref sh, .int most, .bl vb] ∧ H dk = some (Dk.DkO dk) ∧ H sh = some (.dK shKV) ∧ 0 ≤ most ∧ most ≤ 1000 ∧ ∀ p H' as bs, H p = none → Evl.Ex H H' → H' p = some (.lst (as.map V.ref)) → BodA K H' as bs → (∀ a ∈ as, a ≠ p) → BodsG bs most → Q (.ref p) H'
theorem ok_law_bodies {ad : Ad} (T : Txt K w mg ad) : FnOk P w K mg base CX0 5 ad.a_law_bodies ad.d_law_bodies ["deck", "shapes", "most", "verdicts"] (spBodies K) := by
  refine T.F_law_bodies.ok sc_law_bodies (fun vs H Q E h => ?_) (fun cdv A outer s H vs Q E hr h => ?_)
  · obtain ⟨dk, sh, most, vb, rfl, hD, hs, m0, m1, k⟩ := h
    rfl
  · obtain ⟨dk, sh, most, vb, rfl, hD, hs, m0, m1, k⟩ := h
    refine ⟨_, (pss_cons (ps_set (i := 4) sc_law_bodies.nd rfl (Or.inr rfl) (pe_op op_add pe_int (pe_call (ok_law_take T) (hr.mono (by decide)) rfl T.m_law_take T.F_law_take.kp T.b_law_take .nil pass0 (pa_cons (pv 0) (pa_cons pe_int pa_nil)))))
      (pss_cons (ps_set (i := 5) sc_law_bodies.nd rfl (Or.inl rfl) (pe_lst pa_nil))
      (pss_cons (ps_for PassesOwn.never rfl (pi_range1 rfl T.z_range (pa_cons (pv 4) pa_nil)) (pg_name (i := 6) sc_law_bodies.nd rfl (Or.inl rfl)) (pss_cons (ps_set (i := 7) sc_law_bodies.nd rfl (Or.inr rfl) (pe_call (ok_law_take T) (hr.mono (by decide)) rfl T.m_law_take T.F_law_take.kp T.b_law_take .nil pass0 (pa_cons (pv 0) (pa_cons (pe_op op_add (pv 2) pe_int) pa_nil))))
      (pss_one (ps_expr (pe_bm PySem.F.plainAttrs_list PySem.F.slot_list_append PySem.F.type_list_append mt_append (pv 5) (pa_cons (pe_lc (own := [("at", 8)]) (g := gName 8) (tt := tYes) rfl sc_law_bodies.nd (pi_range1 rfl T.z_range (pa_cons (pv 7) pa_nil)) (blkOk_by (N := ["deck", "shapes", "most", "verdicts", "many", "bodies", "number", "size", "at"]) (sc := (defScope s_law_bodies)) (by decide +kernel)) (fun _ _ _ _ _ => (pg_name (i := 8) sc_law_bodies.nd rfl (Or.inl rfl))) (fun _ _ _ _ _ => pts_nil) (fun _ _ _ _ _ => (pe_call (ok_law_command T) (hr.mono (by decide)) rfl T.m_law_command T.F_law_command.kp T.b_law_command .nil pass0 (pa_cons (pv 0) (pa_cons (pv 1) (pa_cons (pe_op op_sub (pe_op op_sub (pv 7) (pv 8)) pe_int) (pa_cons (pv 4) (pa_cons (pv 3) pa_nil)))))))) pa_nil))))))
      (pss_one (ps_ret (pv 5)))))), ?_⟩
    try dsimp only [L2.cxOf, L2.Cx.nox, L2.Cx.wish]
    change (_ : TS) _ ([some (.ref dk), some (.ref sh), some (.int most), some (.bl vb), none, none, none, none, none] : St) _
    have cl_Program := T.cl_Program
    have n_Program_bodies := T.n_Program_bodies
    have n_Program_room := T.n_Program_room
    walk_at "rd"
    intro t t0 t1
    walk_at "rd"
    refine Rd.xlst rfl fun p H1 n1 e1 h1 => ?_
    walk_at "rd"
    obtain ⟨mn, hmn⟩ : ∃ mn : Nat, 1 + t = (mn : Int) := ⟨(1 + t).toNat, by omega⟩
    refine Rd.xfr1 ⟨by omega, by omega⟩ (fun i σ H' => ∃ (as : List Addr) (bs : List (List Cmd)) (v6 v7 v8 : Option V), σ = [some (.ref dk), some (.ref sh), some (.int most), some (.bl vb), some (.int (1 + t)), some (.ref p), v6, v7, v8] ∧ Evl.Ex H H' ∧ H' p = some (.lst (as.map V.ref)) ∧ BodA K H' as bs ∧ bs.length = i ∧ (∀ a ∈ as, a ≠ p) ∧ (∀ b ∈ bs, (b.length : Int) ≤ most) ∧ ∀ b ∈ bs, ∀ (i : Nat) c, b[i]? = some c → CmdG c ((b.length : Int) - i - 1) (1 + t))
      ⟨[], [], none, none, none, rfl, e1, h1, ⟨rfl, fun k a b h => nomatch h⟩, rfl, (fun _ h => nomatch h), (fun _ h => nomatch h), fun _ h => nomatch h⟩ ?_ ?_
    · rintro i σ H2 hi ⟨as, bs, v6, v7, v8, rfl, e2, h2, hB, hbl, hne, hsz, hg⟩
      have hD2 := e2 _ _ hD
      have hs2 := e2 _ _ hs
      walk_at "rd"
      intro z z0 z1
      obtain ⟨sz, rfl⟩ := Int.eq_ofNat_of_zero_le z0
      walk_at "rd"
      refine Rd.xlcGR (K := K) (fun i d => ∃ c, d = cmdD c ∧ CmdG c ((sz : Int) - (i : Int) - 1) (1 + t)) ⟨by omega, by omega⟩ (fun _ => rfl) ?_ ?_
      · intro j D G H3 acc hj hDn a1 a2 gD hacc Q' kq
        have e3 := a1.trans a2
        walk_at "rd"
        refine ⟨dk, sh, (sz : Int) - j - 1, 1 + t, vb, rfl, e3 _ _ hD2, e3 _ _ hs2, by omega, by omega, by omega, by omega, fun q H4 c e4 hq hc => ?_⟩
        exact kq _ H4 (er H4 D) _ (er_of (a2.trans e4) gD) (er_ex _ _) (er_D _ _) e4 (er_dp (e4 _ _ hacc) _ _ (cmd_noL hc.2.2.1) hq) ⟨c, rfl, hc⟩
      · intro q G H3 ys ds nq a1 a2 gq hq hA hl hR
        obtain ⟨b, rfl, hbz, hbR⟩ := cmds_of (n := sz) (by simpa using hl) hR
        have e3 := a1.trans a2
        walk_at "rd"
        refine Rd.append (e3 _ _ h2) (by rw [List.length_map, hB.len]; omega) ?_
        walk_at "rd"
        have hno : ∀ b' ∈ bs ++ [b], ∀ c ∈ b', ∀ o ∈ c.2, ValOk o := fun b' hb' c hc => by
          obtain ⟨i', hi'⟩ := List.getElem?_of_mem hc
          rcases List.mem_append.mp hb' with h | h
          · exact (hg b' h i' c hi').2.2.1
          · cases List.mem_singleton.mp h
            exact (hbR i' c hi').2.2.1
        have hqp : q ≠ p := fun z => by subst z; rw [h2] at nq; cases nq
        refine ⟨as ++ [q], bs ++ [b], _, _, _, rfl, Evl.Ex.mut (e2.trans e3) n1, by rw [upd_same, List.map_append]; rfl, BodA.upd (BodA.snoc (hB.ex e3) hq (Dt.mnA hA a2)) (e3 _ _ h2) (fun a ha => ?_) hno, by rw [List.length_append, hbl]; rfl, fun a ha => ?_, fun b' hb' => ?_, fun b' hb' => ?_⟩
        · rcases List.mem_append.mp ha with h | h
          · exact hne a h
          · cases List.mem_singleton.mp h; exact hqp
        · rcases List.mem_append.mp ha with h | h
          · exact hne a h
          · cases List.mem_singleton.mp h; exact hqp
        · rcases List.mem_append.mp hb' with h | h
          · exact hsz b' h
          · cases List.mem_singleton.mp h; omega
        · rcases List.mem_append.mp hb' with h | h
          · exact hg b' h
          · cases List.mem_singleton.mp h
            intro i' c hc
            have := hbR i' c hc
            rwa [← show (b.length : Int) = (sz : Int) from by omega] at this
    · rintro σ H2 ⟨as, bs, v6, v7, v8, rfl, e2, h2, hB, hbl, hne, hsz, hg⟩
      walk_at "rd"
      refine k p H2 as bs n1 e2 h2 hB hne ⟨by omega, by omega, hsz, fun b hb i c hc => ?_⟩
      have := hg b hb i c hc
      rwa [show (bs.length : Int) = 1 + t from by omega]

/-! split -/
/-! ### spoilt commands -/
def spBadOp (K : PySem.W.Frag) : Sp := fun vs H Q _ => ∃ (dk : Addr) (l : Str) (bh many : Int), vs = [.ref dk, .str l, .int bh, .int many] ∧ H dk = some (Dk.DkO dk) ∧ Ltr l ∧ l ≠ "v" ∧ ∀ v H' o, Evl.Ex H H' → Dp K H' v o → OpT l o → ValOk o → fitB l o bh many = false → Q v H'
theorem b4_at {k : Int} (h0 : 0 ≤ k) (h1 : k < 4) : ∃ z : Str, atI [V.str "thing", .str "", .str "Cell", .str "proxy"] k = some (.str z) ∧ PyData.strOk z = true ∧ inV (.str z) [.str "nothing", .str "number", .str "text", .str "code", .str "cell", .str "service"] = false := by
  rcases (by omega : k = 0 ∨ k = 1 ∨ k = 2 ∨ k = 3) with rfl | rfl | rfl | rfl <;> exact ⟨_, rfl, by decide +kernel, by rfl⟩
theorem fit_no1 {a b : Prop} [Decidable a] [Decidable b] (h1 : ¬ a) : (decide a && decide b) = false := by rw [decide_eq_false h1]; rfl
theorem fit_no2 {a b : Prop} [Decidable a] [Decidable b] (h1 : ¬ b) : (decide a && decide b) = false := by rw [decide_eq_false h1, Bool.and_false]
theorem fit_neg {l : Str} {i bh bs : Int} (hl : IntL l) (h : i < 0) : fitB l (.int i) bh bs = false := by
  rcases hl with rfl | rfl | rfl | rfl | rfl
  · rw [fit_r]; exact fit_no1 (by show ¬ 0 ≤ i; omega)
  · rw [fit_b]; exact fit_no1 (by show ¬ 0 ≤ i; omega)
  · rw [fit_k]; exact fit_no1 (by show ¬ 0 ≤ i; omega)
  · rw [fit_n]; exact fit_no1 (by show ¬ 0 ≤ i; omega)
  · rw [fit_m]; exact decide_eq_false (by show ¬ 0 ≤ i; omega)
theorem ok_law_bad_operand {ad : Ad} (T : Txt K w mg ad) : FnOk P w K mg base CX0 2 ad.a_law_bad_operand ad.d_law_bad_operand ["deck", "letter", "behind", "many"] (spBadOp K) := by
  refine T.F_law_bad_operand.ok sc_law_bad_operand (fun vs H Q E h => ?_) (fun cdv A outer s H vs Q E hr h => ?_)
  · obtain ⟨dk, l, bh, many, rfl, hD, hl, hv, k⟩ := h
    rfl
  · obtain ⟨dk, l, bh, many, rfl, hD, hl, hv, k⟩ := h
    refine ⟨_, (pss_cons (ps_set (i := 4) sc_law_bad_operand.nd rfl (Or.inl rfl) (pe_cmpR op_eq (pe_call (ok_law_take T) (hr.mono (by decide)) rfl T.m_law_take T.F_law_take.kp T.b_law_take .nil pass0 (pa_cons (pv 0) (pa_cons pe_int pa_nil))) pe_int (nomark _)))
      (pss_cons (ps_if (PW.pt (pw_and (pt_val (pv 4)) (pw_and1 (pt_cmpR op_ne (pv 1) pe_str (nomark _))))) (pss_one (ps_ret (pe_op op_sub (pe_un un_neg pe_int) (pe_call (ok_law_take T) (hr.mono (by decide)) rfl T.m_law_take T.F_law_take.kp T.b_law_take .nil pass0 (pa_cons (pv 0) (pa_cons pe_int pa_nil)))))) pss_nil)
      (pss_cons (ps_if (pt_cmpR op_eq (pv 1) pe_str (nomark _)) (pss_one (ps_ret (pe_ix ix_list (pe_lst (pa_cons pe_str (pa_cons pe_str (pa_cons pe_str (pa_cons pe_str pa_nil))))) (pe_call (ok_law_take T) (hr.mono (by decide)) rfl T.m_law_take T.F_law_take.kp T.b_law_take .nil pass0 (pa_cons (pv 0) (pa_cons pe_int pa_nil))) (fun _ _ => rfl)))) pss_nil)
      (pss_cons (ps_if (pt_cmpR op_eq (pv 1) pe_str (nomark _)) (pss_one (ps_ret (pe_op op_add pe_int (pe_call (ok_law_take T) (hr.mono (by decide)) rfl T.m_law_take T.F_law_take.kp T.b_law_take .nil pass0 (pa_cons (pv 0) (pa_cons pe_int pa_nil)))))) pss_nil)
      (pss_cons (ps_if (pt_cmpR op_eq (pv 1) pe_str (nomark _)) (pss_one (ps_ret (pe_op op_add pe_int (pe_call (ok_law_take T) (hr.mono (by decide)) rfl T.m_law_take T.F_law_take.kp T.b_law_take .nil pass0 (pa_cons (pv 0) (pa_cons pe_int pa_nil)))))) pss_nil)
      (pss_cons (ps_if (pt_cmpR op_eq (pv 1) pe_str (nomark _)) (pss_one (ps_ret (pe_op op_add (pv 3) (pe_call (ok_law_take T) (hr.mono (by decide)) rfl T.m_law_take T.F_law_take.kp T.b_law_take .nil pass0 (pa_cons (pv 0) (pa_cons pe_int pa_nil)))))) pss_nil)
      (pss_cons (ps_if (pt_cmpR op_eq (pv 1) pe_str (nomark _)) (pss_one (ps_ret (pe_op op_add (pe_op op_add (pv 2) pe_int) (pe_call (ok_law_take T) (hr.mono (by decide)) rfl T.m_law_take T.F_law_take.kp T.b_law_take .nil pass0 (pa_cons (pv 0) (pa_cons pe_int pa_nil)))))) pss_nil)
      (pss_one (ps_ret (pe_un un_neg pe_int)))))))))), ?_⟩
    try dsimp only [L2.cxOf, L2.Cx.nox, L2.Cx.wish]
    change (_ : TS) _ ([some (.ref dk), some (.str l), some (.int bh), some (.int many), none] : St) _
    have kI : ∀ (i : Int) H', IntL l → Evl.Ex H H' → fitB l (.int i) bh many = false → Q (.int i) H' := fun i H' h e f => k _ H' (.int i) e (.int i) (.inr (.inr ⟨h, i, rfl⟩)) (valok_int i) f
    walk_at "rd"
    intro t t0 t1
    walk_at "rd"
    by_cases hw : l = "w"
    · subst hw
      have wd : ∀ (v4 : Option V) (H0 : Hp), Evl.Ex H H0 → H0 dk = some (Dk.DkO dk) → True := fun _ _ _ _ => trivial
      by_cases ht : t = 0
      · subst ht
        walk_at "rd"
        refine Rd.xlst rfl fun p H1 n1 e1 h1 => ?_
        have hD1 := e1 _ _ hD
        walk_at "rd"
        intro x x0 x1
        obtain ⟨z, hz, hzo, hzi⟩ := b4_at x0 x1
        refine Rd.ixL (SqL.of h1) hz ?_
        exact k _ H1 (.str z) e1 (.str z) (.inr (.inl ⟨rfl, z, rfl⟩)) (valok_str hzo) (by rw [fit_w]; exact hzi)
      · walk_at "rd"
        refine Rd.xlst rfl fun p H1 n1 e1 h1 => ?_
        have hD1 := e1 _ _ hD
        walk_at "rd"
        intro x x0 x1
        obtain ⟨z, hz, hzo, hzi⟩ := b4_at x0 x1
        refine Rd.ixL (SqL.of h1) hz ?_
        exact k _ H1 (.str z) e1 (.str z) (.inr (.inl ⟨rfl, z, rfl⟩)) (valok_str hzo) (by rw [fit_w]; exact hzi)
    · have hI : IntL l := by
        rcases hl with h | h | h | h | h | h | h
        · exact .inl h
        · exact .inr (.inl h)
        · exact .inr (.inr (.inl h))
        · exact .inr (.inr (.inr (.inl h)))
        · exact .inr (.inr (.inr (.inr h)))
        · exact (hw h).elim
        · exact (hv h).elim
      by_cases ht : t = 0
      · subst ht
        walk_at "rd"
        intro u u0 u1
        walk_at "rd"
        exact kI _ H hI (Evl.Ex.refl _) (fit_neg hI (by omega))
      · have hI2 := hI
        rcases hI2 with rfl | rfl | rfl | rfl | rfl
        · walk_at "rd"
          intro u u0 u1
          walk_at "rd"
          exact kI _ H hI (Evl.Ex.refl _) (by rw [fit_r]; exact fit_no2 (by show ¬ 256 + u < 256; omega))
        · walk_at "rd"
          intro u u0 u1
          walk_at "rd"
          exact kI _ H hI (Evl.Ex.refl _) (by rw [fit_b]; exact fit_no2 (by show ¬ many + u < many; omega))
        · walk_at "rd"
          intro u u0 u1
          walk_at "rd"
          exact kI _ H hI (Evl.Ex.refl _) (by rw [fit_k]; exact fit_no2 (by show ¬ 1000 + u < 1000; omega))
        · walk_at "rd"
          intro u u0 u1
          walk_at "rd"
          exact kI _ H hI (Evl.Ex.refl _) (by rw [fit_n]; exact fit_no2 (by show ¬ bh + 1 + u ≤ bh; omega))
        · walk_at "rd"
          exact kI _ H hI (Evl.Ex.refl _) (fit_neg hI (by decide))
/-! split -/
theorem eqvAll_len : ∀ {xs ys : List PyData}, PyData.eqvAll xs ys = true → xs.length = ys.length
  | [], [], _ => rfl
  | x :: xs, y :: ys, h => by
    rw [PyData.eqvAll, Bool.and_eq_true] at h
    rw [List.length_cons, List.length_cons, eqvAll_len h.2]
  | [], _ :: _, h => by simp [PyData.eqvAll] at h
  | _ :: _, [], h => by simp [PyData.eqvAll] at h
theorem eqvAll_at : ∀ {xs ys : List PyData}, PyData.eqvAll xs ys = true → ∀ (i : Nat) x y, xs[i]? = some x → ys[i]? = some y → PyData.eqv x y = true
  | x :: xs, y :: ys, h, i, x', y', h1, h2 => by
    rw [PyData.eqvAll, Bool.and_eq_true] at h
    cases i with
    | zero => cases h1; cases h2; exact h.1
    | succ i => exact eqvAll_at h.2 i x' y' h1 h2
  | [], _, _, _, _, _, h1, _ => by cases h1
  | _ :: _, [], _, _, _, _, _, h2 => by cases h2
theorem ne_of_true {b : Bool} (h : b = true → False) : b = false := by
  cases b with
  | true => exact (h rfl).elim
  | false => rfl
theorem cmd_ne_len {c d : Cmd} (h : c.2.length ≠ d.2.length) : PyData.eqv (cmdD c) (cmdD d) = false := ne_of_true fun e => by
  have e : PyData.eqvAll (.str c.1 :: c.2) (.str d.1 :: d.2) = true := by rwa [cmdD, cmdD, PyData.eqv] at e
  have := eqvAll_len e
  rw [List.length_cons, List.length_cons] at this
  omega
theorem cmd_ne_word {c d : Cmd} (h : c.1 ≠ d.1) : PyData.eqv (cmdD c) (cmdD d) = false := ne_of_true fun e => by
  have e : PyData.eqvAll (.str c.1 :: c.2) (.str d.1 :: d.2) = true := by rwa [cmdD, cmdD, PyData.eqv] at e
  have := eqvAll_at e 0 _ _ rfl rfl
  rw [PyData.eqv] at this
  exact h (by simpa using this)
theorem opT_eq {l : Str} {o o' : PyData} (h : OpT l o) (h' : OpT l o') (hv : l ≠ "v") (e : PyData.eqv o o' = true) : o = o' := by
  rcases h with h | ⟨hw, z, rfl⟩ | ⟨hI, i, rfl⟩
  · exact (hv h).elim
  · rcases h' with h' | ⟨_, y, rfl⟩ | ⟨hI, i, rfl⟩
    · exact (hv h').elim
    · rw [PyData.eqv] at e
      have : z = y := by simpa using e
      rw [this]
    · subst hw; rcases hI with h | h | h | h | h <;> exact absurd h (by decide)
  · rcases h' with h' | ⟨hw, y, rfl⟩ | ⟨_, j, rfl⟩
    · exact (hv h').elim
    · subst hw; rcases hI with h | h | h | h | h <;> exact absurd h (by decide)
    · rw [PyData.eqv] at e
      have : i = j := by simpa using e
      rw [this]
theorem cmd_ne_op {c d : Cmd} {i : Nat} {l : Str} {o o' : PyData} {bh bs : Int} (h1 : c.2[i]? = some o) (h2 : d.2[i]? = some o') (t1 : OpT l o) (t2 : OpT l o') (hv : l ≠ "v") (f1 : fitB l o bh bs = false) (f2 : fitB l o' bh bs = true) : PyData.eqv (cmdD c) (cmdD d) = false := ne_of_true fun e => by
  have e : PyData.eqvAll (.str c.1 :: c.2) (.str d.1 :: d.2) = true := by rwa [cmdD, cmdD, PyData.eqv] at e
  have := opT_eq t1 t2 hv (eqvAll_at e (i + 1) _ _ h1 h2)
  subst this
  rw [f1] at f2
  cases f2
theorem drA {K : PySem.W.Frag} {H : Hp} : ∀ (n : Nat) {vs : List V} {ds : List PyData}, DpAll K H vs ds → DpAll K H (vs.drop n) (ds.drop n)
  | 0, _, _, h => h
  | n + 1, _, [], h => by cases h; exact .nil
  | n + 1, _, d :: ds, h => by
    obtain ⟨v, vs, rfl, _, h2⟩ := dpA_cons h
    exact drA n h2
section
variable {K : PySem.W.Frag} {H : Hp} {Q : VK} {a b : Addr} {xs ys : List V} {ds es : List PyData}
theorem x_catT (h1 : SqT K H a xs) (h2 : SqT K H b ys) (hA : DpAll K H xs ds) (hB : DpAll K H ys es) (n : ds.length + es.length ≤ 100000) (q : ∀ p H', Evl.Ex H H' → SqT K H' p (xs ++ ys) → DpAll K H' (xs ++ ys) (ds ++ es) → Q (.ref p) H') : rCatA K (.ref a) (.ref b) H Q :=
  ⟨a, b, xs, ys, rfl, rfl, h1, h2, Evl.sz_of (by rw [Dt.lenA hA, Dt.lenA hB]; exact n), fun e => q b H (Evl.Ex.refl _) (by rw [e]; exact h2) (Dt.appA hA hB), fun _ e => q a H (Evl.Ex.refl _) (by rw [e, List.append_nil]; exact h1) (Dt.appA hA hB), fun _ _ p np => q p _ (Evl.Ex.new np) (SqT.of upd_same) (Dt.mnA (Dt.appA hA hB) (Evl.Ex.new np))⟩
/-- t[k:], k not 0 -/
theorem x_tfrom {k : Int} (h : SqT K H a xs) (hA : DpAll K H xs ds) (k0 : 1 ≤ k) (hx : 1 ≤ xs.length) (q : ∀ p H', Evl.Ex H H' → SqT K H' p (xs.drop k.toNat) → DpAll K H' (xs.drop k.toNat) (ds.drop k.toNat) → Q (.ref p) H') : rSlT K (.ref a) (some k) none H Q := by
  obtain ⟨n, rfl⟩ := Int.eq_ofNat_of_zero_le (show 0 ≤ k by omega)
  refine ⟨a, xs, rfl, h, fun ⟨z, _⟩ => ?_, fun p hp => ?_⟩
  · rw [HT.sIx_nat] at z; omega
  · have hc : cutV xs (some (n : Int)) none = xs.drop n := by
      unfold cutV
      rw [HT.sIx_none, HT.sIx_nat]
      by_cases hn : n ≤ xs.length
      · rw [Nat.min_eq_left hn]
        exact List.take_of_length_le (by rw [List.length_drop]; exact Nat.le_refl _)
      · rw [Nat.min_eq_right (by omega), Nat.sub_self, List.take_zero, List.drop_eq_nil_of_le (by omega)]
    rw [hc]
    exact q p _ (Evl.Ex.new hp) (SqT.of upd_same) (Dt.mnA (drA n hA) (Evl.Ex.new hp))
/-- t[:k], k below the length -/
theorem x_tto {k : Int} (h : SqT K H a xs) (hA : DpAll K H xs ds) (k0 : 0 ≤ k) (k1 : k < xs.length) (q : ∀ p H', Evl.Ex H H' → SqT K H' p (xs.take k.toNat) → DpAll K H' (xs.take k.toNat) (ds.take k.toNat) → Q (.ref p) H') : rSlT K (.ref a) none (some k) H Q := by
  obtain ⟨n, rfl⟩ := Int.eq_ofNat_of_zero_le k0
  refine ⟨a, xs, rfl, h, fun ⟨_, z⟩ => ?_, fun p hp => ?_⟩
  · rw [HT.sIx_nat] at z; omega
  · have hc : cutV xs none (some (n : Int)) = xs.take n := by
      unfold cutV
      rw [HT.sIx_none, HT.sIx_nat, List.drop_zero, Nat.sub_zero, Nat.min_eq_left (by omega)]
    rw [hc]
    exact q p _ (Evl.Ex.new hp) (SqT.of upd_same) (Dt.mnA (Dt.takeA n hA) (Evl.Ex.new hp))
/-- t[:-1] -/
theorem x_tinit (h : SqT K H a xs) (hA : DpAll K H xs ds) (hx : 1 ≤ xs.length) (q : ∀ p H', Evl.Ex H H' → SqT K H' p (xs.take (xs.length - 1)) → DpAll K H' (xs.take (xs.length - 1)) (ds.take (xs.length - 1)) → Q (.ref p) H') : rSlT K (.ref a) none (some (-1)) H Q := by
  have e : HT.sIx xs.length xs.length (some (-1)) = xs.length - 1 := by
    show (if (-1 : Int) < 0 then (-1 + (xs.length : Int)).toNat else min (-1 : Int).toNat xs.length) = _
    rw [if_pos (by decide)]
    omega
  refine ⟨a, xs, rfl, h, fun ⟨_, z⟩ => ?_, fun p hp => ?_⟩
  · rw [e] at z; omega
  · have hc : cutV xs none (some (-1)) = xs.take (xs.length - 1) := by
      unfold cutV
      rw [HT.sIx_none, e, List.drop_zero, Nat.sub_zero]
    rw [hc]
    exact q p _ (Evl.Ex.new hp) (SqT.of upd_same) (Dt.mnA (Dt.takeA _ hA) (Evl.Ex.new hp))
end
def ValsOk (c : Cmd) : Prop := ∀ o ∈ c.2, ValOk o
def spSpoilt (K : PySem.W.Frag) : Sp := fun vs H Q _ => ∃ (dk sh p : Addr) (c : Cmd) (bh many : Int), vs = [.ref dk, .ref sh, .ref p, .int bh, .int many] ∧ H dk = some (Dk.DkO dk) ∧ H sh = some (.dK shKV) ∧ Dp K H (.ref p) (cmdD c) ∧ CmdT c ∧ okC c bh many ∧ ValsOk c ∧ c.2.length ≤ 3 ∧
  ∀ q H' c', Evl.Ex H H' → Dp K H' (.ref q) (cmdD c') → CmdT c' → ¬ okC c' bh many → ValsOk c' → c'.2.length ≤ 10 → PyData.eqv (cmdD c') (cmdD c) = false → Q (.ref q) H'
theorem j4_at {k : Int} (h0 : 0 ≤ k) (h1 : k < 4) : ∃ z : Str, atI [V.str "jump", .str "", .str "Set", .str "call "] k = some (.str z) ∧ z ∈ non_SHAPES := by
  rcases (by omega : k = 0 ∨ k = 1 ∨ k = 2 ∨ k = 3) with rfl | rfl | rfl | rfl <;> exact ⟨_, rfl, by unfold non_SHAPES; simp⟩
theorem ok_law_spoilt {ad : Ad} (T : Txt K w mg ad) : FnOk P w K mg base CX0 3 ad.a_law_spoilt ad.d_law_spoilt ["deck", "shapes", "command", "behind", "many"] (spSpoilt K) := by
  refine T.F_law_spoilt.ok sc_law_spoilt (fun vs H Q E h => ?_) (fun cdv A outer s H vs Q E hr h => ?_)
  · obtain ⟨dk, sh, p, c, bh, many, rfl, hD, hs, hp, hT, hok, hv, hz, k⟩ := h
    rfl
  · obtain ⟨dk, sh, p, c, bh, many, rfl, hD, hs, hp, hT, hok, hv, hz, k⟩ := h
    refine ⟨_, (pss_cons (ps_set (i := 5) sc_law_spoilt.nd rfl (Or.inr rfl) (pe_dget (hu_of hr) (pv 1) (pe_ix ix_tup (pv 2) pe_int (fun _ _ => rfl)) (fun _ _ => rfl)))
      (pss_cons (ps_set (i := 6) sc_law_spoilt.nd rfl (Or.inl rfl) (pe_call (ok_law_take T) (hr.mono (by decide)) rfl T.m_law_take T.F_law_take.kp T.b_law_take .nil pass0 (pa_cons (pv 0) (pa_cons pe_int pa_nil))))
      (pss_cons (ps_if (pt_cmpR op_eq (pv 6) pe_int (nomark _)) (pss_one (ps_ret (pe_op op_catA (pe_tup (pa_cons (pe_ix ix_list (pe_lst (pa_cons pe_str (pa_cons pe_str (pa_cons pe_str (pa_cons pe_str pa_nil))))) (pe_call (ok_law_take T) (hr.mono (by decide)) rfl T.m_law_take T.F_law_take.kp T.b_law_take .nil pass0 (pa_cons (pv 0) (pa_cons pe_int pa_nil))) (fun _ _ => rfl)) pa_nil)) (pe_slice sl_tup (pv 2) (po_some pe_int) po_none)))) pss_nil)
      (pss_cons (ps_if (pt_cmpR op_eq (pv 6) pe_int (nomark _)) (pss_one (ps_ret (pe_op op_catA (pv 2) (pe_tup (pa_cons pe_int pa_nil))))) pss_nil)
      (pss_cons (ps_if (PW.pt (pw_and (pt_cmpR op_eq (pv 6) pe_int (nomark _)) (pw_and1 (pt_cmpR op_gt (pe_callB (id := "len") Rd.c_len (by rfl) T.z_len (by decide +kernel) (pa_cons (pv 2) pa_nil)) pe_int (nomark _))))) (pss_one (ps_ret (pe_slice sl_tup (pv 2) po_none (po_some (pe_un un_neg pe_int))))) pss_nil)
      (pss_cons (ps_setLc (i := 7) (own := [("at", 8)]) (g := gName 8) rfl sc_law_spoilt.nd rfl rfl (sw_true rfl rfl rfl (by decide +kernel)) (pi_range1 rfl T.z_range (pa_cons (pe_callB (id := "len") Rd.c_lenS (by rfl) T.z_len (by decide +kernel) (pa_cons (pv 5) pa_nil)) pa_nil)) (blkOk_by (N := ["deck", "shapes", "command", "behind", "many", "shape", "way", "places", "at"]) (sc := (defScope s_law_spoilt)) (by decide +kernel)) (fun _ _ _ _ _ => (pg_name (i := 8) sc_law_spoilt.nd rfl (Or.inl rfl))) (fun _ _ _ _ _ => (pts_one (pt_cmpR op_ne (pe_ix ix_str (pv 5) (pv 8) (fun _ _ => rfl)) pe_str (nomark _)))) (fun _ _ _ _ _ => (pv 8)))
      (pss_cons (ps_if (pt_cmpR op_eq (pe_callB (id := "len") Rd.c_len (by rfl) T.z_len (by decide +kernel) (pa_cons (pv 7) pa_nil)) pe_int (nomark _)) (pss_one (ps_ret (pe_op op_catA (pv 2) (pe_tup (pa_cons pe_int pa_nil))))) pss_nil)
      (pss_cons (ps_set (i := 8) sc_law_spoilt.nd rfl (Or.inl rfl) (pe_ix ix_list (pv 7) (pe_call (ok_law_take T) (hr.mono (by decide)) rfl T.m_law_take T.F_law_take.kp T.b_law_take .nil pass0 (pa_cons (pv 0) (pa_cons (pe_callB (id := "len") Rd.c_len (by rfl) T.z_len (by decide +kernel) (pa_cons (pv 7) pa_nil)) pa_nil))) (fun _ _ => rfl)))
      (pss_one (ps_ret (pe_op op_catA (pe_op op_catA (pe_slice sl_tup (pv 2) po_none (po_some (pe_op op_add (pv 8) pe_int))) (pe_tup (pa_cons (pe_call (ok_law_bad_operand T) (hr.mono (by decide)) rfl T.m_law_bad_operand T.F_law_bad_operand.kp T.b_law_bad_operand .nil pass0 (pa_cons (pv 0) (pa_cons (pe_ix ix_str (pv 5) (pv 8) (fun _ _ => rfl)) (pa_cons (pv 3) (pa_cons (pv 4) pa_nil))))) pa_nil))) (pe_slice sl_tup (pv 2) (po_some (pe_op op_add (pv 8) pe_int)) po_none)))))))))))), ?_⟩
    try dsimp only [L2.cxOf, L2.Cx.nox, L2.Cx.wish]
    change (_ : TS) _ ([some (.ref dk), some (.ref sh), some (.ref p), some (.int bh), some (.int many), none, none, none, none] : St) _
    obtain ⟨w1, ds⟩ := c
    obtain ⟨vs, hsq, hA⟩ := cmd_inv hp
    dsimp only at hsq hA
    obtain ⟨s1, hs1, hlen, hfit⟩ := id hok
    have hs1 : Shp w1 s1 := hs1
    have hlen : ds.length = s1.length := hlen
    have hl : vs.length = ds.length := Dt.lenA hA
    have hsl := shp_len hs1
    have hty : ∀ (i : Nat) l o, (ltrs s1)[i]? = some l → ds[i]? = some o → OpT l o := by
      rcases hT with hn | ⟨sh', h, ht⟩
      · exact (shp_non hs1 hn).elim
      · obtain rfl := shp_fun h hs1
        exact ht hlen
    have hv : ∀ o ∈ ds, ValOk o := hv
    have hfull : DpAll K H (.str w1 :: vs) (.str w1 :: ds) := .cons (.str _) hA
    have h0 : atI (V.str w1 :: vs) 0 = some (V.str w1) := Rd.atI_i (by decide) rfl
    have kLen : ∀ q H' (es : List PyData), es.length ≠ ds.length → es.length ≤ 10 → (∀ o ∈ es, ValOk o) → Evl.Ex H H' → Dp K H' (.ref q) (.tuple (.str w1 :: es)) → Q (.ref q) H' := fun q H' es h1 h2 h3 e h => by
      refine k q H' (w1, es) e h (.inr ⟨s1, hs1, fun h => ?_⟩) (fun ⟨s2, g1, g2, _⟩ => ?_) h3 h2 (cmd_ne_len h1)
      · have h : es.length = s1.length := h
        omega
      · obtain rfl := shp_fun g1 hs1
        have g2 : es.length = s2.length := g2
        omega
    walk_at "rd"
    refine Rd.ixT hsq h0 ?_
    refine Rd.xdgetS hs (kvOf_get hs1) ?_
    walk_at "rd"
    intro way y0 y1
    walk_at "rd"
    refine Rd.ifd (fun c0 => ?_) (fun c0 => ?_)
    · walk_at "rd"
      refine Rd.xlst rfl fun p1 H1 n1 e1 h1 => ?_
      have hD1 := e1 _ _ hD
      walk_at "rd"
      intro x x0 x1
      obtain ⟨z, hz1, hz2⟩ := j4_at x0 x1
      refine Rd.ixL (SqL.of h1) hz1 ?_
      walk_at "rd"
      refine Rd.xtup rfl fun p2 H2 n2 e2 h2 => ?_
      walk_at "rd"
      refine x_tfrom (Evl.ex_t (e1.trans e2) hsq) (Dt.mnA hfull (e1.trans e2)) (by decide) (by simp) fun p3 H3 e3 h3 hA3 => ?_
      refine x_catT (Evl.ex_t e3 (SqT.of h2)) h3 (.cons (.str z) .nil) hA3 (by simp; omega) fun p4 H4 e4 h4 hA4 => ?_
      refine k p4 H4 (z, ds) (((e1.trans e2).trans e3).trans e4) (.tup h4 hA4) (.inl hz2) (fun ⟨s2, g1, _⟩ => shp_non g1 hz2) hv (by show ds.length ≤ 10; omega) (cmd_ne_word fun e => ?_)
      have e : z = w1 := e
      subst e
      exact shp_non hs1 hz2
    walk_at "rd"
    refine Rd.ifd (fun c1 => ?_) (fun c1 => ?_)
    · walk_at "rd"
      refine Rd.xtup rfl fun p2 H2 n2 e2 h2 => ?_
      refine x_catT (es := [.int 0]) (Evl.ex_t e2 hsq) (SqT.of h2) (Dt.mnA hfull e2) (Dt.oneA (.int _)) (by simp; omega) fun p4 H4 e4 h4 hA4 => ?_
      refine kLen p4 H4 (ds ++ [PyData.int 0]) (by simp) (by simp; omega) (fun o ho => ?_) (e2.trans e4) (.tup h4 hA4)
      rcases List.mem_append.mp ho with h | h
      · exact hv o h
      · cases List.mem_singleton.mp h; exact valok_int _
    walk_at "rd"
    by_cases cut : way = 2 ∧ ds ≠ []
    · obtain ⟨rfl, hne⟩ := cut
      have hdl : 1 ≤ ds.length := List.length_pos_iff.mpr hne
      walk_at "rd"
      refine Rd.ifT (by rw [List.length_cons]; omega) ?_
      walk_at "rd"
      refine x_tinit hsq hfull (by simp) fun p2 H2 e2 h2 hA2 => ?_
      refine kLen p2 H2 (ds.take (vs.length - 1)) (by rw [List.length_take]; omega) (by rw [List.length_take]; omega) (fun o ho => hv o (List.mem_of_mem_take ho)) e2 ?_
      have hh : (V.str w1 :: vs).length - 1 = (vs.length - 1) + 1 := by rw [List.length_cons]; omega
      rw [hh, List.take_succ_cons] at h2
      rw [hh, List.take_succ_cons, List.take_succ_cons] at hA2
      exact .tup h2 hA2
    by_cases c2 : way = 2
    case' pos =>
      have hdl : ds = [] := by
        by_cases h : ds = []
        · exact h
        · exact (cut ⟨c2, h⟩).elim
      have hvl : vs.length = 0 := by rw [hl, hdl]; rfl
      subst c2
      walk_at "rd"
      refine Rd.ifF (by rw [List.length_cons]; omega) ?_
      walk_at "rd"
    case' neg =>
      walk_at "rd"
    all_goals
      refine Rd.lenS (by show s1.length ≤ 100000; omega) ?_
      walk_at "rd"
      have hic : ∀ i : Nat, (i : Int) < (s1.length : Int) → ∃ ch, s1.cps.toList[i]? = some ch := fun i hi => ⟨_, List.getElem?_eq_getElem (by have : s1.cps.toList.length = s1.length := rfl; omega)⟩
      refine Rd.xlcR (fun i => !decide ((ltrs s1)[i]? = some ("v" : Str))) (fun i => .int (i : Nat)) ⟨by omega, by omega⟩ (fun _ => rfl) ?_ ?_ ?_
      · intro i H1 e1 hi H2 e2 Q2 q2
        obtain ⟨ch, hch⟩ := hic i hi
        walk_at "rd"
        refine Rd.ixS (by omega) (atI_nat hch) ?_
        walk_at "rd"
        rw [show decide ((⟨#[ch]⟩ : Str) = "v") = decide ((ltrs s1)[i]? = some ("v" : Str)) from by rw [at_ltr hch]; exact decide_eq_decide.mpr ⟨fun h => by rw [h], fun h => Option.some.inj h⟩]
        exact q2 _ (Evl.Ex.refl _)
      · intro i H1 e1 hi hf H2 e2 Q2 q2
        walk_at "rd"
        exact q2 _ (Evl.Ex.refl _)
      · intro pl H1 nl e1 h1
        have hg : Evl.given (s1.length : Int).toNat (fun i => !decide ((ltrs s1)[i]? = some ("v" : Str))) (fun i => V.int (i : Nat)) = (((List.range s1.length).filter fun i => !decide ((ltrs s1)[i]? = some ("v" : Str))).map fun i : Nat => V.int (i : Nat)) := rfl
        rw [hg] at h1
        have hmem : ∀ i ∈ (List.range s1.length).filter (fun i => !decide ((ltrs s1)[i]? = some ("v" : Str))), i < s1.length ∧ (ltrs s1)[i]? ≠ some ("v" : Str) := fun i hi => by
          have := List.mem_filter.mp hi
          exact ⟨List.mem_range.mp this.1, by simpa using this.2⟩
        generalize (List.range s1.length).filter (fun i => !decide ((ltrs s1)[i]? = some ("v" : Str))) = ns at *
        have hD1 := e1 _ _ hD
        walk_at "rd"
        by_cases hns : ns = []
        · refine Rd.ifT (by rw [hns]; rfl) ?_
          walk_at "rd"
          refine Rd.xtup rfl fun p2 H2 n2 e2 h2 => ?_
          refine x_catT (es := [.int 1]) (Evl.ex_t (e1.trans e2) hsq) (SqT.of h2) (Dt.mnA hfull (e1.trans e2)) (Dt.oneA (.int _)) (by simp; omega) fun p4 H4 e4 h4 hA4 => ?_
          refine kLen p4 H4 (ds ++ [PyData.int 1]) (by simp) (by simp; omega) (fun o ho => ?_) ((e1.trans e2).trans e4) (.tup h4 hA4)
          rcases List.mem_append.mp ho with h | h
          · exact hv o h
          · cases List.mem_singleton.mp h; exact valok_int _
        · have hnl : 1 ≤ ns.length := List.length_pos_iff.mpr hns
          refine Rd.ifF (by rw [List.length_map]; omega) ?_
          walk_at "rd"
          refine Rd.take hD1 (by rw [List.length_map]; omega) ?_
          intro x x0 x1
          rw [List.length_map] at x1
          have hx2 : x.toNat < ns.length := by omega
          obtain ⟨hi1, hi2⟩ := hmem _ (List.getElem_mem hx2)
          refine Rd.ixL (SqL.of h1) (Rd.atI_i x0 (by rw [List.getElem?_map, List.getElem?_eq_getElem hx2]; rfl)) ?_
          generalize ns[x.toNat]'hx2 = i at *
          obtain ⟨ch, hch⟩ := hic i (by omega)
          have hlt := at_ltr hch
          have hil : (⟨#[ch]⟩ : Str) ≠ "v" := fun e => hi2 (by rw [hlt, e])
          have hio : ds[i]? = some (ds[i]'(by omega)) := List.getElem?_eq_getElem _
          generalize ds[i]'(by omega) = o at hio
          walk_at "rd"
          refine x_tto (Evl.ex_t e1 hsq) (Dt.mnA hfull e1) (by omega) (by rw [List.length_cons]; omega) fun p2 H2 e2 h2 hA2 => ?_
          have hD2 := e2 _ _ hD1
          walk_at "rd"
          refine Rd.ixS (by omega) (atI_nat hch) ?_
          walk_at "rd"
          refine ⟨dk, ⟨#[ch]⟩, bh, many, rfl, hD2, shp_let hs1 (List.mem_of_getElem? hlt), hil, fun v H3 o' e3 hv3 hot hok3 hft => ?_⟩
          walk_at "rd"
          refine Rd.xtup rfl fun p4 H4 n4 e4 h4 => ?_
          refine x_catT (es := [o']) (Evl.ex_t (e3.trans e4) h2) (SqT.of h4) (Dt.mnA hA2 (e3.trans e4)) (Dt.oneA (Dt.mn hv3 e4)) (by simp; omega) fun p5 H5 e5 h5 hA5 => ?_
          have e15 := ((e2.trans e3).trans e4).trans e5
          walk_at "rd"
          refine x_tfrom (Evl.ex_t (e1.trans e15) hsq) (Dt.mnA hfull (e1.trans e15)) (by omega) (by simp) fun p6 H6 e6 h6 hA6 => ?_
          refine x_catT (Evl.ex_t e6 h5) h6 (Dt.mnA hA5 e6) hA6 (by simp; omega) fun p7 H7 e7 h7 hA7 => ?_
          have hdat : (PyData.str w1 :: ds).take ((i : Int) + 1).toNat ++ [o'] ++ (PyData.str w1 :: ds).drop ((i : Int) + 2).toNat = .str w1 :: ds.set i o' := by
            rw [show ((i : Int) + 1).toNat = i + 1 from by omega, show ((i : Int) + 2).toNat = (i + 1) + 1 from by omega, List.take_succ_cons, List.drop_succ_cons]
            rw [List.set_eq_take_append_cons_drop, if_pos (by omega)]
            simp
          rw [hdat] at hA7
          have hsi : (ds.set i o')[i]? = some o' := List.getElem?_set_self (by omega)
          refine k p7 H7 (w1, ds.set i o') ((e1.trans (e15.trans e6)).trans e7) (.tup h7 hA7) (.inr ⟨s1, hs1, fun _ j l q hjl hjq => ?_⟩) (fun ⟨s2, g1, g2, g3⟩ => ?_) (fun q hq => ?_) (by show (ds.set i o').length ≤ 10; rw [List.length_set]; omega) (cmd_ne_op (c := (w1, ds.set i o')) (d := (w1, ds)) hsi hio hot (hty i _ o hlt hio) hil hft (hfit i _ o hlt hio))
          · have hjq : (ds.set i o')[j]? = some q := hjq
            by_cases e : i = j
            · subst e
              rw [hsi] at hjq
              rw [hlt] at hjl
              cases hjq; cases hjl
              exact hot
            · rw [List.getElem?_set_ne e] at hjq
              exact hty j l q hjl hjq
          · obtain rfl := shp_fun g1 hs1
            rw [g3 i _ o' hlt hsi] at hft
            cases hft
          · rcases List.mem_or_eq_of_mem_set hq with h | h
            · exact hv q h
            · rw [h]; exact hok3
/-! split -/
def spRefusal (K : PySem.W.Frag) : Sp := fun vs H Q _ => ∃ (p : Addr) (bs : List (List Cmd)), vs = [.ref p] ∧ Dp K H (.ref p) (.list (bs.map bodyD)) ∧ BsOk bs ∧ ∀ r v H', Ref bs r → Evl.Ex H H' → Dp K H' v (whyD r) → Q v H'
theorem ok_law_refusal {ad : Ad} (T : Txt K w mg ad) : FnOk P w K mg base CX0 6 ad.a_law_refusal ad.d_law_refusal ["bodies"] (spRefusal K) := by
  refine T.F_law_refusal.ok sc_law_refusal (fun vs H Q E h => ?_) (fun cdv A outer s H vs Q E hr h => ?_)
  · obtain ⟨p, bs, rfl, hp, ok, k⟩ := h
    rfl
  · obtain ⟨p, bs, rfl, hp, ok, k⟩ := h
    refine ⟨_, (pss_cons (ps_try_as (i := 1) (tb := fun W => (tDrop (tMakeS _ _ (WE W) _))) (ts := fun a cls d => (tSeq (tIfS (tAnd (tB (tCB (rIsD K cls d a) _)) (tNot (tB (tCB (rIsD K cls d a) _)))) (tRet (tXf a cls d _ _ (tVar 1))) _) (tSeq (tIfS (tAnd (tB (tCB (rIsD K cls d a) _)) (tAnd (tNot (tB (tCB (rIsD K cls d a) _))) (tB (tCB (rIsD K cls d a) _)))) (tRet (tTup (tCons (tXf a cls d _ _ (tVar 1)) (tCons (tXf a cls d _ _ (tVar 1)) tNil)))) _) _))) (Wout := fun _ _ _ _ => False) rfl rfl sc_law_refusal.nd rfl rfl ⟨rfl, by decide, Or.inl T.mg_BridgeError⟩ takes0 (fun W pn xe tk hp => (pss_one (ps_expr (pe_makeS T.mk_Program (ok_Program_init_ T) (hr.mono (by decide)) rfl T.mg_Program T.b_Program_init_ (fun σ => passAt tk σ) (pa_cons (pv 0) pa_nil))))) (fun a oe cls d pn hz hf => (pss_cons (ps_if (PW.pt (pw_and (pt_val (pe_callB (id := "isinstance") (call_isD hz hf) (by rfl) T.z_isinstance (by decide +kernel) (pa_cons (pv 1) (pa_cons (pe_glob (v := .ref ad.c_TooMany) rfl T.mg_TooMany rfl) pa_nil)))) (pw_and1 (pt_not (pt_val (pe_callB (id := "isinstance") (call_isD hz hf) (by rfl) T.z_isinstance (by decide +kernel) (pa_cons (pv 1) (pa_cons (pe_glob (v := .ref ad.c_InvalidProgram) rfl T.mg_InvalidProgram rfl) pa_nil)))))))) (pss_one (ps_ret (pe_xf T.xd_TooMany.xf T.nx_TooMany_what hz hf (pv 1)))) pss_nil)
      (pss_cons (ps_if (PW.pt (pw_and (pt_val (pe_callB (id := "isinstance") (call_isD hz hf) (by rfl) T.z_isinstance (by decide +kernel) (pa_cons (pv 1) (pa_cons (pe_glob (v := .ref ad.c_InvalidProgram) rfl T.mg_InvalidProgram rfl) pa_nil)))) (pw_and (pt_not (pt_val (pe_callB (id := "isinstance") (call_isD hz hf) (by rfl) T.z_isinstance (by decide +kernel) (pa_cons (pv 1) (pa_cons (pe_glob (v := .ref ad.c_TooMany) rfl T.mg_TooMany rfl) pa_nil))))) (pw_and1 (pt_val (pe_callB (id := "isinstance") (call_isD hz hf) (by rfl) T.z_isinstance (by decide +kernel) (pa_cons (pv 1) (pa_cons (pe_bltn rfl T.z_ValueError (by decide +kernel) (v := .ty "ValueError") rfl) pa_nil)))))))) (pss_one (ps_ret (pe_tup (pa_cons (pe_xf T.xd_InvalidProgram.xf T.nx_InvalidProgram_body hz hf (pv 1)) (pa_cons (pe_xf T.xd_InvalidProgram.xf T.nx_InvalidProgram_command hz hf (pv 1)) pa_nil))))) pss_nil)
      (pss_one (ps_ret (pe_tup (pa_cons pe_str pa_nil))))))))
      (pss_one (ps_ret pe_non))), ?_⟩
    try dsimp only [L2.cxOf, L2.Cx.nox, L2.Cx.wish]
    change (_ : TS) _ ([some (.ref p), none] : St) _
    have cl_Program := T.cl_Program
    have n_Program_bodies := T.n_Program_bodies
    have n_Program_room := T.n_Program_room
    walk_at "rd"
    refine Rd.xmk fun x dx H1 e1 n1 hx => ⟨x, dx, p, bs, rfl, hx, Dt.mn hp e1, ok, fun s hr d H2 e2 hd => ?_, fun n m hr d H2 e2 hd => ?_, fun hr H2 kp => ⟨rfl, ?_⟩⟩
    · refine ⟨true, T.em_TooMany_BridgeError, fun _ a na => ?_, fun q => Bool.noConfusion q⟩
      walk_at "rd"
      refine Rd.isD T.xd_TooMany hd (.own _) T.kt_TooMany_TooMany ?_
      walk_at "rd"
      refine Rd.isD T.xd_TooMany hd (.own _) T.kt_TooMany_InvalidProgram ?_
      walk_at "rd"
      refine Rd.xxf hd rfl ?_
      exact k _ _ _ hr (e1.trans e2) (.str _)
    · refine ⟨true, T.em_InvalidProgram_BridgeError, fun _ a na => ?_, fun q => Bool.noConfusion q⟩
      walk_at "rd"
      refine Rd.isD T.xd_InvalidProgram hd (.own _) T.kt_InvalidProgram_TooMany ?_
      walk_at "rd"
      refine Rd.isD T.xd_InvalidProgram hd (.own _) T.kt_InvalidProgram_InvalidProgram ?_
      walk_at "rd"
      refine Rd.isD T.xd_InvalidProgram hd (.own _) T.kt_InvalidProgram_TooMany ?_
      walk_at "rd"
      refine Rd.isD T.xd_InvalidProgram hd (.ty _) T.kt_InvalidProgram_ValueError ?_
      walk_at "rd"
      refine Rd.xxf hd rfl ?_
      walk_at "rd"
      refine Rd.xxf hd rfl ?_
      walk_at "rd"
      refine Rd.xtup rfl fun q H3 n3 e3 h3 => ?_
      exact k _ _ _ hr ((e1.trans e2).trans e3) (Dt.ofT h3 (.cons (.int _) (.cons (.int _) .nil)))
    · walk_at "rd"
      exact k none .non H2 hr (Rd.exBut e1 n1 kp) .non
/-! split -/
def VOk (bs : List (List Cmd)) : Prop := ∀ b ∈ bs, ∀ c ∈ b, ValsOk c
theorem copy_vals : ValsOk copyC := fun o ho => by
  have ho : o ∈ [PyData.int 0, .int 0] := ho
  simp at ho
  rw [ho]
  exact valok_int 0
structure Ext (bs fs : List (List Cmd)) : Prop where
  len : bs.length ≤ fs.length
  cap : fs.length ≤ 1100
  at_ : ∀ (i : Nat) b, bs[i]? = some b → ∃ n, fs[i]? = some (b ++ List.replicate n copyC)
  more : ∀ (i : Nat) f, bs.length ≤ i → fs[i]? = some f → ∃ n, f = List.replicate n copyC
  each : ∀ f ∈ fs, f.length ≤ 5000
theorem Ext.val {bs fs : List (List Cmd)} (h : Ext bs fs) (hv : VOk bs) : VOk fs := fun f hf c hc => by
  obtain ⟨i, hi⟩ := List.getElem?_of_mem hf
  by_cases hb : i < bs.length
  · obtain ⟨n, hn⟩ := h.at_ i _ (List.getElem?_eq_getElem hb)
    rw [hi] at hn
    cases hn
    rcases List.mem_append.mp hc with hc | hc
    · exact hv _ (List.getElem_mem hb) c hc
    · rw [List.eq_of_mem_replicate hc]; exact copy_vals
  · obtain ⟨n, rfl⟩ := h.more i f (by omega) hi
    rw [List.eq_of_mem_replicate hc]
    exact copy_vals
theorem Ext.app {bs fs : List (List Cmd)} (h : Ext bs fs) {n : Nat} (hn : fs.length + n ≤ 1100) : Ext bs (fs ++ List.replicate n []) where
  len := by rw [List.length_append]; have := h.len; omega
  cap := by rw [List.length_append, List.length_replicate]; exact hn
  at_ := fun i b hb => by
    obtain ⟨m, hm⟩ := h.at_ i b hb
    exact ⟨m, by rw [List.getElem?_append_left (List.getElem?_eq_some_iff.mp hm).1]; exact hm⟩
  more := fun i f hi hf => by
    by_cases hl : i < fs.length
    · rw [List.getElem?_append_left hl] at hf
      exact h.more i f hi hf
    · rw [List.getElem?_append_right (by omega)] at hf
      exact ⟨0, List.eq_of_mem_replicate (List.mem_of_getElem? hf)⟩
  each := fun f hf => by
    rcases List.mem_append.mp hf with hf | hf
    · exact h.each f hf
    · rw [List.eq_of_mem_replicate hf]; exact Nat.zero_le _
theorem Ext.set {bs fs : List (List Cmd)} (h : Ext bs fs) {k n : Nat} {f : List Cmd} (hk : fs[k]? = some f) (hz : f.length + n ≤ 5000) : Ext bs (fs.set k (f ++ List.replicate n copyC)) where
  len := by rw [List.length_set]; exact h.len
  cap := by rw [List.length_set]; exact h.cap
  at_ := fun i b hb => by
    obtain ⟨m, hm⟩ := h.at_ i b hb
    by_cases e : k = i
    · subst e
      rw [hk] at hm
      cases hm
      refine ⟨m + n, ?_⟩
      rw [List.getElem?_set_self (List.getElem?_eq_some_iff.mp hk).1, List.append_assoc, List.replicate_append_replicate]
    · exact ⟨m, by rw [List.getElem?_set_ne e]; exact hm⟩
  more := fun i g hi hg => by
    by_cases e : k = i
    · subst e
      rw [List.getElem?_set_self (List.getElem?_eq_some_iff.mp hk).1] at hg
      cases hg
      obtain ⟨m, rfl⟩ := h.more k f hi hk
      exact ⟨m + n, by rw [List.replicate_append_replicate]⟩
    · rw [List.getElem?_set_ne e] at hg
      exact h.more i g hi hg
  each := fun g hg => by
    rcases List.mem_or_eq_of_mem_set hg with hg | hg
    · exact h.each g hg
    · rw [hg, List.length_append, List.length_replicate]; exact hz
theorem ext_self {bs : List (List Cmd)} (h4 : bs.length ≤ 4) (hz : ∀ b ∈ bs, (b.length : Int) ≤ 7) : Ext bs bs := ⟨Nat.le_refl _, by omega, fun i b hb => ⟨0, by rw [hb, List.replicate_zero, List.append_nil]⟩, fun i f hi hf => by
  have := (List.getElem?_eq_some_iff.mp hf).1
  omega, fun f hf => by have := hz f hf; omega⟩
/-- a list of bodies at f -/
structure FB (K : PySem.W.Frag) (H0 H : Hp) (f : Addr) (as : List Addr) (fs : List (List Cmd)) : Prop where
  new : H0 f = none
  ex : Evl.Ex H0 H
  at_ : H f = some (.lst (as.map V.ref))
  bod : BodA K H as fs
  ne : ∀ a ∈ as, a ≠ f
  val : VOk fs
theorem FB.mono {K : PySem.W.Frag} {H0 H H' : Hp} {f : Addr} {as : List Addr} {fs : List (List Cmd)} (h : FB K H0 H f as fs) (e : Evl.Ex H H') : FB K H0 H' f as fs := ⟨h.new, h.ex.trans e, e _ _ h.at_, h.bod.ex e, h.ne, h.val⟩
theorem mem_set_or {α : Type} {l : List α} {k : Nat} {x y : α} (h : y ∈ l.set k x) : y ∈ l ∨ y = x := List.mem_or_eq_of_mem_set h
theorem FB.set {K : PySem.W.Frag} {H0 H : Hp} {f r : Addr} {as : List Addr} {fs : List (List Cmd)} {k : Nat} {us : List V} {b : List Cmd} (h : FB K H0 H f as fs) (hr : H r = some (.lst us)) (hrf : r ≠ f) (hd : DpAll K H us (b.map cmdD)) (hv : ∀ c ∈ b, ValsOk c) : FB K H0 (upd H f (.lst ((as.map V.ref).set k (.ref r)))) f (as.set k r) (fs.set k b) where
  new := h.new
  ex := Evl.Ex.mut h.ex h.new
  at_ := by rw [upd_same, ← List.map_set]
  bod := ⟨by rw [List.length_set, List.length_set, h.bod.len], fun i a b' h1 h2 => by
    have nol : ∀ (b : List Cmd), (∀ c ∈ b, ValsOk c) → ∀ d ∈ b.map cmdD, Dt.noL d = true := fun b hb d hd => by
      obtain ⟨c, hc, rfl⟩ := List.mem_map.mp hd
      exact cmd_noL (hb c hc)
    by_cases e : k = i
    · subst e
      have hk := (List.getElem?_eq_some_iff.mp h1).1
      rw [List.length_set] at hk
      rw [List.getElem?_set_self hk] at h1
      rw [List.getElem?_set_self (by rw [← h.bod.len]; exact hk)] at h2
      cases h1
      cases h2
      exact ⟨us, (upd_ne hrf).trans hr, Dt.updLA h.at_ _ _ (nol b hv) hd⟩
    · rw [List.getElem?_set_ne e] at h1 h2
      obtain ⟨vs, h3, h4⟩ := h.bod.rw i a b' h1 h2
      exact ⟨vs, (upd_ne (h.ne a (List.mem_of_getElem? h1))).trans h3, Dt.updLA h.at_ _ _ (nol b' (h.val b' (List.mem_of_getElem? h2))) h4⟩⟩
  ne := fun a ha => (mem_set_or ha).elim (h.ne a) fun e => e ▸ hrf
  val := fun b' hb' => (mem_set_or hb').elim (h.val b') fun e => e ▸ hv
/-! split -/
/-- [[] for number in range(n)] -/
theorem xlcEmp {K : PySem.W.Frag} {σ : L2.St} {H : Hp} {Q : VK} {n : Int} {j : Nat} {vs : List Nat} (hn : n ≤ 40000) (hlo : -(2 ^ 62) ≤ n) (hw : ∀ x, wipe ((wipe σ vs).set j (some x)) vs = wipe σ vs)
    (q : ∀ (p : Addr) (as : List Addr) (H' : Hp), H p = none → Evl.Ex H H' → H' p = some (.lst (as.map V.ref)) → as.length = n.toNat → (∀ a ∈ as, H' a = some (.lst []) ∧ H a = none) → Q (.ref p) H') :
    Rd.xLcR (gName j) tYes (tLst tNil) vs σ [.int n] H Q := by
  let Cp : Addr → Nat → Hp → Prop := fun D i H' => H D = none ∧ Evl.Ex H H' ∧ ∃ as : List Addr, as.length = i ∧ H' D = some (.lst (as.map V.ref)) ∧ ∀ a ∈ as, a ≠ D ∧ H' a = some (.lst []) ∧ H a = none
  refine ⟨n, rfl, by omega, by omega, fun D hD => lc_range (lo := 0) (n := n.toNat) (Cp D) ⟨hD, Evl.Ex.new hD, [], rfl, upd_same, fun _ h => nomatch h⟩ (fun i H' hi p => ?_) (fun H' p => ?_)⟩
  · obtain ⟨_, e, as, has, hDl, hk⟩ := p
    refine ⟨hw _, ?_⟩
    refine iteT (A := tLst tNil ((wipe σ vs).set j (some (.int ((0 : Int) + (i : Int))))) H' fun y H4 => ∃ acc, H4 D = some (.lst acc) ∧ acc.length < sizeLine ∧ Cp D (i + 1) (upd H4 D (.lst (acc ++ [y])))) (B := Cp D (i + 1) H') ?_
    refine Rd.lst (Rd.nil (Rd.xlstU rfl fun p hp => ?_))
    have hpD : D ≠ p := ne_of_none hDl hp
    have hp0 : H p = none := Evl.fresh_back e hp
    refine ⟨as.map V.ref, (upd_ne hpD).trans hDl, Evl.sz_lt (by rw [List.length_map, has]; omega), hD, Evl.Ex.mut (e.trans (Evl.Ex.new hp)) hD, as ++ [p], by rw [List.length_append, has]; rfl, by rw [List.map_append]; exact upd_same, fun a ha => ?_⟩
    rcases List.mem_append.mp ha with h | h
    · obtain ⟨g1, g2, g3⟩ := hk a h
      exact ⟨g1, by rw [upd_ne g1, upd_ne (ne_of_none g2 hp)]; exact g2, g3⟩
    · cases List.mem_singleton.mp h
      exact ⟨Ne.symm hpD, by rw [upd_ne (Ne.symm hpD)]; exact upd_same, hp0⟩
  · obtain ⟨_, e, as, has, hDl, hk⟩ := p
    exact q D as H' hD e hDl has fun a ha => ⟨(hk a ha).2.1, (hk a ha).2.2⟩
/-- [("copy", 0, 0) for place in range(n)] -/
theorem xlcCps {K : PySem.W.Frag} {σ : L2.St} {H : Hp} {Q : VK} {n : Int} {j : Nat} {vs : List Nat} (h0 : 0 ≤ n) (hn : n ≤ 40000) (hw : ∀ x, wipe ((wipe σ vs).set j (some x)) vs = wipe σ vs)
    (q : ∀ (p : Addr) (ys : List V) (H' : Hp), H p = none → Evl.Ex H H' → H' p = some (.lst ys) → DpAll K H' ys ((List.replicate n.toNat copyC).map cmdD) → Q (.ref p) H') :
    Rd.xLcR (gName j) tYes (tTup (tCons (tC (V.str "copy")) (tCons (tC (V.int 0)) (tCons (tC (V.int 0)) tNil)))) vs σ [.int n] H Q := by
  refine Rd.xlcGR (K := K) (fun _ d => d = cmdD copyC) ⟨h0, hn⟩ hw ?_ ?_
  · intro i D G H' acc hi hD a1 a2 gD hacc Q' kq
    refine Rd.tup (Rd.cons (Rd.c (Rd.cons (Rd.c (Rd.cons (Rd.c (Rd.nil ?_)))))))
    refine Rd.xtup rfl fun q Hf nf ef hf => ?_
    exact kq _ Hf (upd G q (.tup [.str "copy", .int 0, .int 0])) _ (Rd.grow1 a2 nf) (Rd.grow2 a2 ef hf) (Rd.grow3 gD nf hacc) ef (Dt.ofT upd_same (.cons (.str _) (.cons (.int _) (.cons (.int _) .nil)))) rfl
  · intro p G H' ys ds np a1 a2 gp hp hA hl hR
    have ed : ds = (List.replicate n.toNat copyC).map cmdD := by
      rw [List.map_replicate]
      exact List.eq_replicate_iff.mpr ⟨hl, fun x hx => by
        obtain ⟨i, hi⟩ := List.getElem?_of_mem hx
        exact hR i x hi⟩
    subst ed
    exact q p ys H' np (a1.trans a2) hp (Dt.mnA hA a2)
theorem FB.row {K : PySem.W.Frag} {H0 H : Hp} {f : Addr} {as : List Addr} {fs : List (List Cmd)} {k : Nat} (h : FB K H0 H f as fs) (hk : k < fs.length) : ∃ a b vs, as[k]? = some a ∧ fs[k]? = some b ∧ a ≠ f ∧ H a = some (.lst vs) ∧ DpAll K H vs (b.map cmdD) := by
  have hl := h.bod.len
  have h1 : as[k]? = some (as[k]'(by omega)) := List.getElem?_eq_getElem _
  have h2 : fs[k]? = some (fs[k]'hk) := List.getElem?_eq_getElem _
  obtain ⟨vs, h3, h4⟩ := h.bod.rw k _ _ h1 h2
  exact ⟨_, _, vs, h1, h2, h.ne _ (List.mem_of_getElem? h1), h3, h4⟩
theorem FB.longer {K : PySem.W.Frag} {H0 H H4 H5 : Hp} {f r a : Addr} {as : List Addr} {fs : List (List Cmd)} {k n : Nat} {b : List Cmd} {vs ys : List V} (h : FB K H0 H f as fs) (hb : fs[k]? = some b) (ha : H a = some (.lst vs)) (hd : DpAll K H vs (b.map cmdD)) (e4 : Evl.Ex H H4) (hy : DpAll K H4 ys ((List.replicate n copyC).map cmdD)) (nr : H4 r = none) (e5 : Evl.Ex H4 H5) (hr : H5 r = some (.lst (vs ++ ys))) :
    FB K H0 (upd H5 f (.lst ((as.map V.ref).set k (.ref r)))) f (as.set k r) (fs.set k (b ++ List.replicate n copyC)) := by
  refine (h.mono (e4.trans e5)).set hr (fun z => ?_) ?_ fun c hc => ?_
  · subst z
    rw [e4 _ _ h.at_] at nr; cases nr
  · rw [List.map_append]
    exact Dt.appA (Dt.mnA hd (e4.trans e5)) (Dt.mnA hy e5)
  · rcases List.mem_append.mp hc with hc | hc
    · exact h.val b (List.mem_of_getElem? hb) c hc
    · rw [List.eq_of_mem_replicate hc]; exact copy_vals
theorem FB.app {K : PySem.W.Frag} {H0 H H1 H2 : Hp} {f g : Addr} {as es : List Addr} {fs : List (List Cmd)} {n : Nat} (h : FB K H0 H f as fs) (e1 : Evl.Ex H H1) (hes : ∀ a ∈ es, H1 a = some (.lst []) ∧ H a = none) (hl : es.length = n) (ng : H1 g = none) (e2 : Evl.Ex H1 H2) (hg : H2 g = some (.lst (as.map V.ref ++ es.map V.ref))) : FB K H0 H2 g (as ++ es) (fs ++ List.replicate n []) where
  new := Evl.fresh_back (h.ex.trans e1) ng
  ex := (h.ex.trans e1).trans e2
  at_ := by rw [List.map_append]; exact hg
  bod := ⟨by rw [List.length_append, List.length_append, h.bod.len, hl, List.length_replicate], fun k a b h1 h2 => by
    have hl2 := h.bod.len
    by_cases hk : k < as.length
    · rw [List.getElem?_append_left hk] at h1
      rw [List.getElem?_append_left (by omega)] at h2
      obtain ⟨vs, h3, h4⟩ := h.bod.rw k a b h1 h2
      exact ⟨vs, e2 _ _ (e1 _ _ h3), Dt.mnA h4 (e1.trans e2)⟩
    · rw [List.getElem?_append_right (by omega)] at h1 h2
      obtain rfl := List.eq_of_mem_replicate (List.mem_of_getElem? h2)
      exact ⟨[], e2 _ _ (hes a (List.mem_of_getElem? h1)).1, .nil⟩⟩
  ne := fun a ha z => by
    subst z
    rcases List.mem_append.mp ha with h' | h'
    · obtain ⟨k, hk⟩ := List.getElem?_of_mem h'
      have hkl := (List.getElem?_eq_some_iff.mp hk).1
      obtain ⟨vs, h3, _⟩ := h.bod.rw k a _ hk (List.getElem?_eq_getElem (by rw [← h.bod.len]; exact hkl))
      rw [e1 _ _ h3] at ng; cases ng
    · rw [(hes a h').1] at ng; cases ng
  val := fun b hb => by
    rcases List.mem_append.mp hb with h' | h'
    · exact h.val b h'
    · rw [List.eq_of_mem_replicate h']
      exact fun _ h => nomatch h
theorem ixN_i {n : Nat} {i : Int} (h0 : 0 ≤ i) (h : i.toNat < n) : ixN n i = some i.toNat := by
  obtain ⟨k, rfl⟩ := Int.eq_ofNat_of_zero_le h0
  exact Evl.ixN_nat h
theorem x_mulS {A B : Int} {H : Hp} {Q : VK} (hA : 0 ≤ A ∧ A ≤ 1) (hB : 0 ≤ B ∧ B ≤ 2) (q : ∀ m : Int, 0 ≤ m → m ≤ 2 → Q (.int m) H) : rI CMulW (fun i j => .int (i * j)) (.int A) (.int B) H Q := by
  refine Rd.i1 (wide_mul (a := 2) (b := 10) (by omega) (by omega) (by decide) (by decide) (by decide)) ?_
  have : A = 0 ∨ A = 1 := by omega
  rcases this with rfl | rfl
  · rw [Int.zero_mul]; exact q 0 (by decide) (by decide)
  · rw [Int.one_mul]; exact q B hB.1 hB.2
def Sizes (bs fs : List (List Cmd)) : Prop := fs = [] ∨ Ext bs fs
def spSizes (K : PySem.W.Frag) : Sp := fun vs H Q _ => ∃ (dk p : Addr) (as : List Addr) (bs : List (List Cmd)), vs = [.ref dk, .ref p] ∧ H dk = some (Dk.DkO dk) ∧ H p = some (.lst (as.map V.ref)) ∧ BodA K H as bs ∧ VOk bs ∧ 1 ≤ bs.length ∧ bs.length ≤ 4 ∧ (∀ b ∈ bs, (b.length : Int) ≤ 7) ∧ ∀ f H' as' fs, FB K H H' f as' fs → Sizes bs fs → Q (.ref f) H'
theorem ok_law_sizes {ad : Ad} (T : Txt K w mg ad) : FnOk P w K mg base CX0 2 ad.a_law_sizes ad.d_law_sizes ["deck", "bodies"] (spSizes K) := by
  refine T.F_law_sizes.ok sc_law_sizes (fun vs H Q E h => ?_) (fun cdv A outer s H vs Q E hr h => ?_)
  · obtain ⟨dk, p, as0, bs, rfl, hD, hp, hB, hV, h1, h4, h7, k⟩ := h
    rfl
  · obtain ⟨dk, p, as0, bs, rfl, hD, hp, hB, hV, h1, h4, h7, k⟩ := h
    refine ⟨_, (pss_cons (ps_set (i := 2) sc_law_sizes.nd rfl (Or.inl rfl) (pe_call (ok_law_take T) (hr.mono (by decide)) rfl T.m_law_take T.F_law_take.kp T.b_law_take .nil pass0 (pa_cons (pv 0) (pa_cons pe_int pa_nil))))
      (pss_cons (ps_set (i := 3) sc_law_sizes.nd rfl (Or.inl rfl) (pe_callTy (T := "list") Rd.c_list (by rfl) T.z_list (by decide +kernel) (pa_cons (pv 1) pa_nil)))
      (pss_cons (ps_if (pt_cmpR op_eq (pv 2) pe_int (nomark _)) (pss_one (ps_ret (pe_lst pa_nil))) pss_nil)
      (Evl.pss_cut (ps_if (pt_cmpR op_eq (pv 2) pe_int (nomark _)) (pss_cons (ps_set (i := 3) sc_law_sizes.nd rfl (Or.inl rfl) (pe_op op_cat (pv 3) (pe_lc (own := [("number", 4)]) (g := gName 4) (tt := tYes) rfl sc_law_sizes.nd (pi_range1 rfl T.z_range (pa_cons (pe_op op_add pe_int (pe_call (ok_law_take T) (hr.mono (by decide)) rfl T.m_law_take T.F_law_take.kp T.b_law_take .nil pass0 (pa_cons (pv 0) (pa_cons pe_int pa_nil)))) pa_nil)) (blkOk_by (N := ["deck", "bodies", "kind", "found", "number", "place", "at", "more"]) (sc := (defScope s_law_sizes)) (by decide +kernel)) (fun _ _ _ _ _ => (pg_name (i := 4) sc_law_sizes.nd rfl (Or.inl rfl))) (fun _ _ _ _ _ => pts_nil) (fun _ _ _ _ _ => (pe_lst pa_nil)))))
      (pss_one (ps_asg (pe_op op_cat (pe_ix ix_list (pv 3) pe_int (fun _ _ => rfl)) (pe_lc (own := [("place", 5)]) (g := gName 5) (tt := tYes) rfl sc_law_sizes.nd (pi_range1 rfl T.z_range (pa_cons (pe_op op_add pe_int (pe_call (ok_law_take T) (hr.mono (by decide)) rfl T.m_law_take T.F_law_take.kp T.b_law_take .nil pass0 (pa_cons (pv 0) (pa_cons pe_int pa_nil)))) pa_nil)) (blkOk_by (N := ["deck", "bodies", "kind", "found", "number", "place", "at", "more"]) (sc := (defScope s_law_sizes)) (by decide +kernel)) (fun _ _ _ _ _ => (pg_name (i := 5) sc_law_sizes.nd rfl (Or.inl rfl))) (fun _ _ _ _ _ => pts_nil) (fun _ _ _ _ _ => (pe_tup (pa_cons pe_str (pa_cons pe_int (pa_cons pe_int pa_nil))))))) (pg_sub (pv 3) pe_int set_list)))) pss_nil)
      (Evl.pss_cut (ps_if (PW.pt (pw_or (pt_cmpR op_eq (pv 2) pe_int (nomark _)) (pw_or1 (pt_cmpR op_eq (pv 2) pe_int (nomark _))))) (pss_one (ps_set (i := 3) sc_law_sizes.nd rfl (Or.inl rfl) (pe_op op_cat (pv 3) (pe_lc (own := [("number", 4)]) (g := gName 4) (tt := tYes) rfl sc_law_sizes.nd (pi_range1 rfl T.z_range (pa_cons (pe_op op_sub (pe_op op_sub (pe_op op_add pe_int (pv 2)) pe_int) (pe_callB (id := "len") Rd.c_len (by rfl) T.z_len (by decide +kernel) (pa_cons (pv 1) pa_nil))) pa_nil)) (blkOk_by (N := ["deck", "bodies", "kind", "found", "number", "place", "at", "more"]) (sc := (defScope s_law_sizes)) (by decide +kernel)) (fun _ _ _ _ _ => (pg_name (i := 4) sc_law_sizes.nd rfl (Or.inl rfl))) (fun _ _ _ _ _ => pts_nil) (fun _ _ _ _ _ => (pe_lst pa_nil)))))) pss_nil)
      (Evl.pss_cut (ps_if (PW.pt (pw_or (pt_cmpR op_eq (pv 2) pe_int (nomark _)) (pw_or (pt_cmpR op_eq (pv 2) pe_int (nomark _)) (pw_or1 (pt_cmpR op_eq (pv 2) pe_int (nomark _)))))) (pss_cons (ps_set (i := 6) sc_law_sizes.nd rfl (Or.inl rfl) (pe_call (ok_law_take T) (hr.mono (by decide)) rfl T.m_law_take T.F_law_take.kp T.b_law_take .nil pass0 (pa_cons (pv 0) (pa_cons (pe_callB (id := "min") (Rd.c_min2 rfl) (by rfl) T.z_min (by decide +kernel) (pa_cons (pe_callB (id := "len") Rd.c_len (by rfl) T.z_len (by decide +kernel) (pa_cons (pv 3) pa_nil)) (pa_cons pe_int pa_nil))) pa_nil))))
      (pss_cons (ps_set (i := 7) sc_law_sizes.nd rfl (Or.inl rfl) (pe_op op_sub (pe_op op_add pe_int (pe_op op_mulW (pe_callTy (T := "int") Rd.c_int (by rfl) T.z_int (by decide +kernel) (pa_cons (pe_or (pe_cmpR op_eq (pv 2) pe_int (nomark _)) (pe_one (pe_cmpR op_eq (pv 2) pe_int (nomark _)))) pa_nil)) (pe_op op_add pe_int (pe_call (ok_law_take T) (hr.mono (by decide)) rfl T.m_law_take T.F_law_take.kp T.b_law_take .nil pass0 (pa_cons (pv 0) (pa_cons pe_int pa_nil)))))) (pe_callB (id := "len") Rd.c_len (by rfl) T.z_len (by decide +kernel) (pa_cons (pe_ix ix_list (pv 3) (pv 6) (fun _ _ => rfl)) pa_nil))))
      (pss_one (ps_asg (pe_op op_cat (pe_ix ix_list (pv 3) (pv 6) (fun _ _ => rfl)) (pe_lc (own := [("place", 5)]) (g := gName 5) (tt := tYes) rfl sc_law_sizes.nd (pi_range1 rfl T.z_range (pa_cons (pv 7) pa_nil)) (blkOk_by (N := ["deck", "bodies", "kind", "found", "number", "place", "at", "more"]) (sc := (defScope s_law_sizes)) (by decide +kernel)) (fun _ _ _ _ _ => (pg_name (i := 5) sc_law_sizes.nd rfl (Or.inl rfl))) (fun _ _ _ _ _ => pts_nil) (fun _ _ _ _ _ => (pe_tup (pa_cons pe_str (pa_cons pe_int (pa_cons pe_int pa_nil))))))) (pg_sub (pv 3) (pv 6) set_list))))) pss_nil)
      (pss_one (ps_ret (pv 3))))))))), ?_⟩
    try dsimp only [L2.cxOf, L2.Cx.nox, L2.Cx.wish]
    change (_ : TS) _ ([some (.ref dk), some (.ref p), none, none, none, none, none, none] : St) _
    walk_at "rd"
    intro kd y0 y1
    walk_at "rd"
    refine Rd.listOf (SqL.of hp) fun f H1 n1 e1 hf => ?_
    have hF1 : FB K H H1 f as0 bs := by
      refine ⟨n1, e1, hf, hB.ex e1, fun a ha z => ?_, hV⟩
      subst z
      obtain ⟨k, hk⟩ := List.getElem?_of_mem ha
      have hkl := (List.getElem?_eq_some_iff.mp hk).1
      obtain ⟨vs, h3, _⟩ := hB.rw k a _ hk (List.getElem?_eq_getElem (by rw [← hB.len]; exact hkl))
      rw [h3] at n1
      cases n1
    have hD1 := e1 _ _ hD
    have hx1 := ext_self h4 h7
    walk_at "rd"
    refine Rd.ifd (fun c0 => ?_) (fun c0 => ?_)
    · walk_at "rd"
      refine Rd.xlst rfl fun g H2 n2 e2 hg => ?_
      exact k g H2 [] [] ⟨Evl.fresh_back e1 n2, e1.trans e2, hg, ⟨rfl, fun k a b h => nomatch h⟩, (fun _ h => nomatch h), fun _ h => nomatch h⟩ (.inl rfl)
    walk_at "rd"
    have seven : ∀ f ∈ bs, f.length ≤ 7 := fun f hf => by have := h7 f hf; omega
    refine ⟨fun σ H' => ∃ (f : Addr) (as : List Addr) (fs : List (List Cmd)) (v4 v5 : Option V), σ = [some (.ref dk), some (.ref p), some (.int kd), some (.ref f), v4, v5, none, none] ∧ FB K H H' f as fs ∧ Ext bs fs ∧ (kd ≠ 5 → fs.length = bs.length ∧ ∀ f ∈ fs, f.length ≤ 7), ?_, ?_⟩
    · walk_at "rd"
      refine Rd.ifd (fun c5 => ?_) (fun c5 => ?_)
      · walk_at "rd"
        intro t t0 t1
        walk_at "rd"
        refine xlcEmp (K := K) (by omega) (by omega) (fun _ => rfl) fun q es H2 nq e2 hq hel hes => ?_
        refine Rd.cat (e2 _ _ hF1.at_) hq (by rw [List.length_map, List.length_map, hB.len]; omega) fun g H3 n3 e3 hg => ?_
        have hF3 := hF1.app e2 hes hel n3 e3 hg
        have hx3 : Ext bs (bs ++ List.replicate (60 + t).toNat []) := hx1.app (by omega)
        have hD3 := e3 _ _ (e2 _ _ hD1)
        obtain ⟨a, b, vs, ha, hb, haf, hav, hbd⟩ := hF3.row (k := 0) (by rw [List.length_append]; omega)
        have hbl : b.length ≤ 7 := by
          rw [List.getElem?_append_left (by omega)] at hb
          exact seven b (List.mem_of_getElem? hb)
        walk_at "rd"
        refine Rd.ixL (SqL.of hF3.at_) (Rd.atI_i (by decide) (by rw [List.getElem?_map]; exact congrArg _ ha)) ?_
        walk_at "rd"
        intro u u0 u1
        walk_at "rd"
        refine xlcCps (K := K) (by omega) (by omega) (fun _ => rfl) fun p2 ys H4 np2 e4 hp2 hys => ?_
        refine Rd.cat (e4 _ _ hav) hp2 (by rw [Dt.lenA hbd, Dt.lenA hys]; simp; omega) fun r H5 n5 e5 hr => ?_
        walk_at "rd"
        have hF5 := hF3.longer hb hav hbd e4 hys n5 e5 hr
        refine Rd.setL ((e4.trans e5) _ _ hF3.at_) (ixN_i (i := 0) (by decide) (by rw [List.length_map, List.length_append, hel]; show 0 < _; omega)) ?_
        walk_at "rd"
        exact ⟨g, _, _, _, _, rfl, hF5, hx3.set hb (by omega), fun h => (h c5).elim⟩
      · walk_at "rd"
        exact ⟨f, as0, bs, _, _, rfl, hF1, hx1, fun _ => ⟨rfl, seven⟩⟩
    · rintro σ H2 ⟨f, as, fs, v4, v5, rfl, hF2, hx2, hk5⟩
      have hD2 := hF2.ex _ _ hD
      walk_at "rd"
      refine ⟨fun σ H' => ∃ (f : Addr) (as : List Addr) (fs : List (List Cmd)) (v4 v5 : Option V), σ = [some (.ref dk), some (.ref p), some (.int kd), some (.ref f), v4, v5, none, none] ∧ FB K H H' f as fs ∧ Ext bs fs ∧ (kd ≠ 5 → ∀ f ∈ fs, f.length ≤ 7), ?_, ?_⟩
      · by_cases c12 : kd = 1 ∨ kd = 2
        · obtain ⟨hfl, hf7⟩ := hk5 (by omega)
          have hp2 := hF2.ex _ _ hp
          have hal : as0.length = bs.length := hB.len
          rcases c12 with rfl | rfl
          all_goals
            walk_at "rd"
            refine xlcEmp (K := K) (by rw [List.length_map]; omega) (by rw [List.length_map]; omega) (fun _ => rfl) fun q es H3 nq e3 hq hel hes => ?_
            refine Rd.cat (e3 _ _ hF2.at_) hq (by rw [List.length_map] at hel; rw [List.length_map, List.length_map, hF2.bod.len]; omega) fun g H4 n4 e4 hg => ?_
            walk_at "rd"
            refine ⟨g, _, _, _, _, rfl, hF2.app e3 hes hel n4 e4 hg, hx2.app (by rw [List.length_map]; omega), fun _ b hb => ?_⟩
            rcases List.mem_append.mp hb with h | h
            · exact hf7 b h
            · rw [List.eq_of_mem_replicate h]; exact Nat.zero_le _
        · have n1 : ¬ kd = 1 := fun h => c12 (.inl h)
          have n2 : ¬ kd = 2 := fun h => c12 (.inr h)
          walk_at "rd"
          exact ⟨f, as, fs, _, _, rfl, hF2, hx2, fun h => (hk5 h).2⟩
      · rintro σ H3 ⟨f, as, fs, v4, v5, rfl, hF3, hx3, hk7⟩
        have hD3 := hF3.ex _ _ hD
        walk_at "rd"
        refine ⟨fun σ H' => ∃ (f : Addr) (as : List Addr) (fs : List (List Cmd)) (v4 v5 v6 v7 : Option V), σ = [some (.ref dk), some (.ref p), some (.int kd), some (.ref f), v4, v5, v6, v7] ∧ FB K H H' f as fs ∧ Ext bs fs, ?_, ?_⟩
        rotate_left
        · rintro σ H4 ⟨f, as, fs, v4, v5, v6, v7, rfl, hF4, hx4⟩
          walk_at "rd"
          exact k f H4 as fs hF4 (.inr hx4)
        by_cases c234 : kd = 2 ∨ kd = 3 ∨ kd = 4
        · have hk8 := hk7 (by omega)
          have hfl : 1 ≤ fs.length := by have := hx3.len; omega
          have hal := hF3.bod.len
          rcases c234 with rfl | rfl | rfl
          all_goals
            walk_at "rd"
            refine Rd.len (SqL.of hF3.at_) ?_
            walk_at "rd"
            refine Rd.take hD3 (by rw [List.length_map]; split <;> omega) ?_
            intro x x0 x1
            have hx : x.toNat < fs.length := by
              rw [List.length_map] at x1
              split at x1 <;> omega
            obtain ⟨a, b, vs, ha, hb, haf, hav, hbd⟩ := hF3.row hx
            have hb7 := hk8 b (List.mem_of_getElem? hb)
            walk_at "rd"
            intro u u0 u1
            walk_at "rd"
            refine x_mulS (by decide) ⟨by omega, by omega⟩ fun m m0 m1 => ?_
            walk_at "rd"
            refine Rd.ixL (SqL.of hF3.at_) (Rd.atI_i x0 (by rw [List.getElem?_map, ha]; rfl)) ?_
            walk_at "rd"
            have hvl : vs.length = b.length := by rw [Dt.lenA hbd, List.length_map]
            refine Rd.ixL (SqL.of hF3.at_) (Rd.atI_i x0 (by rw [List.getElem?_map, ha]; rfl)) ?_
            walk_at "rd"
            refine xlcCps (K := K) (by omega) (by omega) (fun _ => rfl) fun p2 ys H4 np2 e4 hp2 hys => ?_
            refine Rd.cat (e4 _ _ hav) hp2 (by rw [Dt.lenA hbd, Dt.lenA hys]; simp; omega) fun r H5 n5 e5 hr => ?_
            walk_at "rd"
            have hF5 := hF3.longer hb hav hbd e4 hys n5 e5 hr
            refine Rd.setL ((e4.trans e5) _ _ hF3.at_) (ixN_i x0 (by rw [List.length_map]; omega)) ?_
            walk_at "rd"
            exact ⟨f, _, _, _, _, _, _, rfl, hF5, hx3.set hb (by omega)⟩
        · have n2 : ¬ kd = 2 := fun h => c234 (.inl h)
          have n3 : ¬ kd = 3 := fun h => c234 (.inr (.inl h))
          have n4 : ¬ kd = 4 := fun h => c234 (.inr (.inr h))
          walk_at "rd"
          exact ⟨f, as, fs, _, _, _, _, rfl, hF3, hx3⟩

/-! split -/
/-! ### what the law expects, plain -/
def lateC : Cmd := ("copy", [.int 0, .int 0, .int 0])
theorem late_bad (bh bs : Int) : ¬ okC lateC bh bs := fun ⟨s, h1, h2, _⟩ => by
  obtain rfl := shp_fun h1 copy_shp
  have : (3 : Nat) = 2 := h2
  omega
theorem late_typ : CmdT lateC := .inr ⟨"rr", copy_shp, fun h => by
  have : (3 : Nat) = 2 := h
  omega⟩
theorem late_vals : ValsOk lateC := fun o ho => by
  have ho : o ∈ [PyData.int 0, .int 0, .int 0] := ho
  simp at ho
  rw [ho]
  exact valok_int 0
def Typ (fs : List (List Cmd)) : Prop := fs.length ≤ 1100 ∧ ∀ f ∈ fs, f.length ≤ 5000 ∧ ∀ c ∈ f, CmdT c ∧ c.2.length ≤ 10
theorem Typ.bs {fs : List (List Cmd)} (h : Typ fs) : BsOk fs := ⟨by have := h.1; omega, fun f hf => by have := (h.2 f hf).1; omega, fun f hf c hc => by
  obtain ⟨h1, h2⟩ := (h.2 f hf).2 c hc
  exact ⟨h1, by omega⟩⟩
theorem Typ.chg {fs : List (List Cmd)} {k j : Nat} {f : List Cmd} {c : Cmd} (h : Typ fs) (hf : fs[k]? = some f) (hc : CmdT c) (hz : c.2.length ≤ 10) : Typ (fs.set k (f.set j c)) := ⟨by rw [List.length_set]; exact h.1, fun g hg => by
  have hfm := h.2 f (List.mem_of_getElem? hf)
  rcases mem_set_or hg with hg | rfl
  · exact h.2 g hg
  · refine ⟨by rw [List.length_set]; exact hfm.1, fun d hd => ?_⟩
    rcases mem_set_or hd with hd | rfl
    · exact hfm.2 d hd
    · exact ⟨hc, hz⟩⟩
def LowOk (b f : List Cmd) (N : Nat) : Prop := ∀ (j : Nat) c, b[j]? = some c → ∃ c2, f[j]? = some c2 ∧ (c2 = c ∨ (¬ okC c2 ((f.length : Int) - j - 1) N ∧ PyData.eqv (cmdD c2) (cmdD c) = false))
structure Fnd (bs fs : List (List Cmd)) (K : Nat) : Prop where
  len : bs.length ≤ fs.length
  row : ∀ (i : Nat) b, i < K → bs[i]? = some b → ∃ f, fs[i]? = some f ∧ b.length ≤ f.length ∧ LowOk b f fs.length ∧ ∀ (j : Nat) c2, b.length ≤ j → f[j]? = some c2 → c2 = copyC
  more : ∀ (i : Nat) f, bs.length ≤ i → fs[i]? = some f → ∀ c ∈ f, c = copyC
theorem Fnd.less {bs fs : List (List Cmd)} {K K' : Nat} (h : Fnd bs fs K) (hk : K' ≤ K) : Fnd bs fs K' := ⟨h.len, fun i b hi => h.row i b (by omega), h.more⟩
theorem fnd_ext {bs fs : List (List Cmd)} (h : Ext bs fs) (hg : BodsG bs 7) : Fnd bs fs bs.length ∧ Typ fs := by
  refine ⟨⟨h.len, fun i b _ hb => ?_, fun i f hi hf c hc => ?_⟩, h.cap, fun f hf => ⟨h.each f hf, fun c hc => ?_⟩⟩
  · obtain ⟨n, hn⟩ := h.at_ i b hb
    refine ⟨_, hn, by rw [List.length_append]; omega, fun j c hc => ⟨c, ?_, .inl rfl⟩, fun j c2 hj hc => ?_⟩
    · rw [List.getElem?_append_left (List.getElem?_eq_some_iff.mp hc).1]; exact hc
    · rw [List.getElem?_append_right hj] at hc
      exact List.eq_of_mem_replicate (List.mem_of_getElem? hc)
  · obtain ⟨n, rfl⟩ := h.more i f hi hf
    exact List.eq_of_mem_replicate hc
  · obtain ⟨i, hi⟩ := List.getElem?_of_mem hf
    have copy : ∀ n, c ∈ List.replicate n copyC → CmdT c ∧ c.2.length ≤ 10 := fun n hn => by
      rw [List.eq_of_mem_replicate hn]
      exact ⟨copy_typ, by decide⟩
    by_cases hb : i < bs.length
    · obtain ⟨n, hn⟩ := h.at_ i _ (List.getElem?_eq_getElem hb)
      rw [hi] at hn
      cases hn
      rcases List.mem_append.mp hc with hc | hc
      · obtain ⟨j, hj⟩ := List.getElem?_of_mem hc
        have := hg.cmd _ (List.getElem_mem hb) j c hj
        exact ⟨this.1, by have := this.2.2.2; omega⟩
      · exact copy n hc
    · obtain ⟨n, rfl⟩ := h.more i f (by omega) hi
      exact copy n hc
theorem low_chg {b f : List Cmd} {N j : Nat} {c c' : Cmd} (h : LowOk b f N) (hj : b[j]? = some c) (hbad : ¬ okC c' ((f.length : Int) - j - 1) N) (hne : PyData.eqv (cmdD c') (cmdD c) = false) : LowOk b (f.set j c') N := fun i d hd => by
  obtain ⟨c2, h1, h2⟩ := h i d hd
  rw [List.length_set]
  by_cases e : j = i
  · subst e
    rw [hj] at hd
    cases hd
    exact ⟨c', List.getElem?_set_self (List.getElem?_eq_some_iff.mp h1).1, .inr ⟨hbad, hne⟩⟩
  · exact ⟨c2, by rw [List.getElem?_set_ne e]; exact h1, h2⟩
theorem Fnd.chg {bs fs : List (List Cmd)} {K k j : Nat} {b f : List Cmd} {c c' : Cmd} (h : Fnd bs fs K) (hb : bs[k]? = some b) (hf : fs[k]? = some f) (hj : b[j]? = some c) (hbad : ¬ okC c' ((f.length : Int) - j - 1) fs.length) (hne : PyData.eqv (cmdD c') (cmdD c) = false) : Fnd bs (fs.set k (f.set j c')) K := by
  have hkf := (List.getElem?_eq_some_iff.mp hf).1
  have hkb := (List.getElem?_eq_some_iff.mp hb).1
  have hjb := (List.getElem?_eq_some_iff.mp hj).1
  refine ⟨by rw [List.length_set]; exact h.len, fun i b' hi hb' => ?_, fun i g hi hg => ?_⟩
  · obtain ⟨f', h1, h2, h3, h4⟩ := h.row i b' hi hb'
    by_cases e : k = i
    · subst e
      rw [hb] at hb'; cases hb'
      rw [hf] at h1; cases h1
      refine ⟨f.set j c', List.getElem?_set_self hkf, by rw [List.length_set]; exact h2, by rw [List.length_set]; exact low_chg h3 hj hbad hne, fun i' c2 hi' hc2 => ?_⟩
      rw [List.getElem?_set_ne (by omega)] at hc2
      exact h4 i' c2 hi' hc2
    · exact ⟨f', by rw [List.getElem?_set_ne e]; exact h1, h2, by rw [List.length_set]; exact h3, h4⟩
  · rw [List.getElem?_set_ne (by omega)] at hg
    exact h.more i g hi hg
def Lx (n j n' j' : Nat) : Prop := n < n' ∨ n = n' ∧ j ≤ j'
def DueP (fs : List (List Cmd)) (n0 j0 : Nat) : Why → Prop
  | none => ∀ n j, Lx n0 j0 n j → ¬ BadAt fs n j
  | some (.inr (n, j)) => Lx n0 j0 n j ∧ BadAt fs n j ∧ ∀ n' j', Lx n0 j0 n' j' → BadAt fs n' j' → Lx n j n' j'
  | some (.inl _) => False
theorem due_step {fs : List (List Cmd)} {n0 j0 n1 j1 : Nat} {r : Why} (h : DueP fs n1 j1 r) (hle : ∀ n j, Lx n1 j1 n j → Lx n0 j0 n j) (hno : ∀ n j, Lx n0 j0 n j → BadAt fs n j → Lx n1 j1 n j) : DueP fs n0 j0 r := by
  match r, h with
  | none, h => exact fun n j hl hb => h n j (hno n j hl hb) hb
  | some (.inr (n, j)), ⟨h1, h2, h3⟩ => exact ⟨hle _ _ h1, h2, fun n' j' hl hb => h3 n' j' (hno _ _ hl hb) hb⟩
theorem not_bad_copy {fs : List (List Cmd)} {n j : Nat} {f : List Cmd} (hf : fs[n]? = some f) (h : ∀ c, f[j]? = some c → c = copyC) : ¬ BadAt fs n j := fun ⟨b, c, h1, h2, h3⟩ => by
  rw [hf] at h1; cases h1
  rw [h c h2] at h3
  exact h3 (copy_ok _ _)
theorem due_end {bs fs : List (List Cmd)} (h : Fnd bs fs bs.length) : DueP fs bs.length 0 none := fun n j hl hb => by
  obtain ⟨f, c, h1, h2, h3⟩ := id hb
  refine not_bad_copy h1 (fun c hc => h.more n f ?_ h1 c (List.mem_of_getElem? hc)) hb
  rcases hl with h | ⟨h, _⟩ <;> omega
theorem due_next {bs fs : List (List Cmd)} {k : Nat} {b : List Cmd} {r : Why} (h : Fnd bs fs (k + 1)) (hb : bs[k]? = some b) (hd : DueP fs (k + 1) 0 r) : DueP fs k b.length r := by
  obtain ⟨f, h1, h2, h3, h4⟩ := h.row k b (by omega) hb
  refine due_step hd (fun n j hl => ?_) fun n j hl hbad => ?_
  · rcases hl with h | ⟨h, _⟩
    · exact .inl (by omega)
    · exact .inl (by omega)
  · rcases hl with h | ⟨rfl, hj⟩
    · by_cases e : n = k + 1
      · exact .inr ⟨e.symm, Nat.zero_le _⟩
      · exact .inl (by omega)
    · exact (not_bad_copy h1 (fun c hc => h4 j c hj hc) hbad).elim
theorem due_late {bs fs : List (List Cmd)} {k l : Nat} {b f : List Cmd} (h : Fnd bs fs (k + 1)) (hb : bs[k]? = some b) (hf : fs[k]? = some f) (hl : b.length ≤ l) (hlf : l < f.length) : DueP (fs.set k (f.set l lateC)) k b.length (some (.inr (k, l))) := by
  obtain ⟨f', h1, h2, h3, h4⟩ := h.row k b (by omega) hb
  rw [hf] at h1; cases h1
  have hkf := (List.getElem?_eq_some_iff.mp hf).1
  have hg : (fs.set k (f.set l lateC))[k]? = some (f.set l lateC) := List.getElem?_set_self hkf
  refine ⟨.inr ⟨rfl, hl⟩, ⟨_, lateC, hg, List.getElem?_set_self hlf, late_bad _ _⟩, fun n' j' hl' hbad => ?_⟩
  rcases hl' with h' | ⟨rfl, hj⟩
  · exact .inl h'
  · by_cases hjl : j' < l
    · refine (not_bad_copy hg (fun c hc => ?_) hbad).elim
      rw [List.getElem?_set_ne (by omega)] at hc
      exact h4 j' c hj hc
    · exact .inr ⟨rfl, by omega⟩
theorem fnd_late {bs fs : List (List Cmd)} {k l : Nat} {f : List Cmd} (h : Fnd bs fs (k + 1)) (hk : k < bs.length) : Fnd bs (fs.set k (f.set l lateC)) k := ⟨by rw [List.length_set]; exact h.len, fun i b hi hb => by
  obtain ⟨f', h1, h2, h3, h4⟩ := h.row i b (by omega) hb
  exact ⟨f', by rw [List.getElem?_set_ne (by omega)]; exact h1, h2, by rw [List.length_set]; exact h3, h4⟩, fun i g hi hg => by
  rw [List.getElem?_set_ne (by omega)] at hg
  exact h.more i g hi hg⟩
theorem low_late {b f : List Cmd} {N l : Nat} (h : LowOk b f N) (hl : b.length ≤ l) : LowOk b (f.set l lateC) N := fun j c hc => by
  obtain ⟨c2, h1, h2⟩ := h j c hc
  have hj := (List.getElem?_eq_some_iff.mp hc).1
  exact ⟨c2, by rw [List.getElem?_set_ne (by omega)]; exact h1, by rw [List.length_set]; exact h2⟩
theorem due_bad {fs : List (List Cmd)} {k j : Nat} {r : Why} (h : DueP fs k (j + 1) r) (hb : BadAt fs k j) : DueP fs k j (some (.inr (k, j))) := ⟨.inr ⟨rfl, Nat.le_refl _⟩, hb, fun n' j' hl _ => hl⟩
theorem due_ok {fs : List (List Cmd)} {k j : Nat} {r : Why} (h : DueP fs k (j + 1) r) (hb : ¬ BadAt fs k j) : DueP fs k j r := due_step h (fun n j' hl => by
  rcases hl with h | ⟨h, h'⟩
  · exact .inl h
  · exact .inr ⟨h, by omega⟩) fun n j' hl hbad => by
  rcases hl with h' | ⟨rfl, h'⟩
  · exact .inl h'
  · by_cases e : j' = j
    · subst e; exact (hb hbad).elim
    · exact .inr ⟨rfl, by omega⟩
theorem due_zero {fs : List (List Cmd)} {k : Nat} {r : Why} (h : DueP fs k 0 r) : DueP fs k 0 r := h
theorem ref_due {fs : List (List Cmd)} {r : Why} (hne : fs ≠ []) (h1 : fs.length ≤ 1000) (h2 : ∀ f ∈ fs, f.length ≤ 4000) (h : DueP fs 0 0 r) : Ref fs r := by
  have all : ∀ n j, Lx 0 0 n j := fun n j => by
    by_cases e : n = 0
    · exact .inr ⟨e.symm, Nat.zero_le _⟩
    · exact .inl (by omega)
  match r, h with
  | none, h => exact .ok hne h1 h2 fun n k => h n k (all n k)
  | some (.inr (n, j)), ⟨_, h4, h5⟩ => exact .bad n j h1 h2 h4 fun m i hb => h5 m i (all m i) hb

/-! split -/
theorem setAll {K : PySem.W.Frag} {H : Hp} {v : V} {d : PyData} (h : Dp K H v d) : ∀ (j : Nat) {vs : List V} {ds : List PyData}, DpAll K H vs ds → DpAll K H (vs.set j v) (ds.set j d)
  | _, _, [], hA => by cases hA; exact .nil
  | 0, _, d' :: ds, hA => by
    obtain ⟨_, _, rfl, h1, h2⟩ := dpA_cons hA
    exact .cons h h2
  | j + 1, _, d' :: ds, hA => by
    obtain ⟨_, _, rfl, h1, h2⟩ := dpA_cons hA
    exact .cons h1 (setAll h j h2)
theorem FB.chg {K : PySem.W.Frag} {H0 H H2 H3 : Hp} {f g a : Addr} {as : List Addr} {fs : List (List Cmd)} {k j : Nat} {b : List Cmd} {c : Cmd} {vs : List V} {y : V} (h : FB K H0 H f as fs) (hb : fs[k]? = some b) (ha : H a = some (.lst vs)) (hd : DpAll K H vs (b.map cmdD)) (e2 : Evl.Ex H H2) (ng : H2 g = none) (e3 : Evl.Ex H2 H3) (hg : H3 g = some (.lst vs)) (hy : Dp K H3 y (cmdD c)) (hv : ValsOk c) :
    FB K H0 (upd H3 g (.lst (vs.set j y))) f as fs ∧ FB K H0 (upd (upd H3 g (.lst (vs.set j y))) f (.lst ((as.map V.ref).set k (.ref g)))) f (as.set k g) (fs.set k (b.set j c)) := by
  have h4 : FB K H0 (upd H3 g (.lst (vs.set j y))) f as fs := h.mono (e2.trans (Evl.Ex.mut e3 ng))
  refine ⟨h4, h4.set upd_same (fun z => ?_) ?_ fun d hd => ?_⟩
  · subst z
    rw [e2 _ _ h.at_] at ng; cases ng
  · have hnl : ∀ d ∈ b.map cmdD, Dt.noL d = true := fun d hd => by
      obtain ⟨c, hc, rfl⟩ := List.mem_map.mp hd
      exact cmd_noL (h.val b (List.mem_of_getElem? hb) c hc)
    have g1 : DpAll K (upd H3 g (.lst (vs.set j y))) vs (b.map cmdD) := Dt.updLA hg _ _ hnl (Dt.mnA hd (e2.trans e3))
    have g2 : Dp K (upd H3 g (.lst (vs.set j y))) y (cmdD c) := Dt.updL hg _ _ (cmd_noL hv) hy
    rw [List.map_set]
    exact setAll g2 j g1
  · rcases mem_set_or hd with hd | rfl
    · exact h.val b (List.mem_of_getElem? hb) d hd
    · exact hv
theorem canLay_all : ∀ ds : List PyData, (∀ d ∈ ds, PyData.canLay0 d = true) → PyData.canLayAll0 ds = true
  | [], _ => rfl
  | d :: ds, h => by
    rw [PyData.canLayAll0, h d List.mem_cons_self, canLay_all ds fun d m => h d (List.mem_cons_of_mem _ m)]
    rfl
theorem depth_all {n : Nat} : ∀ ds : List PyData, (∀ d ∈ ds, d.depth ≤ n) → PyData.depthAll ds ≤ n + 1
  | [], _ => by simp [PyData.depthAll]
  | d :: ds, h => by
    have h1 := h d List.mem_cons_self
    have h2 := depth_all ds fun d m => h d (List.mem_cons_of_mem _ m)
    simp [PyData.depthAll]
    omega
theorem depth_ls {n : Nat} (ds : List PyData) (h : ∀ d ∈ ds, d.depth ≤ n) : (PyData.list ds).depth ≤ n + 2 := by
  have := depth_all ds h
  simp [PyData.depth]
  omega
theorem depth_tp {n : Nat} (ds : List PyData) (h : ∀ d ∈ ds, d.depth ≤ n) : (PyData.tuple ds).depth ≤ n + 2 := by
  have := depth_all ds h
  simp [PyData.depth]
  omega
theorem cmd_can {c : Cmd} (h : ValsOk c) (hs : PyData.strOk c.1 = true) : PyData.canLay0 (cmdD c) = true := by
  show PyData.canLay0 (.tuple (.str c.1 :: c.2)) = true
  simp only [PyData.canLay0]
  refine canLay_all _ fun d hd => ?_
  rcases List.mem_cons.mp hd with rfl | hd
  · simpa [PyData.canLay0] using hs
  · exact (h d hd).2.1
theorem cmd_depth {c : Cmd} (h : ValsOk c) : (cmdD c).depth ≤ 8 := depth_tp _ fun d hd => by
  rcases List.mem_cons.mp hd with rfl | hd
  · simp [PyData.depth]
  · exact (h d hd).2.2
theorem tab_str : (tab_SHAPES.all fun p => PyData.strOk p.1) = true := by decide +kernel
theorem non_str : (non_SHAPES.all fun z => PyData.strOk z) = true := by decide +kernel
theorem cmd_str {c : Cmd} (h : CmdT c) : PyData.strOk c.1 = true := by
  rcases h with h | ⟨sh, h, _⟩
  · exact List.all_eq_true.mp non_str _ h
  · exact List.all_eq_true.mp tab_str _ h
theorem cmd_shaped {c : Cmd} (h : ValsOk c) (ht : CmdT c) : SeqAt.shaped (cmdD c) = true := by
  unfold SeqAt.shaped
  rw [cmd_can h (cmd_str ht), Bool.true_and, decide_eq_true_eq]
  have := cmd_depth h
  omega
theorem cmds_shaped {f : List (List Cmd)} (h : VOk f) (ht : Typ f) : SeqAt.shaped (.list (f.map bodyD)) = true := by
  unfold SeqAt.shaped
  rw [Bool.and_eq_true, decide_eq_true_eq]
  constructor
  · simp only [PyData.canLay0]
    refine canLay_all _ fun d hd => ?_
    obtain ⟨b, hb, rfl⟩ := List.mem_map.mp hd
    simp only [bodyD, PyData.canLay0]
    refine canLay_all _ fun d hd => ?_
    obtain ⟨c, hc, rfl⟩ := List.mem_map.mp hd
    exact cmd_can (h b hb c hc) (cmd_str ((ht.2 b hb).2 c hc).1)
  · have : (PyData.list (f.map bodyD)).depth ≤ (8 + 2) + 2 := depth_ls _ fun d hd => by
      obtain ⟨b, hb, rfl⟩ := List.mem_map.mp hd
      exact depth_ls _ fun d hd => by
        obtain ⟨c, hc, rfl⟩ := List.mem_map.mp hd
        exact cmd_depth (h b hb c hc)
    omega
theorem why_pl (r : Why) : Pl 2 (whyD r) := by
  match r with
  | none => exact True.intro
  | some (.inl s) => exact True.intro
  | some (.inr (n, j)) => exact ⟨by show 2 ≤ 1000; decide, fun d hd => by
      have hd : d ∈ [PyData.int n, .int j] := hd
      simp at hd
      rcases hd with rfl | rfl <;> exact True.intro⟩
def WhyOk : Why → Prop
  | some (.inl s) => PyData.strOk s = true
  | _ => True
theorem why_shaped {r : Why} (h : WhyOk r) : SeqAt.shaped (plD (whyD r)) = true := by
  match r, h with
  | none, _ => decide +kernel
  | some (.inl s), h =>
    have h : PyData.strOk s = true := h
    unfold SeqAt.shaped
    simp [whyD, plD, PyData.canLay0, PyData.canLayAll0, PyData.depth, PyData.depthAll, h]
  | some (.inr (n, j)), _ =>
    unfold SeqAt.shaped
    simp [whyD, plD, plA, PyData.canLay0, PyData.canLayAll0, PyData.depth, PyData.depthAll]
theorem ref_why {bs : List (List Cmd)} {r : Why} (h : Ref bs r) : WhyOk r := by
  cases h with
  | bodies => show PyData.strOk _ = true; decide +kernel
  | commands => show PyData.strOk _ = true; decide +kernel
  | empty => trivial
  | bad => trivial
  | ok => trivial
theorem given_pos {n : Nat} {f : Nat → Bool} {v : Nat → V} : 0 < (Evl.given n f v).length ↔ ∃ i, i < n ∧ f i = true := by
  show 0 < (((List.range n).filter fun i => f i).map v).length ↔ _
  rw [List.length_map]
  constructor
  · intro h
    obtain ⟨i, hi⟩ := List.exists_mem_of_length_pos h
    have := List.mem_filter.mp hi
    exact ⟨i, List.mem_range.mp this.1, this.2⟩
  · rintro ⟨i, h1, h2⟩
    exact List.length_pos_of_mem (List.mem_filter.mpr ⟨List.mem_range.mpr h1, h2⟩)
theorem good_ref {bs : List (List Cmd)} (hg : BodsG bs 7) : Ref bs none := .ok (fun h => by have := hg.one; rw [h] at this; exact absurd this (by decide)) (by have := hg.four; omega) (fun b hb => by have := hg.sz b hb; omega) fun n k ⟨b, c, h1, h2, h3⟩ => h3 (hg.cmd b (List.mem_of_getElem? h1) k c h2).2.1
theorem good_bs {bs : List (List Cmd)} (hg : BodsG bs 7) : BsOk bs := ⟨by have := hg.four; omega, fun b hb => by have := hg.sz b hb; omega, fun b hb c hc => by
  obtain ⟨i, hi⟩ := List.getElem?_of_mem hc
  have := hg.cmd b hb i c hi
  exact ⟨this.1, by have := this.2.2.2; omega⟩⟩
def spLaw (K : PySem.W.Frag) : Sp := fun vs H Q _ => ∃ (a : Addr) (ns : List Int), vs = [.ref a] ∧ SqL K H a (ns.map V.int) ∧ ns.length ≤ 63 ∧ ∀ H', Q (.bl true) H'
theorem ok_law {ad : Ad} (T : Txt K w mg ad) : FnOk P w K mg base CX0 7 ad.a_law ad.d_law ["script"] (spLaw K) := by
  refine T.F_law.ok sc_law (fun vs H Q E h => ?_) (fun cdv A outer s H vs Q E hr h => ?_)
  · obtain ⟨a, ns, rfl, hS, hn, k⟩ := h
    rfl
  · obtain ⟨a, ns, rfl, hS, hn, k⟩ := h
    refine ⟨_, (pss_cons (ps_set (i := 1) sc_law.nd rfl (Or.inl rfl) (pe_call (ok_law_deck T) (hr.mono (by decide)) rfl T.m_law_deck T.F_law_deck.kp T.b_law_deck .nil pass0 (pa_cons (pv 0) (pa_cons pe_int (pa_cons pe_int pa_nil)))))
      (pss_cons (ps_set (i := 2) sc_law.nd rfl (Or.inl rfl) (pe_call0 (ok_law_shapes T) (hr.mono (by decide)) rfl T.m_law_shapes T.F_law_shapes.kp T.b_law_shapes .nil pass0))
      (pss_cons (ps_set (i := 3) sc_law.nd rfl (Or.inl rfl) (pe_call (ok_law_bodies T) (hr.mono (by decide)) rfl T.m_law_bodies T.F_law_bodies.kp T.b_law_bodies .nil pass0 (pa_cons (pv 1) (pa_cons (pv 2) (pa_cons pe_int (pa_cons pe_bl pa_nil))))))
      (pss_cons (ps_set (i := 4) sc_law.nd rfl (Or.inl rfl) (pe_callB (id := "len") Rd.c_len (by rfl) T.z_len (by decide +kernel) (pa_cons (pv 3) pa_nil)))
      (pss_cons (ps_set (i := 5) sc_law.nd rfl (Or.inl rfl) (pe_call (ok_law_sizes T) (hr.mono (by decide)) rfl T.m_law_sizes T.F_law_sizes.kp T.b_law_sizes .nil pass0 (pa_cons (pv 1) (pa_cons (pv 3) pa_nil))))
      (Evl.pss_cut (ps_if (pt_cmpR op_ge (pe_callB (id := "len") Rd.c_len (by rfl) T.z_len (by decide +kernel) (pa_cons (pv 5) pa_nil)) (pv 4) (nomark _)) (pss_one (ps_for PassesOwn.never rfl (pi_range1 rfl T.z_range (pa_cons (pe_call (ok_law_take T) (hr.mono (by decide)) rfl T.m_law_take T.F_law_take.kp T.b_law_take .nil pass0 (pa_cons (pv 1) (pa_cons pe_int pa_nil))) pa_nil)) (pg_name (i := 6) sc_law.nd rfl (Or.inl rfl)) (pss_cons (ps_set (i := 7) sc_law.nd rfl (Or.inl rfl) (pe_call (ok_law_take T) (hr.mono (by decide)) rfl T.m_law_take T.F_law_take.kp T.b_law_take .nil pass0 (pa_cons (pv 1) (pa_cons (pv 4) pa_nil))))
      (pss_one (ps_if (pt_cmpR op_gt (pe_callB (id := "len") Rd.c_len (by rfl) T.z_len (by decide +kernel) (pa_cons (pe_ix ix_list (pv 3) (pv 7) (fun _ _ => rfl)) pa_nil)) pe_int (nomark _)) (pss_cons (ps_set (i := 8) sc_law.nd rfl (Or.inl rfl) (pe_call (ok_law_take T) (hr.mono (by decide)) rfl T.m_law_take T.F_law_take.kp T.b_law_take .nil pass0 (pa_cons (pv 1) (pa_cons (pe_callB (id := "len") Rd.c_len (by rfl) T.z_len (by decide +kernel) (pa_cons (pe_ix ix_list (pv 3) (pv 7) (fun _ _ => rfl)) pa_nil)) pa_nil))))
      (pss_cons (ps_set (i := 9) sc_law.nd rfl (Or.inl rfl) (pe_call (ok_law_spoilt T) (hr.mono (by decide)) rfl T.m_law_spoilt T.F_law_spoilt.kp T.b_law_spoilt .nil pass0 (pa_cons (pv 1) (pa_cons (pv 2) (pa_cons (pe_ix ix_list (pe_ix ix_list (pv 3) (pv 7) (fun _ _ => rfl)) (pv 8) (fun _ _ => rfl)) (pa_cons (pe_op op_sub (pe_op op_sub (pe_callB (id := "len") Rd.c_len (by rfl) T.z_len (by decide +kernel) (pa_cons (pe_ix ix_list (pv 5) (pv 7) (fun _ _ => rfl)) pa_nil)) (pv 8)) pe_int) (pa_cons (pe_callB (id := "len") Rd.c_len (by rfl) T.z_len (by decide +kernel) (pa_cons (pv 5) pa_nil)) pa_nil)))))))
      (pss_cons (ps_set (i := 10) sc_law.nd rfl (Or.inl rfl) (pe_callTy (T := "list") Rd.c_list (by rfl) T.z_list (by decide +kernel) (pa_cons (pe_ix ix_list (pv 5) (pv 7) (fun _ _ => rfl)) pa_nil)))
      (pss_cons (ps_asg (pv 9) (pg_sub (pv 10) (pv 8) set_list))
      (pss_one (ps_asg (pv 10) (pg_sub (pv 5) (pv 7) set_list))))))) pss_nil))))) pss_nil)
      (pss_cons (ps_set (i := 11) sc_law.nd rfl (Or.inl rfl) pe_non)
      (Evl.pss_cut (ps_if (pt_cmpR op_eq (pe_callB (id := "len") Rd.c_len (by rfl) T.z_len (by decide +kernel) (pa_cons (pv 5) pa_nil)) pe_int (nomark _)) (pss_one (ps_set (i := 11) sc_law.nd rfl (Or.inl rfl) (pe_tup (pa_cons pe_int (pa_cons pe_int pa_nil))))) pss_nil)
      (pss_cons (ps_for PassesOwn.never rfl (pi_range3 rfl T.z_range (pa_cons (pe_op op_sub (pe_callB (id := "min") (Rd.c_min2 rfl) (by rfl) T.z_min (by decide +kernel) (pa_cons (pe_callB (id := "len") Rd.c_len (by rfl) T.z_len (by decide +kernel) (pa_cons (pv 5) pa_nil)) (pa_cons (pv 4) pa_nil))) pe_int) (pa_cons (pe_un un_neg pe_int) (pa_cons (pe_un un_neg pe_int) pa_nil)))) (pg_name (i := 7) sc_law.nd rfl (Or.inl rfl)) (Evl.pss_cut (ps_if (PW.pt (pw_and (pt_cmpR op_eq (pe_callB (id := "len") Rd.c_len (by rfl) T.z_len (by decide +kernel) (pa_cons (pe_ix ix_list (pv 5) (pv 7) (fun _ _ => rfl)) pa_nil)) pe_int (nomark _)) (pw_and1 (pt_cmpR op_eq (pe_call (ok_law_take T) (hr.mono (by decide)) rfl T.m_law_take T.F_law_take.kp T.b_law_take .nil pass0 (pa_cons (pv 1) (pa_cons pe_int pa_nil))) pe_int (nomark _))))) (pss_cons (ps_set (i := 12) sc_law.nd rfl (Or.inl rfl) (pe_op op_add pe_int (pe_call (ok_law_take T) (hr.mono (by decide)) rfl T.m_law_take T.F_law_take.kp T.b_law_take .nil pass0 (pa_cons (pv 1) (pa_cons pe_int pa_nil)))))
      (pss_cons (ps_set (i := 10) sc_law.nd rfl (Or.inl rfl) (pe_callTy (T := "list") Rd.c_list (by rfl) T.z_list (by decide +kernel) (pa_cons (pe_ix ix_list (pv 5) (pv 7) (fun _ _ => rfl)) pa_nil)))
      (pss_cons (ps_asg (pe_tup (pa_cons pe_str (pa_cons pe_int (pa_cons pe_int (pa_cons pe_int pa_nil))))) (pg_sub (pv 10) (pv 12) set_list))
      (pss_cons (ps_asg (pv 10) (pg_sub (pv 5) (pv 7) set_list))
      (pss_one (ps_set (i := 11) sc_law.nd rfl (Or.inl rfl) (pe_tup (pa_cons (pv 7) (pa_cons (pv 12) pa_nil))))))))) pss_nil)
      (pss_one (ps_for PassesOwn.never rfl (pi_range3 rfl T.z_range (pa_cons (pe_op op_sub (pe_callB (id := "len") Rd.c_len (by rfl) T.z_len (by decide +kernel) (pa_cons (pe_ix ix_list (pv 3) (pv 7) (fun _ _ => rfl)) pa_nil)) pe_int) (pa_cons (pe_un un_neg pe_int) (pa_cons (pe_un un_neg pe_int) pa_nil)))) (pg_name (i := 8) sc_law.nd rfl (Or.inl rfl)) (pss_one (ps_if (pt_cmpR (op_neD hr.units) (pe_ix ix_list (pe_ix ix_list (pv 5) (pv 7) (fun _ _ => rfl)) (pv 8) (fun _ _ => rfl)) (pe_ix ix_list (pe_ix ix_list (pv 3) (pv 7) (fun _ _ => rfl)) (pv 8) (fun _ _ => rfl)) (nomark _)) (pss_one (ps_set (i := 11) sc_law.nd rfl (Or.inl rfl) (pe_tup (pa_cons (pv 7) (pa_cons (pv 8) pa_nil))))) pss_nil))))))
      (Evl.pss_cut (ps_if (pt_cmpR op_gt (pe_callB (id := "len") Rd.c_len (by rfl) T.z_len (by decide +kernel) (pa_cons (pe_lc (own := [("body", 13)]) (g := gName 13) rfl sc_law.nd (pi_list (pv 5)) (blkOk_by (N := ["script", "deck", "shapes", "bodies", "many", "found", "turn", "at", "place", "command", "changed", "due", "late", "body", "passed"]) (sc := (defScope s_law)) (by decide +kernel)) (fun _ _ _ _ _ => (pg_name (i := 13) sc_law.nd rfl (Or.inl rfl))) (fun _ _ _ _ _ => (pts_one (pt_cmpR op_gt (pe_callB (id := "len") (Rd.c_len : CallR _ _ (Rd.rLen K)) (by rfl) T.z_len (by decide +kernel) (pa_cons (pv 13) pa_nil)) pe_int (nomark _)))) (fun _ _ _ _ _ => (pv 13))) pa_nil)) pe_int (nomark _)) (pss_one (ps_set (i := 11) sc_law.nd rfl (Or.inl rfl) pe_str)) pss_nil)
      (Evl.pss_cut (ps_if (pt_cmpR op_gt (pe_callB (id := "len") Rd.c_len (by rfl) T.z_len (by decide +kernel) (pa_cons (pv 5) pa_nil)) pe_int (nomark _)) (pss_one (ps_set (i := 11) sc_law.nd rfl (Or.inl rfl) pe_str)) pss_nil)
      (pss_cons (ps_setLc (i := 14) (own := [("body", 13)]) (g := gName 13) (tt := tYes) rfl sc_law.nd rfl rfl (sw_true rfl rfl rfl (by decide +kernel)) (pi_list (pv 5)) (blkOk_by (N := ["script", "deck", "shapes", "bodies", "many", "found", "turn", "at", "place", "command", "changed", "due", "late", "body", "passed"]) (sc := (defScope s_law)) (by decide +kernel)) (fun _ _ _ _ _ => (pg_name (i := 13) sc_law.nd rfl (Or.inl rfl))) (fun _ _ _ _ _ => pts_nil) (fun _ _ _ _ _ => (pe_callTy (T := "list") (Rd.c_list : CallR _ _ (Rd.rListOf K)) (by rfl) T.z_list (by decide +kernel) (pa_cons (pv 13) pa_nil))))
      (pss_cons (ps_for PassesOwn.never rfl (pi_range1 rfl T.z_range (pa_cons pe_int pa_nil)) (pg_name (i := 6) sc_law.nd rfl (Or.inl rfl)) (pss_one (ps_if (PW.pt (pw_or (pt_cmpR (op_neD hr.units) (pe_call (ok_law_plain_2 T) (hr.mono (by decide)) rfl T.m_law_plain T.F_law_plain.kp T.b_law_plain .nil pass0 (pa_cons (pe_call (ok_law_refusal T) (hr.mono (by decide)) rfl T.m_law_refusal T.F_law_refusal.kp T.b_law_refusal .nil pass0 (pa_cons (pv 14) pa_nil)) pa_nil)) (pe_call (ok_law_plain_2 T) (hr.mono (by decide)) rfl T.m_law_plain T.F_law_plain.kp T.b_law_plain .nil pass0 (pa_cons (pv 11) pa_nil)) (nomark _)) (pw_or1 (pt_cmpR (op_neD hr.units) (pv 14) (pv 5) (nomark _))))) (pss_one (ps_ret pe_bl)) pss_nil)))
      (pss_one (ps_ret (pe_cmpR op_isN1 (pe_call (ok_law_refusal T) (hr.mono (by decide)) rfl T.m_law_refusal T.F_law_refusal.kp T.b_law_refusal .nil pass0 (pa_cons (pe_lc (own := [("body", 13)]) (g := gName 13) (tt := tYes) rfl sc_law.nd (pi_list (pv 3)) (blkOk_by (N := ["script", "deck", "shapes", "bodies", "many", "found", "turn", "at", "place", "command", "changed", "due", "late", "body", "passed"]) (sc := (defScope s_law)) (by decide +kernel)) (fun _ _ _ _ _ => (pg_name (i := 13) sc_law.nd rfl (Or.inl rfl))) (fun _ _ _ _ _ => pts_nil) (fun _ _ _ _ _ => (pe_callTy (T := "list") (Rd.c_list : CallR _ _ (Rd.rListOf K)) (by rfl) T.z_list (by decide +kernel) (pa_cons (pv 13) pa_nil)))) pa_nil)) pe_non (nomark _))))))))))))))))), ?_⟩
    try dsimp only [L2.cxOf, L2.Cx.nox, L2.Cx.wish]
    change (_ : TS) _ ([some (.ref a), none, none, none, none, none, none, none, none, none, none, none, none, none, none] : St) _
    walk_at "rd"
    refine ⟨a, ns, 60, 8, rfl, hS, hn, by decide, by decide, by decide, by decide, fun l hl => ?_⟩
    have hD : (upd H l (Dk.DkO l)) l = some (Dk.DkO l) := upd_same
    generalize upd H l (Dk.DkO l) = H0 at *
    walk_at "rd"
    refine ⟨rfl, fun sh H1 e1 hs => ?_⟩
    have hD1 := e1 _ _ hD
    walk_at "rd"
    refine ⟨l, sh, 7, true, rfl, hD1, hs, by decide, by decide, fun p H2 asb bs n2 e2 hp hB hBne hg => ?_⟩
    have hD2 := e2 _ _ hD1
    have hs2 := e2 _ _ hs
    have hV : VOk bs := fun b hb c hc => by
      obtain ⟨i, hi⟩ := List.getElem?_of_mem hc
      exact (hg.cmd b hb i c hi).2.2.1
    have hbl := hB.len
    have hb1 := hg.one
    have hb4 := hg.four
    walk_at "rd"
    refine ⟨l, p, asb, bs, rfl, hD2, hp, hB, hV, hg.one, hg.four, hg.sz, fun f H3 as fs hF hsz => ?_⟩
    have hD3 := hF.ex _ _ hD2
    have hp3 := hF.ex _ _ hp
    walk_at "rd"
    rw [show ((asb.map V.ref).length : Int) = (bs.length : Int) from by rw [List.length_map, hbl]]
    have brow : ∀ (i : Nat), i < bs.length → ∃ a b vs, asb[i]? = some a ∧ bs[i]? = some b ∧ H2 a = some (.lst vs) ∧ DpAll K H2 vs (b.map cmdD) := fun i hi => by
      have h1 : asb[i]? = some (asb[i]'(by omega)) := List.getElem?_eq_getElem _
      have h2 : bs[i]? = some (bs[i]'hi) := List.getElem?_eq_getElem _
      obtain ⟨vs, h3, h4⟩ := hB.rw i _ _ h1 h2
      exact ⟨_, _, vs, h1, h2, h3, h4⟩
    refine ⟨fun σ H' => ∃ (f : Addr) (as : List Addr) (fs : List (List Cmd)) (v6 v7 v8 v9 v10 : Option V), σ = [some (.ref a), some (.ref l), some (.ref sh), some (.ref p), some (.int bs.length), some (.ref f), v6, v7, v8, v9, v10, none, none, none, none] ∧ FB K H2 H' f as fs ∧ Typ fs ∧ (fs = [] ∨ Fnd bs fs bs.length), ?_, ?_⟩
    · rcases hsz with rfl | hext
      · have has : as.length = 0 := hF.bod.len
        walk_at "rd"
        refine Rd.len (SqL.of hF.at_) ?_
        walk_at "rd"
        refine Rd.ifF (by rw [List.length_map]; omega) ?_
        walk_at "rd"
        exact ⟨f, as, [], _, _, _, _, _, rfl, hF, ⟨by decide, fun _ h => nomatch h⟩, .inl rfl⟩
      · obtain ⟨hfnd, htyp⟩ := fnd_ext hext hg
        have hxl := hext.len
        have has := hF.bod.len
        walk_at "rd"
        refine Rd.len (SqL.of hF.at_) ?_
        walk_at "rd"
        refine Rd.ifT (by rw [List.length_map]; omega) ?_
        walk_at "rd"
        intro t t0 t1
        walk_at "rd"
        refine Rd.xfr1 ⟨by omega, by omega⟩ (fun i σ H' => ∃ (as : List Addr) (fs : List (List Cmd)) (v6 v7 v8 v9 v10 : Option V), σ = [some (.ref a), some (.ref l), some (.ref sh), some (.ref p), some (.int bs.length), some (.ref f), v6, v7, v8, v9, v10, none, none, none, none] ∧ FB K H2 H' f as fs ∧ Typ fs ∧ Fnd bs fs bs.length) ⟨as, fs, _, _, _, _, _, rfl, hF, htyp, hfnd⟩ ?_ ?_
        · rintro i σ H4 hi ⟨as, fs, v6, v7, v8, v9, v10, rfl, hF4, ht4, hf4⟩
          have hD4 := hF4.ex _ _ hD2
          have hs4 := hF4.ex _ _ hs2
          have hp4 := hF4.ex _ _ hp
          have hal4 := hF4.bod.len
          walk_at "rd"
          intro x x0 x1
          obtain ⟨ab, b, vb, hab, hb, havb, hbd⟩ := brow x.toNat (by omega)
          have havb4 := hF4.ex _ _ havb
          have hvbl : vb.length = b.length := by rw [Dt.lenA hbd, List.length_map]
          have hix : atI (asb.map V.ref) x = some (.ref ab) := Rd.atI_i x0 (by rw [List.getElem?_map, hab]; rfl)
          walk_at "rd"
          refine Rd.ixL (SqL.of hp4) hix ?_
          walk_at "rd"
          refine Rd.ifd (fun c0 => ?_) (fun c0 => ?_)
          · walk_at "rd"
            refine Rd.ixL (SqL.of hp4) hix ?_
            walk_at "rd"
            intro y y0 y1
            have hyb : y.toNat < b.length := by omega
            obtain ⟨vy, hvy, hvd⟩ := bA2 hbd (List.getElem?_eq_getElem hyb)
            have hc := List.getElem?_eq_getElem hyb
            generalize b[y.toNat]'hyb = c at *
            obtain ⟨pc, us, rfl, _, _⟩ := Dt.inv_t hvd
            have hcg := hg.cmd b (List.mem_of_getElem? hb) _ c hc
            obtain ⟨fr, hfr, hbfl, hlow, hcp⟩ := hf4.row x.toNat b (by omega) hb
            have hxf := (List.getElem?_eq_some_iff.mp hfr).1
            obtain ⟨af, fr', vf, haf, hfr', hafn, havf, hfd⟩ := hF4.row hxf
            rw [hfr] at hfr'
            cases hfr'
            have hvfl : vf.length = fr.length := by rw [Dt.lenA hfd, List.length_map]
            have hixf : atI (as.map V.ref) x = some (.ref af) := Rd.atI_i x0 (by rw [List.getElem?_map, haf]; rfl)
            have hfrz := (ht4.2 fr (List.mem_of_getElem? hfr)).1
            have hcap := ht4.1
            have hlen4 := hf4.len
            walk_at "rd"
            refine Rd.ixL (SqL.of hp4) hix ?_
            walk_at "rd"
            refine Rd.ixL (SqL.of havb4) (Rd.atI_i y0 hvy) ?_
            walk_at "rd"
            refine Rd.ixL (SqL.of hF4.at_) hixf ?_
            walk_at "rd"
            refine Rd.len (SqL.of hF4.at_) ?_
            walk_at "rd"
            refine ⟨l, sh, pc, c, _, _, rfl, hD4, hs4, Dt.mn hvd hF4.ex, hcg.1, okC_mono hcg.2.1 (by omega) (by rw [List.length_map]; omega), hcg.2.2.1, hcg.2.2.2, fun q H5 c' e5 hq hT' hbad hvals hz' hne => ?_⟩
            walk_at "rd"
            refine Rd.ixL (SqL.of (e5 _ _ hF4.at_)) hixf ?_
            walk_at "rd"
            refine Rd.listOf (SqL.of (e5 _ _ havf)) fun g H6 n6 e6 hgl => ?_
            obtain ⟨hF7, hF8⟩ := hF4.chg (k := x.toNat) (j := y.toNat) hfr havf hfd e5 n6 e6 hgl (Dt.mn hq e6) hvals
            walk_at "rd"
            refine Rd.setL hgl (ixN_i y0 (by omega)) ?_
            walk_at "rd"
            refine Rd.setL hF7.at_ (ixN_i x0 (by rw [List.length_map]; omega)) ?_
            walk_at "rd"
            refine ⟨_, _, _, _, _, _, _, rfl, hF8, ht4.chg hfr hT' hz', hf4.chg hb hfr hc ?_ hne⟩
            rw [List.length_map, hal4, hvfl] at hbad
            rwa [show ((fr.length : Int) - (y.toNat : Int) - 1) = (fr.length : Int) - y - 1 from by omega]
          · walk_at "rd"
            exact ⟨as, fs, _, _, _, _, _, rfl, hF4, ht4, hf4⟩
        · rintro σ H4 ⟨as, fs, v6, v7, v8, v9, v10, rfl, hF4, ht4, hf4⟩
          exact ⟨f, as, fs, _, _, _, _, _, rfl, hF4, ht4, .inr hf4⟩
    · rintro σ H4 ⟨f, as, fs, v6, v7, v8, v9, v10, rfl, hF4, ht4, hf4⟩
      have hD4 := hF4.ex _ _ hD2
      have hs4 := hF4.ex _ _ hs2
      have hp4 := hF4.ex _ _ hp
      have hal4 := hF4.bod.len
      walk_at "rd"
      refine ⟨fun σ H' => ∃ v11, σ = [some (.ref a), some (.ref l), some (.ref sh), some (.ref p), some (.int bs.length), some (.ref f), v6, v7, v8, v9, v10, some v11, none, none, none] ∧ Evl.Ex H4 H' ∧ (fs = [] ∧ Dp K H' v11 (whyD (some (.inr (0, 0)))) ∨ fs ≠ [] ∧ v11 = .non), ?_, ?_⟩
      · walk_at "rd"
        refine Rd.len (SqL.of hF4.at_) ?_
        walk_at "rd"
        by_cases hfe : fs = []
        · refine Rd.ifT (by rw [List.length_map, hal4, hfe]; rfl) ?_
          walk_at "rd"
          refine Rd.xtup rfl fun q H5 n5 e5 hq => ?_
          walk_at "rd"
          exact ⟨_, rfl, e5, .inl ⟨hfe, Dt.ofT hq (.cons (.int _) (.cons (.int _) .nil))⟩⟩
        · have := List.length_pos_iff.mpr hfe
          refine Rd.ifF (by rw [List.length_map]; omega) ?_
          walk_at "rd"
          exact ⟨_, rfl, Evl.Ex.refl _, .inr ⟨hfe, rfl⟩⟩
      · rintro σ H5 ⟨v11, rfl, e5, hdue⟩
        have hF5 := hF4.mono e5
        walk_at "rd"
        refine Rd.len (SqL.of hF5.at_) ?_
        walk_at "rd"
        rw [show (if ((bs.length : Nat) : Int) < (((as.map V.ref).length : Nat) : Int) then ((bs.length : Nat) : Int) else (((as.map V.ref).length : Nat) : Int)) = ((min fs.length bs.length : Nat) : Int) from by rw [List.length_map, hal4]; split <;> omega]
        refine Rd.xfr3 ⟨by omega, by omega, by decide, by decide⟩ (fun i σ H' => ∃ (as' : List Addr) (fs' : List (List Cmd)) (due : V) (r : Why) (v7 v8 v10 v12 v13 : Option V), σ = [some (.ref a), some (.ref l), some (.ref sh), some (.ref p), some (.int bs.length), some (.ref f), v6, v7, v8, v9, v10, some due, v12, v13, none] ∧ FB K H2 H' f as' fs' ∧ Typ fs' ∧ Dp K H' due (whyD r) ∧ fs'.length = fs.length ∧ ((fs' = [] ∧ r = some (.inr (0, 0))) ∨ (fs' ≠ [] ∧ Fnd bs fs' (bs.length - i) ∧ DueP fs' (bs.length - i) 0 r))) ?_ ?_ ?_
        · rcases hdue with ⟨rfl, hd⟩ | ⟨hne, rfl⟩
          · exact ⟨as, [], v11, _, _, _, _, _, _, rfl, hF5, ht4, hd, rfl, .inl ⟨rfl, rfl⟩⟩
          · have hf := hf4.resolve_left hne
            exact ⟨as, fs, _, none, _, _, _, _, _, rfl, hF5, ht4, .non, rfl, .inr ⟨hne, hf, due_end hf⟩⟩
        · rintro i σ H6 hi ⟨as', fs', due, r, v7, v8, v10, v12, v13, rfl, hF6, ht6, hd6, hl6, hcase⟩
          have hne6 : fs' ≠ [] := fun z => by
            rw [z] at hl6
            have : (0 : Nat) = fs.length := hl6
            omega
          obtain ⟨_, hf6, hdp6⟩ : fs' ≠ [] ∧ Fnd bs fs' (bs.length - i) ∧ DueP fs' (bs.length - i) 0 r := hcase.resolve_left fun h => hne6 h.1
          have hlen6 := hf6.len
          have hib : i < bs.length := by omega
          obtain ⟨kN, hkN⟩ : ∃ kN : Nat, bs.length - i = kN + 1 := ⟨bs.length - i - 1, by omega⟩
          rw [hkN] at hf6 hdp6
          rw [show (((min fs.length bs.length : Nat) : Int) - 1 - (i : Int)) = ((kN : Nat) : Int) from by omega]
          have hD6 := hF6.ex _ _ hD2
          have hp6 := hF6.ex _ _ hp
          obtain ⟨ab, b, vb, hab, hb, havb, hbd⟩ := brow kN (by omega)
          have havb6 := hF6.ex _ _ havb
          have hvbl : vb.length = b.length := by rw [Dt.lenA hbd, List.length_map]
          have hb7 : b.length ≤ 7 := by have := hg.sz b (List.mem_of_getElem? hb); omega
          have hix : atI (asb.map V.ref) (kN : Int) = some (.ref ab) := atI_nat (by rw [List.getElem?_map, hab]; rfl)
          obtain ⟨fr, hfr, hbfl, hlow, hcp⟩ := hf6.row kN b (by omega) hb
          have hxf := (List.getElem?_eq_some_iff.mp hfr).1
          obtain ⟨af, fr', vf, haf, hfr', hafn, havf, hfd⟩ := hF6.row hxf
          rw [hfr] at hfr'
          cases hfr'
          have hvfl : vf.length = fr.length := by rw [Dt.lenA hfd, List.length_map]
          have hixf : atI (as'.map V.ref) (kN : Int) = some (.ref af) := atI_nat (by rw [List.getElem?_map, haf]; rfl)
          have hfrz := (ht6.2 fr (List.mem_of_getElem? hfr)).1
          have hal6 := hF6.bod.len
          have hcap := ht6.1
          walk_at "rd"
          refine ⟨fun σ H' => ∃ (as2 : List Addr) (fs2 : List (List Cmd)) (due2 : V) (r2 : Why) (v10 v12 : Option V), σ = [some (.ref a), some (.ref l), some (.ref sh), some (.ref p), some (.int bs.length), some (.ref f), v6, some (.int (kN : Nat)), v8, v9, v10, some due2, v12, v13, none] ∧ FB K H2 H' f as2 fs2 ∧ Typ fs2 ∧ Dp K H' due2 (whyD r2) ∧ fs2.length = fs.length ∧ fs2 ≠ [] ∧ Fnd bs fs2 kN ∧ (∃ fr2, fs2[kN]? = some fr2 ∧ b.length ≤ fr2.length ∧ LowOk b fr2 fs2.length) ∧ DueP fs2 kN b.length r2, ?_, ?_⟩
          · have keep : ∃ (as2 : List Addr) (fs2 : List (List Cmd)) (due2 : V) (r2 : Why) (v10' v12' : Option V), ([some (.ref a), some (.ref l), some (.ref sh), some (.ref p), some (.int bs.length), some (.ref f), v6, some (.int (kN : Nat)), v8, v9, v10, some due, v12, v13, none] : L2.St) = [some (.ref a), some (.ref l), some (.ref sh), some (.ref p), some (.int bs.length), some (.ref f), v6, some (.int (kN : Nat)), v8, v9, v10', some due2, v12', v13, none] ∧ FB K H2 H6 f as2 fs2 ∧ Typ fs2 ∧ Dp K H6 due2 (whyD r2) ∧ fs2.length = fs.length ∧ fs2 ≠ [] ∧ Fnd bs fs2 kN ∧ (∃ fr2, fs2[kN]? = some fr2 ∧ b.length ≤ fr2.length ∧ LowOk b fr2 fs2.length) ∧ DueP fs2 kN b.length r2 :=
              ⟨as', fs', due, r, _, _, rfl, hF6, ht6, hd6, hl6, hne6, hf6.less (by omega), ⟨fr, hfr, hbfl, hlow⟩, due_next hf6 hb hdp6⟩
            walk_at "rd"
            refine Rd.ixL (SqL.of hF6.at_) hixf ?_
            walk_at "rd"
            refine Rd.ifd (fun c4 => ?_) (fun c4 => ?_)
            · walk_at "rd"
              intro z z0 z1
              walk_at "rd"
              refine Rd.ifd (fun cz => ?_) (fun cz => ?_)
              · walk_at "rd"
                intro u u0 u1
                walk_at "rd"
                refine Rd.ixL (SqL.of hF6.at_) hixf ?_
                walk_at "rd"
                refine Rd.listOf (SqL.of havf) fun g H7 n7 e7 hgl => ?_
                walk_at "rd"
                refine Rd.xtup rfl fun q H8 n8 e8 hq => ?_
                walk_at "rd"
                obtain ⟨lt, hlt⟩ : ∃ lt : Nat, 15 + u = (lt : Int) := ⟨(15 + u).toNat, by omega⟩
                rw [hlt]
                have hql : Dp K H8 (.ref q) (cmdD lateC) := Dt.ofT hq (.cons (.str _) (.cons (.int _) (.cons (.int _) (.cons (.int _) .nil))))
                have ng8 : H6 g = none := n7
                obtain ⟨hF9, hF10⟩ := hF6.chg (k := kN) (j := lt) hfr havf hfd (Evl.Ex.refl _) ng8 (e7.trans e8) (e8 _ _ hgl) hql late_vals
                refine Rd.setL (e8 _ _ hgl) (Evl.ixN_nat (by omega)) ?_
                walk_at "rd"
                refine Rd.setL hF9.at_ (Evl.ixN_nat (by rw [List.length_map]; omega)) ?_
                walk_at "rd"
                refine Rd.xtup rfl fun q2 H9 n9 e9 hq2 => ?_
                walk_at "rd"
                refine ⟨_, _, _, some (.inr (kN, lt)), _, _, rfl, hF10.mono e9, ht6.chg hfr late_typ (by decide), Dt.ofT hq2 (.cons (.int _) (.cons (.int _) .nil)), by rw [List.length_set]; exact hl6, fun z => hne6 (List.length_eq_zero_iff.mp (by rw [← List.length_set, z]; rfl)), fnd_late hf6 (by omega), ⟨_, List.getElem?_set_self hxf, by rw [List.length_set]; exact hbfl, by rw [List.length_set]; exact low_late hlow (by omega)⟩, due_late hf6 hb hfr (by omega) (by omega)⟩
              · walk_at "rd"
                exact keep
            · walk_at "rd"
              exact keep
          · rintro σ H7 ⟨as2, fs2, due2, r2, v10, v12, rfl, hF7, ht7, hd7, hl7, hne7, hf7, ⟨fr2, hfr2, hbfl2, hlow2⟩, hdp7⟩
            have hD7 := hF7.ex _ _ hD2
            have hp7 := hF7.ex _ _ hp
            have havb7 := hF7.ex _ _ havb
            have hxf2 := (List.getElem?_eq_some_iff.mp hfr2).1
            obtain ⟨af2, fr', vf2, haf2, hfr', hafn2, havf2, hfd2⟩ := hF7.row hxf2
            rw [hfr2] at hfr'
            cases hfr'
            have hixf2 : atI (as2.map V.ref) (kN : Int) = some (.ref af2) := atI_nat (by rw [List.getElem?_map, haf2]; rfl)
            walk_at "rd"
            refine Rd.ixL (SqL.of hp7) hix ?_
            walk_at "rd"
            refine Rd.xfr3 ⟨by omega, by omega, by decide, by decide⟩ (fun j σ H' => ∃ (due3 : V) (r3 : Why) (v8 : Option V), σ = [some (.ref a), some (.ref l), some (.ref sh), some (.ref p), some (.int bs.length), some (.ref f), v6, some (.int (kN : Nat)), v8, v9, v10, some due3, v12, v13, none] ∧ Evl.Ex H7 H' ∧ Dp K H' due3 (whyD r3) ∧ DueP fs2 kN (b.length - j) r3) ⟨due2, r2, _, rfl, Evl.Ex.refl _, hd7, hdp7⟩ ?_ ?_
            · rintro j σ H8 hj ⟨due3, r3, v8, rfl, e8, hd8, hdp8⟩
              obtain ⟨pN, hpN⟩ : ∃ pN : Nat, b.length - j = pN + 1 := ⟨b.length - j - 1, by omega⟩
              rw [hpN] at hdp8
              rw [show ((vb.length : Int) - 1 - (j : Int)) = ((pN : Nat) : Int) from by omega]
              have hpb : pN < b.length := by omega
              obtain ⟨vy, hvy, hvd⟩ := bA2 hbd (List.getElem?_eq_getElem hpb)
              have hc := List.getElem?_eq_getElem hpb
              generalize b[pN]'hpb = c at *
              obtain ⟨c2, hc2, hcc⟩ := hlow2 pN c hc
              obtain ⟨vz, hvz, hvzd⟩ := bA2 hfd2 hc2
              have hcg := hg.cmd b (List.mem_of_getElem? hb) _ c hc
              have hct2 := (ht7.2 fr2 (List.mem_of_getElem? hfr2)).2 c2 (List.mem_of_getElem? hc2)
              have hcv2 := hF7.val fr2 (List.mem_of_getElem? hfr2) c2 (List.mem_of_getElem? hc2)
              have hl2 := hf7.len
              walk_at "rd"
              refine Rd.ixL (SqL.of (e8 _ _ hF7.at_)) hixf2 ?_
              walk_at "rd"
              refine Rd.ixL (SqL.of (e8 _ _ havf2)) (atI_nat hvz) ?_
              walk_at "rd"
              refine Rd.ixL (SqL.of (e8 _ _ hp7)) hix ?_
              walk_at "rd"
              refine Rd.ixL (SqL.of (e8 _ _ havb7)) (atI_nat hvy) ?_
              refine Rd.neD (Dt.mn hvzd e8) (Dt.mn hvd (hF7.ex.trans e8)) (cmd_shaped hcv2 hct2.1) (cmd_shaped hcg.2.2.1 hcg.1) ?_
              walk_at "rd"
              rcases hcc with rfl | ⟨hbad, hne⟩
              · rw [Rd.eqvRefl (cmd_shaped hcv2 hct2.1)]
                walk_at "rd"
                refine ⟨due3, r3, _, rfl, e8, hd8, ?_⟩
                rw [show b.length - (j + 1) = pN from by omega]
                refine due_ok hdp8 fun ⟨b', c', g1, g2, g3⟩ => ?_
                rw [hfr2] at g1; cases g1
                rw [hc2] at g2; cases g2
                exact g3 (okC_mono hcg.2.1 (by omega) (by omega))
              · rw [hne]
                walk_at "rd"
                refine Rd.xtup rfl fun q H9 n9 e9 hq => ?_
                walk_at "rd"
                refine ⟨_, some (.inr (kN, pN)), _, rfl, e8.trans e9, Dt.ofT hq (.cons (.int _) (.cons (.int _) .nil)), ?_⟩
                rw [show b.length - (j + 1) = pN from by omega]
                exact due_bad hdp8 ⟨fr2, c2, hfr2, hc2, hbad⟩
            · rintro σ H8 ⟨due3, r3, v8, rfl, e8, hd8, hdp8⟩
              rw [show b.length - ((vb.length : Int) - 1 - -1).toNat = 0 from by omega] at hdp8
              refine ⟨as2, fs2, due3, r3, _, _, _, _, _, rfl, hF7.mono e8, ht7, hd8, hl7, .inr ⟨hne7, ?_, ?_⟩⟩
              · rw [show bs.length - (i + 1) = kN from by omega]; exact hf7
              · rw [show bs.length - (i + 1) = kN from by omega]; exact hdp8
        · rintro σ H6 ⟨as', fs', due, r, v7, v8, v10, v12, v13, rfl, hF6, ht6, hd6, hl6, hcase⟩
          have hend : (fs' = [] ∧ r = some (.inr (0, 0))) ∨ (fs' ≠ [] ∧ DueP fs' 0 0 r) := by
            rcases hcase with h | ⟨h1, h2, h3⟩
            · exact .inl h
            · have := h2.len
              rw [show bs.length - (((min fs.length bs.length : Nat) : Int) - 1 - -1).toNat = 0 from by omega] at h3
              exact .inr ⟨h1, h3⟩
          clear hcase hdue
          have hal6 := hF6.bod.len
          have hcap := ht6.1
          refine ⟨fun σ H' => ∃ (due' : V) (r' : Why) (v13 : Option V), σ = [some (.ref a), some (.ref l), some (.ref sh), some (.ref p), some (.int bs.length), some (.ref f), v6, v7, v8, v9, v10, some due', v12, v13, none] ∧ Evl.Ex H6 H' ∧ Dp K H' due' (whyD r') ∧ (((∃ b ∈ fs', 4000 < b.length) ∧ r' = some (.inl "commands")) ∨ ((∀ b ∈ fs', b.length ≤ 4000) ∧ r' = r)), ?_, ?_⟩
          · have hrow : ∀ (i : Nat) (x : V), (as'.map V.ref)[i]? = some x → ∃ (aa : Addr) (ff : List Cmd) (vv : List V), x = .ref aa ∧ fs'[i]? = some ff ∧ H6 aa = some (.lst vv) ∧ vv.length = ff.length := fun i x hx => by
              have hi := (List.getElem?_eq_some_iff.mp hx).1
              rw [List.length_map] at hi
              obtain ⟨aa, ff, vv, h1, h2, _, h4, h5⟩ := hF6.row (k := i) (by omega)
              rw [List.getElem?_map, h1] at hx
              cases hx
              exact ⟨aa, ff, vv, rfl, h2, h4, by rw [Dt.lenA h5, List.length_map]⟩
            walk_at "rd"
            refine Rd.xlcL (fun i => decide ((4000 : Int) < (((fs'.getD i []).length : Nat) : Int))) (fun i => (as'.map V.ref).getD i .non) (SqL.of hF6.at_) (by rw [List.length_map]; omega) (fun _ => rfl) ?_ ?_ ?_
            · intro i x H7 e7 hx H8 e8 Q2 q2
              obtain ⟨aa, ff, vv, rfl, h2, h4, h5⟩ := hrow i x hx
              have h4' := (e7.trans e8) _ _ h4
              walk_at "rd"
              have e9 : fs'.getD i [] = ff := by rw [List.getD_eq_getElem?_getD, h2]; rfl
              rw [h5, ← e9]
              exact q2 _ (Evl.Ex.refl _)
            · intro i x H7 e7 hx hf H8 e8 Q2 q2
              walk_at "rd"
              have e9 : x = (as'.map V.ref).getD i .non := by rw [List.getD_eq_getElem?_getD, hx]; rfl
              rw [e9]
              exact q2 _ (Evl.Ex.refl _)
            · intro q H7 nq e7 hq
              walk_at "rd"
              refine Rd.ifd (fun hbig => ?_) (fun hbig => ?_)
              · walk_at "rd"
                obtain ⟨i, hi, hfi⟩ := given_pos.mp (by omega : 0 < (Evl.given (as'.map V.ref).length (fun i => decide ((4000 : Int) < (((fs'.getD i []).length : Nat) : Int))) (fun i => (as'.map V.ref).getD i .non)).length)
                have hi2 : i < fs'.length := by rw [List.length_map] at hi; omega
                have h3 : (4000 : Int) < (((fs'.getD i []).length : Nat) : Int) := of_decide_eq_true hfi
                rw [List.getD_eq_getElem?_getD, List.getElem?_eq_getElem hi2, Option.getD_some] at h3
                exact ⟨_, _, _, rfl, e7, .str _, .inl ⟨⟨_, List.getElem_mem hi2, by omega⟩, rfl⟩⟩
              · walk_at "rd"
                refine ⟨due, r, _, rfl, e7, Dt.mn hd6 e7, .inr ⟨fun b hb => ?_, rfl⟩⟩
                by_cases hz : b.length ≤ 4000
                · exact hz
                · obtain ⟨i, hi⟩ := List.getElem?_of_mem hb
                  have hi2 := (List.getElem?_eq_some_iff.mp hi).1
                  refine (hbig ?_).elim
                  have := (given_pos (n := (as'.map V.ref).length) (f := fun i => decide ((4000 : Int) < (((fs'.getD i []).length : Nat) : Int))) (v := fun i => (as'.map V.ref).getD i .non)).mpr ⟨i, by rw [List.length_map]; omega, decide_eq_true (by rw [List.getD_eq_getElem?_getD, hi, Option.getD_some]; omega)⟩
                  omega
          · rintro σ H7 ⟨due', r', v13, rfl, e7, hd7, hcase⟩
            have hF7 := hF6.mono e7
            refine ⟨fun σ H' => ∃ (due2 : V) (r2 : Why), σ = [some (.ref a), some (.ref l), some (.ref sh), some (.ref p), some (.int bs.length), some (.ref f), v6, v7, v8, v9, v10, some due2, v12, v13, none] ∧ H' = H7 ∧ Dp K H' due2 (whyD r2) ∧ Ref fs' r2, ?_, ?_⟩
            · walk_at "rd"
              refine Rd.len (SqL.of hF7.at_) ?_
              walk_at "rd"
              refine Rd.ifd (fun hb => ?_) (fun hb => ?_)
              · walk_at "rd"
                exact ⟨_, some (.inl "bodies"), rfl, rfl, .str _, .bodies (by rw [List.length_map] at hb; omega)⟩
              · walk_at "rd"
                rw [List.length_map] at hb
                refine ⟨due', r', rfl, rfl, hd7, ?_⟩
                rcases hcase with ⟨h1, rfl⟩ | ⟨h1, rfl⟩
                · exact .commands (by omega) h1
                · rcases hend with ⟨h2, rfl⟩ | ⟨h2, h3⟩
                  · exact .empty h2
                  · exact ref_due h2 (by omega) h1 h3
            · rintro σ H8 ⟨due2, r2, rfl, rfl, hd8, href⟩
              have hwok := ref_why href
              walk_at "rd"
              refine xlcBods (hF7.bod.dp hF7.at_) (by omega) (fun _ => rfl) (fun _ => rfl) fun pp asp H9 npp e9 hpp hBp _ => ?_
              walk_at "rd"
              refine Rd.xfr1 ⟨by decide, by decide⟩ (fun i σ H' => ∃ v6, σ = [some (.ref a), some (.ref l), some (.ref sh), some (.ref p), some (.int bs.length), some (.ref f), v6, v7, v8, v9, v10, some due2, v12, v13, some (.ref pp)] ∧ Evl.Ex H9 H') ⟨v6, rfl, Evl.Ex.refl _⟩ ?_ ?_
              · rintro i σ H10 hi ⟨v6, rfl, e10⟩
                have hpd := (hBp.ex e10).dp (e10 _ _ hpp)
                have hfd := (hF7.bod.ex (e9.trans e10)).dp ((e9.trans e10) _ _ hF7.at_)
                walk_at "rd"
                refine ⟨pp, fs', rfl, hpd, ht6.bs, fun r3 v3 H11 hr3 e11 hv3 => ?_⟩
                obtain rfl := ref_one hr3 href
                walk_at "rd"
                refine ⟨v3, _, rfl, hv3, why_pl _, fun v4 H12 e12 hv4 => ?_⟩
                walk_at "rd"
                refine ⟨due2, _, rfl, Dt.mn hd8 (((e9.trans e10).trans e11).trans e12), why_pl _, fun v5 H13 e13 hv5 => ?_⟩
                refine Rd.neDr (Dt.mn hv4.dp e13) hv5.dp (why_shaped hwok) ?_
                walk_at "rd"
                have e1013 := (e11.trans e12).trans e13
                refine Rd.neDr (Dt.mn hpd e1013) (Dt.mn hfd e1013) (cmds_shaped hF7.val ht6) ?_
                walk_at "rd"
                exact ⟨_, rfl, e10.trans e1013⟩
              · rintro σ H10 ⟨v6, rfl, e10⟩
                walk_at "rd"
                have hbd := ((hB.ex hF7.ex).ex (e9.trans e10)).dp ((hF7.ex.trans (e9.trans e10)) _ _ hp)
                refine xlcBods hbd (by omega) (fun _ => rfl) (fun _ => rfl) fun pq asq H11 npq e11 hpq hBq _ => ?_
                walk_at "rd"
                refine ⟨pq, bs, rfl, hBq.dp hpq, good_bs hg, fun r3 v3 H12 hr3 e12 hv3 => ?_⟩
                obtain rfl := ref_one hr3 (good_ref hg)
                obtain rfl := Dt.inv_n hv3
                walk_at "rd"
                exact k _

/-! split -/
end
theorem all_mk {K : PySem.W.Frag} {h : Heap} {mg : Str → Option Value} {fa : Addr} (X : K.In h) (G : h.Ns mainGlobals mg) (hfa : mg "law" = some (.ref fa))
    {c_BridgeError : Addr}
    {c_InvalidProgram : Addr}
    {c_Program : Addr}
    {c_TooMany : Addr}
    {nm_InvalidProgram q_InvalidProgram : Str} {N_InvalidProgram : Addr} {bs_InvalidProgram : List Value} {sn_InvalidProgram : List Str} {sub_InvalidProgram : List Value} {ab_InvalidProgram : Bool} {col_InvalidProgram : Option Bool} {dd_InvalidProgram : Option Addr} {m0_InvalidProgram m1_InvalidProgram m2_InvalidProgram m3_InvalidProgram m5_InvalidProgram : Option Value}
    {nm_TooMany q_TooMany : Str} {N_TooMany : Addr} {bs_TooMany : List Value} {sn_TooMany : List Str} {sub_TooMany : List Value} {ab_TooMany : Bool} {col_TooMany : Option Bool} {dd_TooMany : Option Addr} {m0_TooMany m1_TooMany m2_TooMany m3_TooMany m5_TooMany : Option Value}
    {k_KIND_WORDS : Addr} {dd_KIND_WORDS : Option Addr} {its_KIND_WORDS : Array Value} {nn_KIND_WORDS : Nat} {sl_KIND_WORDS : Array (Option Value)}
    {t_LOCALS : Tok}
    {t_MOST_BODIES : Tok}
    {t_MOST_COMMANDS : Tok}
    {t_REGISTERS : Tok}
    {w : World} {k_SHAPES : Addr} {es_SHAPES : Array DictEntry} {nn_SHAPES : Nat} {kt_SHAPES_0 : Tok} {kt_SHAPES_1 : Tok} {kt_SHAPES_2 : Tok} {kt_SHAPES_3 : Tok} {kt_SHAPES_4 : Tok} {kt_SHAPES_5 : Tok} {kt_SHAPES_6 : Tok} {kt_SHAPES_7 : Tok} {kt_SHAPES_8 : Tok} {kt_SHAPES_9 : Tok} {kt_SHAPES_10 : Tok} {kt_SHAPES_11 : Tok} {kt_SHAPES_12 : Tok} {kt_SHAPES_13 : Tok} {kt_SHAPES_14 : Tok} {kt_SHAPES_15 : Tok} {kt_SHAPES_16 : Tok} {kt_SHAPES_17 : Tok} {kt_SHAPES_18 : Tok} {kt_SHAPES_19 : Tok} {kt_SHAPES_20 : Tok}
    {f_law_take : Addr} {oc_law_take kV_law_take dc_law_take pm_law_take cd_law_take ct_law_take : Value} {od_law_take an_law_take : Option Addr} {sl_law_take : Array (Option Value)}
    {f_law_deck : Addr} {oc_law_deck kV_law_deck dc_law_deck pm_law_deck cd_law_deck ct_law_deck : Value} {od_law_deck an_law_deck : Option Addr} {sl_law_deck : Array (Option Value)}
    {f_law_plain : Addr} {oc_law_plain kV_law_plain dc_law_plain pm_law_plain cd_law_plain ct_law_plain : Value} {od_law_plain an_law_plain : Option Addr} {sl_law_plain : Array (Option Value)}
    {f_TooMany_init_ : Addr} {oc_TooMany_init_ kV_TooMany_init_ dc_TooMany_init_ pm_TooMany_init_ cd_TooMany_init_ ct_TooMany_init_ : Value} {od_TooMany_init_ an_TooMany_init_ : Option Addr} {sl_TooMany_init_ : Array (Option Value)}
    {f_InvalidProgram_init_ : Addr} {oc_InvalidProgram_init_ kV_InvalidProgram_init_ dc_InvalidProgram_init_ pm_InvalidProgram_init_ cd_InvalidProgram_init_ ct_InvalidProgram_init_ : Value} {od_InvalidProgram_init_ an_InvalidProgram_init_ : Option Addr} {sl_InvalidProgram_init_ : Array (Option Value)}
    {f_fits : Addr} {oc_fits kV_fits dc_fits pm_fits cd_fits ct_fits : Value} {od_fits an_fits : Option Addr} {sl_fits : Array (Option Value)}
    {f_allowed : Addr} {oc_allowed kV_allowed dc_allowed pm_allowed cd_allowed ct_allowed : Value} {od_allowed an_allowed : Option Addr} {sl_allowed : Array (Option Value)}
    {f_named_registers_of : Addr} {oc_named_registers_of kV_named_registers_of dc_named_registers_of pm_named_registers_of cd_named_registers_of ct_named_registers_of : Value} {od_named_registers_of an_named_registers_of : Option Addr} {sl_named_registers_of : Array (Option Value)}
    {f_check_bodies : Addr} {oc_check_bodies kV_check_bodies dc_check_bodies pm_check_bodies cd_check_bodies ct_check_bodies : Value} {od_check_bodies an_check_bodies : Option Addr} {sl_check_bodies : Array (Option Value)}
    {f_room_of : Addr} {oc_room_of kV_room_of dc_room_of pm_room_of cd_room_of ct_room_of : Value} {od_room_of an_room_of : Option Addr} {sl_room_of : Array (Option Value)}
    {f_Program_init_ : Addr} {oc_Program_init_ kV_Program_init_ dc_Program_init_ pm_Program_init_ cd_Program_init_ ct_Program_init_ : Value} {od_Program_init_ an_Program_init_ : Option Addr} {sl_Program_init_ : Array (Option Value)}
    {f_law_shapes : Addr} {oc_law_shapes kV_law_shapes dc_law_shapes pm_law_shapes cd_law_shapes ct_law_shapes : Value} {od_law_shapes an_law_shapes : Option Addr} {sl_law_shapes : Array (Option Value)}
    {f_law_value : Addr} {oc_law_value kV_law_value dc_law_value pm_law_value cd_law_value ct_law_value : Value} {od_law_value an_law_value : Option Addr} {sl_law_value : Array (Option Value)}
    {f_law_operand : Addr} {oc_law_operand kV_law_operand dc_law_operand pm_law_operand cd_law_operand ct_law_operand : Value} {od_law_operand an_law_operand : Option Addr} {sl_law_operand : Array (Option Value)}
    {f_law_command : Addr} {oc_law_command kV_law_command dc_law_command pm_law_command cd_law_command ct_law_command : Value} {od_law_command an_law_command : Option Addr} {sl_law_command : Array (Option Value)}
    {f_law_bodies : Addr} {oc_law_bodies kV_law_bodies dc_law_bodies pm_law_bodies cd_law_bodies ct_law_bodies : Value} {od_law_bodies an_law_bodies : Option Addr} {sl_law_bodies : Array (Option Value)}
    {f_law_bad_operand : Addr} {oc_law_bad_operand kV_law_bad_operand dc_law_bad_operand pm_law_bad_operand cd_law_bad_operand ct_law_bad_operand : Value} {od_law_bad_operand an_law_bad_operand : Option Addr} {sl_law_bad_operand : Array (Option Value)}
    {f_law_spoilt : Addr} {oc_law_spoilt kV_law_spoilt dc_law_spoilt pm_law_spoilt cd_law_spoilt ct_law_spoilt : Value} {od_law_spoilt an_law_spoilt : Option Addr} {sl_law_spoilt : Array (Option Value)}
    {f_law_refusal : Addr} {oc_law_refusal kV_law_refusal dc_law_refusal pm_law_refusal cd_law_refusal ct_law_refusal : Value} {od_law_refusal an_law_refusal : Option Addr} {sl_law_refusal : Array (Option Value)}
    {f_law_sizes : Addr} {oc_law_sizes kV_law_sizes dc_law_sizes pm_law_sizes cd_law_sizes ct_law_sizes : Value} {od_law_sizes an_law_sizes : Option Addr} {sl_law_sizes : Array (Option Value)}
    {f_law : Addr} {oc_law kV_law dc_law pm_law cd_law ct_law : Value} {od_law an_law : Option Addr} {sl_law : Array (Option Value)}
    (A_BridgeError : PySem.W.nsIn K mainGlobals "BridgeError" = some (some (.ref c_BridgeError)))
    (A_InvalidProgram : PySem.W.nsIn K mainGlobals "InvalidProgram" = some (some (.ref c_InvalidProgram)))
    (A_Program : PySem.W.nsIn K mainGlobals "Program" = some (some (.ref c_Program)))
    (A_TooMany : PySem.W.nsIn K mainGlobals "TooMany" = some (some (.ref c_TooMany)))
    (a_law_take : PySem.W.nsIn K mainGlobals "_law_take" = some (some (.ref f_law_take)))
    (l_law_take : K.lookup f_law_take = some ⟨oc_law_take, od_law_take, .func (PySem.W.fnOf "_law_take" "_law_take" (defArgs s_law_take) (defBody s_law_take) (defScope s_law_take) .none kV_law_take dc_law_take pm_law_take an_law_take cd_law_take ct_law_take), sl_law_take⟩)
    (c_law_take : PySem.W.codeIn K cd_law_take "_law_take" = true)
    (k_law_take : PySem.W.keepIn K (.ref f_law_take) = true)
    (a_law_deck : PySem.W.nsIn K mainGlobals "_law_deck" = some (some (.ref f_law_deck)))
    (l_law_deck : K.lookup f_law_deck = some ⟨oc_law_deck, od_law_deck, .func (PySem.W.fnOf "_law_deck" "_law_deck" (defArgs s_law_deck) (defBody s_law_deck) (defScope s_law_deck) .none kV_law_deck dc_law_deck pm_law_deck an_law_deck cd_law_deck ct_law_deck), sl_law_deck⟩)
    (c_law_deck : PySem.W.codeIn K cd_law_deck "_law_deck" = true)
    (k_law_deck : PySem.W.keepIn K (.ref f_law_deck) = true)
    (a_law_plain : PySem.W.nsIn K mainGlobals "_law_plain" = some (some (.ref f_law_plain)))
    (l_law_plain : K.lookup f_law_plain = some ⟨oc_law_plain, od_law_plain, .func (PySem.W.fnOf "_law_plain" "_law_plain" (defArgs s_law_plain) (defBody s_law_plain) (defScope s_law_plain) .none kV_law_plain dc_law_plain pm_law_plain an_law_plain cd_law_plain ct_law_plain), sl_law_plain⟩)
    (c_law_plain : PySem.W.codeIn K cd_law_plain "_law_plain" = true)
    (k_law_plain : PySem.W.keepIn K (.ref f_law_plain) = true)
    (a_TooMany_init_ : PySem.W.findIn K (.ref c_TooMany) "__init__" = some (some (.ref f_TooMany_init_)))
    (i_TooMany_init_ : PySem.W.isFn K (.ref f_TooMany_init_) = true)
    (l_TooMany_init_ : K.lookup f_TooMany_init_ = some ⟨oc_TooMany_init_, od_TooMany_init_, .func (PySem.W.fnOf "__init__" "TooMany.__init__" (defArgs s_TooMany_init_) (defBody s_TooMany_init_) (defScope s_TooMany_init_) .none kV_TooMany_init_ dc_TooMany_init_ pm_TooMany_init_ an_TooMany_init_ cd_TooMany_init_ ct_TooMany_init_), sl_TooMany_init_⟩)
    (c_TooMany_init_ : PySem.W.codeIn K cd_TooMany_init_ "TooMany.__init__" = true)
    (k_TooMany_init_ : PySem.W.keepIn K (.ref f_TooMany_init_) = true)
    (a_InvalidProgram_init_ : PySem.W.findIn K (.ref c_InvalidProgram) "__init__" = some (some (.ref f_InvalidProgram_init_)))
    (i_InvalidProgram_init_ : PySem.W.isFn K (.ref f_InvalidProgram_init_) = true)
    (l_InvalidProgram_init_ : K.lookup f_InvalidProgram_init_ = some ⟨oc_InvalidProgram_init_, od_InvalidProgram_init_, .func (PySem.W.fnOf "__init__" "InvalidProgram.__init__" (defArgs s_InvalidProgram_init_) (defBody s_InvalidProgram_init_) (defScope s_InvalidProgram_init_) .none kV_InvalidProgram_init_ dc_InvalidProgram_init_ pm_InvalidProgram_init_ an_InvalidProgram_init_ cd_InvalidProgram_init_ ct_InvalidProgram_init_), sl_InvalidProgram_init_⟩)
    (c_InvalidProgram_init_ : PySem.W.codeIn K cd_InvalidProgram_init_ "InvalidProgram.__init__" = true)
    (k_InvalidProgram_init_ : PySem.W.keepIn K (.ref f_InvalidProgram_init_) = true)
    (a_fits : PySem.W.nsIn K mainGlobals "fits" = some (some (.ref f_fits)))
    (l_fits : K.lookup f_fits = some ⟨oc_fits, od_fits, .func (PySem.W.fnOf "fits" "fits" (defArgs s_fits) (defBody s_fits) (defScope s_fits) .none kV_fits dc_fits pm_fits an_fits cd_fits ct_fits), sl_fits⟩)
    (c_fits : PySem.W.codeIn K cd_fits "fits" = true)
    (k_fits : PySem.W.keepIn K (.ref f_fits) = true)
    (a_allowed : PySem.W.nsIn K mainGlobals "allowed" = some (some (.ref f_allowed)))
    (l_allowed : K.lookup f_allowed = some ⟨oc_allowed, od_allowed, .func (PySem.W.fnOf "allowed" "allowed" (defArgs s_allowed) (defBody s_allowed) (defScope s_allowed) .none kV_allowed dc_allowed pm_allowed an_allowed cd_allowed ct_allowed), sl_allowed⟩)
    (c_allowed : PySem.W.codeIn K cd_allowed "allowed" = true)
    (k_allowed : PySem.W.keepIn K (.ref f_allowed) = true)
    (a_named_registers_of : PySem.W.nsIn K mainGlobals "named_registers_of" = some (some (.ref f_named_registers_of)))
    (l_named_registers_of : K.lookup f_named_registers_of = some ⟨oc_named_registers_of, od_named_registers_of, .func (PySem.W.fnOf "named_registers_of" "named_registers_of" (defArgs s_named_registers_of) (defBody s_named_registers_of) (defScope s_named_registers_of) .none kV_named_registers_of dc_named_registers_of pm_named_registers_of an_named_registers_of cd_named_registers_of ct_named_registers_of), sl_named_registers_of⟩)
    (c_named_registers_of : PySem.W.codeIn K cd_named_registers_of "named_registers_of" = true)
    (k_named_registers_of : PySem.W.keepIn K (.ref f_named_registers_of) = true)
    (a_check_bodies : PySem.W.nsIn K mainGlobals "check_bodies" = some (some (.ref f_check_bodies)))
    (l_check_bodies : K.lookup f_check_bodies = some ⟨oc_check_bodies, od_check_bodies, .func (PySem.W.fnOf "check_bodies" "check_bodies" (defArgs s_check_bodies) (defBody s_check_bodies) (defScope s_check_bodies) .none kV_check_bodies dc_check_bodies pm_check_bodies an_check_bodies cd_check_bodies ct_check_bodies), sl_check_bodies⟩)
    (c_check_bodies : PySem.W.codeIn K cd_check_bodies "check_bodies" = true)
    (k_check_bodies : PySem.W.keepIn K (.ref f_check_bodies) = true)
    (a_room_of : PySem.W.nsIn K mainGlobals "room_of" = some (some (.ref f_room_of)))
    (l_room_of : K.lookup f_room_of = some ⟨oc_room_of, od_room_of, .func (PySem.W.fnOf "room_of" "room_of" (defArgs s_room_of) (defBody s_room_of) (defScope s_room_of) .none kV_room_of dc_room_of pm_room_of an_room_of cd_room_of ct_room_of), sl_room_of⟩)
    (c_room_of : PySem.W.codeIn K cd_room_of "room_of" = true)
    (k_room_of : PySem.W.keepIn K (.ref f_room_of) = true)
    (a_Program_init_ : PySem.W.findIn K (.ref c_Program) "__init__" = some (some (.ref f_Program_init_)))
    (i_Program_init_ : PySem.W.isFn K (.ref f_Program_init_) = true)
    (l_Program_init_ : K.lookup f_Program_init_ = some ⟨oc_Program_init_, od_Program_init_, .func (PySem.W.fnOf "__init__" "Program.__init__" (defArgs s_Program_init_) (defBody s_Program_init_) (defScope s_Program_init_) .none kV_Program_init_ dc_Program_init_ pm_Program_init_ an_Program_init_ cd_Program_init_ ct_Program_init_), sl_Program_init_⟩)
    (c_Program_init_ : PySem.W.codeIn K cd_Program_init_ "Program.__init__" = true)
    (k_Program_init_ : PySem.W.keepIn K (.ref f_Program_init_) = true)
    (a_law_shapes : PySem.W.nsIn K mainGlobals "_law_shapes" = some (some (.ref f_law_shapes)))
    (l_law_shapes : K.lookup f_law_shapes = some ⟨oc_law_shapes, od_law_shapes, .func (PySem.W.fnOf "_law_shapes" "_law_shapes" (defArgs s_law_shapes) (defBody s_law_shapes) (defScope s_law_shapes) .none kV_law_shapes dc_law_shapes pm_law_shapes an_law_shapes cd_law_shapes ct_law_shapes), sl_law_shapes⟩)
    (c_law_shapes : PySem.W.codeIn K cd_law_shapes "_law_shapes" = true)
    (k_law_shapes : PySem.W.keepIn K (.ref f_law_shapes) = true)
    (a_law_value : PySem.W.nsIn K mainGlobals "_law_value" = some (some (.ref f_law_value)))
    (l_law_value : K.lookup f_law_value = some ⟨oc_law_value, od_law_value, .func (PySem.W.fnOf "_law_value" "_law_value" (defArgs s_law_value) (defBody s_law_value) (defScope s_law_value) .none kV_law_value dc_law_value pm_law_value an_law_value cd_law_value ct_law_value), sl_law_value⟩)
    (c_law_value : PySem.W.codeIn K cd_law_value "_law_value" = true)
    (k_law_value : PySem.W.keepIn K (.ref f_law_value) = true)
    (a_law_operand : PySem.W.nsIn K mainGlobals "_law_operand" = some (some (.ref f_law_operand)))
    (l_law_operand : K.lookup f_law_operand = some ⟨oc_law_operand, od_law_operand, .func (PySem.W.fnOf "_law_operand" "_law_operand" (defArgs s_law_operand) (defBody s_law_operand) (defScope s_law_operand) .none kV_law_operand dc_law_operand pm_law_operand an_law_operand cd_law_operand ct_law_operand), sl_law_operand⟩)
    (c_law_operand : PySem.W.codeIn K cd_law_operand "_law_operand" = true)
    (k_law_operand : PySem.W.keepIn K (.ref f_law_operand) = true)
    (a_law_command : PySem.W.nsIn K mainGlobals "_law_command" = some (some (.ref f_law_command)))
    (l_law_command : K.lookup f_law_command = some ⟨oc_law_command, od_law_command, .func (PySem.W.fnOf "_law_command" "_law_command" (defArgs s_law_command) (defBody s_law_command) (defScope s_law_command) .none kV_law_command dc_law_command pm_law_command an_law_command cd_law_command ct_law_command), sl_law_command⟩)
    (c_law_command : PySem.W.codeIn K cd_law_command "_law_command" = true)
    (k_law_command : PySem.W.keepIn K (.ref f_law_command) = true)
    (a_law_bodies : PySem.W.nsIn K mainGlobals "_law_bodies" = some (some (.ref f_law_bodies)))
    (l_law_bodies : K.lookup f_law_bodies = some ⟨oc_law_bodies, od_law_bodies, .func (PySem.W.fnOf "_law_bodies" "_law_bodies" (defArgs s_law_bodies) (defBody s_law_bodies) (defScope s_law_bodies) .none kV_law_bodies dc_law_bodies pm_law_bodies an_law_bodies cd_law_bodies ct_law_bodies), sl_law_bodies⟩)
    (c_law_bodies : PySem.W.codeIn K cd_law_bodies "_law_bodies" = true)
    (k_law_bodies : PySem.W.keepIn K (.ref f_law_bodies) = true)
    (a_law_bad_operand : PySem.W.nsIn K mainGlobals "_law_bad_operand" = some (some (.ref f_law_bad_operand)))
    (l_law_bad_operand : K.lookup f_law_bad_operand = some ⟨oc_law_bad_operand, od_law_bad_operand, .func (PySem.W.fnOf "_law_bad_operand" "_law_bad_operand" (defArgs s_law_bad_operand) (defBody s_law_bad_operand) (defScope s_law_bad_operand) .none kV_law_bad_operand dc_law_bad_operand pm_law_bad_operand an_law_bad_operand cd_law_bad_operand ct_law_bad_operand), sl_law_bad_operand⟩)
    (c_law_bad_operand : PySem.W.codeIn K cd_law_bad_operand "_law_bad_operand" = true)
    (k_law_bad_operand : PySem.W.keepIn K (.ref f_law_bad_operand) = true)
    (a_law_spoilt : PySem.W.nsIn K mainGlobals "_law_spoilt" = some (some (.ref f_law_spoilt)))
    (l_law_spoilt : K.lookup f_law_spoilt = some ⟨oc_law_spoilt, od_law_spoilt, .func (PySem.W.fnOf "_law_spoilt" "_law_spoilt" (defArgs s_law_spoilt) (defBody s_law_spoilt) (defScope s_law_spoilt) .none kV_law_spoilt dc_law_spoilt pm_law_spoilt an_law_spoilt cd_law_spoilt ct_law_spoilt), sl_law_spoilt⟩)
    (c_law_spoilt : PySem.W.codeIn K cd_law_spoilt "_law_spoilt" = true)
    (k_law_spoilt : PySem.W.keepIn K (.ref f_law_spoilt) = true)
    (a_law_refusal : PySem.W.nsIn K mainGlobals "_law_refusal" = some (some (.ref f_law_refusal)))
    (l_law_refusal : K.lookup f_law_refusal = some ⟨oc_law_refusal, od_law_refusal, .func (PySem.W.fnOf "_law_refusal" "_law_refusal" (defArgs s_law_refusal) (defBody s_law_refusal) (defScope s_law_refusal) .none kV_law_refusal dc_law_refusal pm_law_refusal an_law_refusal cd_law_refusal ct_law_refusal), sl_law_refusal⟩)
    (c_law_refusal : PySem.W.codeIn K cd_law_refusal "_law_refusal" = true)
    (k_law_refusal : PySem.W.keepIn K (.ref f_law_refusal) = true)
    (a_law_sizes : PySem.W.nsIn K mainGlobals "_law_sizes" = some (some (.ref f_law_sizes)))
    (l_law_sizes : K.lookup f_law_sizes = some ⟨oc_law_sizes, od_law_sizes, .func (PySem.W.fnOf "_law_sizes" "_law_sizes" (defArgs s_law_sizes) (defBody s_law_sizes) (defScope s_law_sizes) .none kV_law_sizes dc_law_sizes pm_law_sizes an_law_sizes cd_law_sizes ct_law_sizes), sl_law_sizes⟩)
    (c_law_sizes : PySem.W.codeIn K cd_law_sizes "_law_sizes" = true)
    (k_law_sizes : PySem.W.keepIn K (.ref f_law_sizes) = true)
    (a_law : PySem.W.nsIn K mainGlobals "law" = some (some (.ref f_law)))
    (l_law : K.lookup f_law = some ⟨oc_law, od_law, .func (PySem.W.fnOf "law" "law" (defArgs s_law) (defBody s_law) (defScope s_law) .none kV_law dc_law pm_law an_law cd_law ct_law), sl_law⟩)
    (c_law : PySem.W.codeIn K cd_law "law" = true)
    (k_law : PySem.W.keepIn K (.ref f_law) = true)
    (pg_Program : PySem.W.plainGet K c_Program Str.empty = true)
    (hd_Program : PySem.W.hasDictIn K c_Program = true)
    (po_Program : PySem.W.plainOver K c_Program = true)
    (sa_Program : PySem.W.findIn K (.ref c_Program) "__setattr__" = some (some (.builtin "object.__setattr__")))
    (mk_Program : PySem.W.makesIn K c_Program = true)
    (kc_Program : PySem.W.keepIn K (.ref c_Program) = true)
    (n_Program_bodies : PySem.W.findIn K (.ref c_Program) "bodies" = some none)
    (n_Program_room : PySem.W.findIn K (.ref c_Program) "room" = some none)
    (ex_BridgeError : PySem.W.subIn K (.ref c_BridgeError) (.type "BaseException") = some true)
    (ty_BridgeError : PySem.W.typeIn K (.ref c_BridgeError) = some (.type "type"))
    (yd_BridgeError : PySem.W.hasDictIn K c_BridgeError = true)
    (og_BridgeError : PySem.W.specialIn K (.ref c_BridgeError) "__getattribute__" = some (some (.builtin "type.__getattribute__")))
    (or_BridgeError : PySem.W.readsIn K c_BridgeError (.type "type") = true)
    (of_BridgeError : PySem.W.findCls K (.ref c_BridgeError) (.type "type") "__init__" = some (.val (.builtin "ValueError.__init__")))
    (ex_InvalidProgram : PySem.W.subIn K (.ref c_InvalidProgram) (.type "BaseException") = some true)
    (ty_InvalidProgram : PySem.W.typeIn K (.ref c_InvalidProgram) = some (.type "type"))
    (yd_InvalidProgram : PySem.W.hasDictIn K c_InvalidProgram = true)
    (xL_InvalidProgram : K.lookup c_InvalidProgram = some (excClassObj nm_InvalidProgram q_InvalidProgram c_InvalidProgram N_InvalidProgram bs_InvalidProgram [.ref c_BridgeError, .type "ValueError", .type "Exception", .type "BaseException", .type "object"] true sn_InvalidProgram sub_InvalidProgram ab_InvalidProgram col_InvalidProgram dd_InvalidProgram m0_InvalidProgram m1_InvalidProgram m2_InvalidProgram m3_InvalidProgram m5_InvalidProgram "ValueError.__new__"))
    (sx_InvalidProgram : PySem.W.findIn K (.ref c_InvalidProgram) "__setattr__" = some (some (.builtin "object.__setattr__")))
    (kx_InvalidProgram : PySem.W.keepIn K (.ref c_InvalidProgram) = true)
    (tf_InvalidProgram : PySem.W.typeIn K (.ref f_InvalidProgram_init_) = some (.type "function"))
    (ya_InvalidProgram : PySem.W.findIn K (.ref c_InvalidProgram) "__getattribute__" = some (some (.builtin "BaseException.__getattribute__")))
    (yg_InvalidProgram : PySem.W.findIn K (.ref c_InvalidProgram) "__getattr__" = some none)
    (yk_InvalidProgram : PySem.W.findIn K (.ref c_InvalidProgram) "__class__" = some (some (.builtin "object.__class__")))
    (yo_InvalidProgram : PySem.W.mroIn K c_InvalidProgram (.type "object") = some true)
    (ex_TooMany : PySem.W.subIn K (.ref c_TooMany) (.type "BaseException") = some true)
    (ty_TooMany : PySem.W.typeIn K (.ref c_TooMany) = some (.type "type"))
    (yd_TooMany : PySem.W.hasDictIn K c_TooMany = true)
    (xL_TooMany : K.lookup c_TooMany = some (excClassObj nm_TooMany q_TooMany c_TooMany N_TooMany bs_TooMany [.ref c_BridgeError, .type "ValueError", .type "Exception", .type "BaseException", .type "object"] true sn_TooMany sub_TooMany ab_TooMany col_TooMany dd_TooMany m0_TooMany m1_TooMany m2_TooMany m3_TooMany m5_TooMany "ValueError.__new__"))
    (sx_TooMany : PySem.W.findIn K (.ref c_TooMany) "__setattr__" = some (some (.builtin "object.__setattr__")))
    (kx_TooMany : PySem.W.keepIn K (.ref c_TooMany) = true)
    (tf_TooMany : PySem.W.typeIn K (.ref f_TooMany_init_) = some (.type "function"))
    (ya_TooMany : PySem.W.findIn K (.ref c_TooMany) "__getattribute__" = some (some (.builtin "BaseException.__getattribute__")))
    (yg_TooMany : PySem.W.findIn K (.ref c_TooMany) "__getattr__" = some none)
    (yk_TooMany : PySem.W.findIn K (.ref c_TooMany) "__class__" = some (some (.builtin "object.__class__")))
    (yo_TooMany : PySem.W.mroIn K c_TooMany (.type "object") = some true)
    (nx_InvalidProgram_body : PySem.W.findIn K (.ref c_InvalidProgram) "body" = some none)
    (nx_InvalidProgram_command : PySem.W.findIn K (.ref c_InvalidProgram) "command" = some none)
    (nx_TooMany_what : PySem.W.findIn K (.ref c_TooMany) "what" = some none)
    (sb_InvalidProgram_BridgeError : PySem.W.subIn K (.ref c_InvalidProgram) (.ref c_BridgeError) = some true)
    (sb_TooMany_BridgeError : PySem.W.subIn K (.ref c_TooMany) (.ref c_BridgeError) = some true)
    (kt_InvalidProgram_TooMany : PySem.W.kitOne K (.ref c_InvalidProgram) (.ref c_TooMany) = some false)
    (kt_InvalidProgram_InvalidProgram : PySem.W.kitOne K (.ref c_InvalidProgram) (.ref c_InvalidProgram) = some true)
    (kt_InvalidProgram_ValueError : PySem.W.kitOne K (.ref c_InvalidProgram) (.type "ValueError") = some true)
    (kt_TooMany_TooMany : PySem.W.kitOne K (.ref c_TooMany) (.ref c_TooMany) = some true)
    (kt_TooMany_InvalidProgram : PySem.W.kitOne K (.ref c_TooMany) (.ref c_InvalidProgram) = some false)
    (is_get : PySem.W.specialIn K (.builtin "object.__class__") "__get__" = some (some (.builtin "getset_descriptor.__get__")))
    (is_tk : PySem.W.takesIn K (.builtin "object.__class__") = some true)
    (z_ValueError : PySem.W.nsIn K mainGlobals "ValueError" = some none)
    (z_abs : PySem.W.nsIn K mainGlobals "abs" = some none)
    (z_bool : PySem.W.nsIn K mainGlobals "bool" = some none)
    (z_enumerate : PySem.W.nsIn K mainGlobals "enumerate" = some none)
    (z_int : PySem.W.nsIn K mainGlobals "int" = some none)
    (z_isinstance : PySem.W.nsIn K mainGlobals "isinstance" = some none)
    (z_len : PySem.W.nsIn K mainGlobals "len" = some none)
    (z_list : PySem.W.nsIn K mainGlobals "list" = some none)
    (z_max : PySem.W.nsIn K mainGlobals "max" = some none)
    (z_min : PySem.W.nsIn K mainGlobals "min" = some none)
    (z_range : PySem.W.nsIn K mainGlobals "range" = some none)
    (z_sorted : PySem.W.nsIn K mainGlobals "sorted" = some none)
    (z_str : PySem.W.nsIn K mainGlobals "str" = some none)
    (z_tuple : PySem.W.nsIn K mainGlobals "tuple" = some none)
    (g_KIND_WORDS : PySem.W.nsIn K mainGlobals "KIND_WORDS" = some (some (.ref k_KIND_WORDS)))
    (lk_KIND_WORDS : K.lookup k_KIND_WORDS = some ⟨.type "tuple", dd_KIND_WORDS, .seq its_KIND_WORDS nn_KIND_WORDS, sl_KIND_WORDS⟩)
    (vv_KIND_WORDS : Vals [V.str "nothing", V.str "number", V.str "text", V.str "code", V.str "cell", V.str "service"] its_KIND_WORDS.toList)
    (g_LOCALS : PySem.W.nsIn K mainGlobals "LOCALS" = some (some (.int (8) t_LOCALS)))
    (g_MOST_BODIES : PySem.W.nsIn K mainGlobals "MOST_BODIES" = some (some (.int (1000) t_MOST_BODIES)))
    (g_MOST_COMMANDS : PySem.W.nsIn K mainGlobals "MOST_COMMANDS" = some (some (.int (4000) t_MOST_COMMANDS)))
    (g_REGISTERS : PySem.W.nsIn K mainGlobals "REGISTERS" = some (some (.int (256) t_REGISTERS)))
    (g_SHAPES : PySem.W.nsIn K mainGlobals "SHAPES" = some (some (.ref k_SHAPES)))
    (lk_SHAPES : K.lookup k_SHAPES = some ⟨.type "dict", none, .dict es_SHAPES nn_SHAPES, #[]⟩)
    (kl_SHAPES : PySem.W.KeysLit w.params es_SHAPES.toList)
    (lo_SHAPES : (k_SHAPES == sysModules) = false)
    (kv_SHAPES_0 : PySem.W.nsIn K k_SHAPES "set" = some (some (.str "rv" kt_SHAPES_0)))
    (kv_SHAPES_1 : PySem.W.nsIn K k_SHAPES "copy" = some (some (.str "rr" kt_SHAPES_1)))
    (kv_SHAPES_2 : PySem.W.nsIn K k_SHAPES "cell" = some (some (.str "rr" kt_SHAPES_2)))
    (kv_SHAPES_3 : PySem.W.nsIn K k_SHAPES "service" = some (some (.str "rb" kt_SHAPES_3)))
    (kv_SHAPES_4 : PySem.W.nsIn K k_SHAPES "read" = some (some (.str "rr" kt_SHAPES_4)))
    (kv_SHAPES_5 : PySem.W.nsIn K k_SHAPES "write" = some (some (.str "rr" kt_SHAPES_5)))
    (kv_SHAPES_6 : PySem.W.nsIn K k_SHAPES "link" = some (some (.str "rr" kt_SHAPES_6)))
    (kv_SHAPES_7 : PySem.W.nsIn K k_SHAPES "follow" = some (some (.str "rr" kt_SHAPES_7)))
    (kv_SHAPES_8 : PySem.W.nsIn K k_SHAPES "call" = some (some (.str "rkr" kt_SHAPES_8)))
    (kv_SHAPES_9 : PySem.W.nsIn K k_SHAPES "ask" = some (some (.str "rrr" kt_SHAPES_9)))
    (kv_SHAPES_10 : PySem.W.nsIn K k_SHAPES "answer" = some (some (.str "r" kt_SHAPES_10)))
    (kv_SHAPES_11 : PySem.W.nsIn K k_SHAPES "raise" = some (some (.str "r" kt_SHAPES_11)))
    (kv_SHAPES_12 : PySem.W.nsIn K k_SHAPES "try" = some (some (.str "nr" kt_SHAPES_12)))
    (kv_SHAPES_13 : PySem.W.nsIn K k_SHAPES "alike" = some (some (.str "rrn" kt_SHAPES_13)))
    (kv_SHAPES_14 : PySem.W.nsIn K k_SHAPES "same" = some (some (.str "rrn" kt_SHAPES_14)))
    (kv_SHAPES_15 : PySem.W.nsIn K k_SHAPES "kind" = some (some (.str "rwn" kt_SHAPES_15)))
    (kv_SHAPES_16 : PySem.W.nsIn K k_SHAPES "mode" = some (some (.str "m" kt_SHAPES_16)))
    (kv_SHAPES_17 : PySem.W.nsIn K k_SHAPES "when" = some (some (.str "mn" kt_SHAPES_17)))
    (kv_SHAPES_18 : PySem.W.nsIn K k_SHAPES "skip" = some (some (.str "n" kt_SHAPES_18)))
    (kv_SHAPES_19 : PySem.W.nsIn K k_SHAPES "yes" = some (some (.str "" kt_SHAPES_19)))
    (kv_SHAPES_20 : PySem.W.nsIn K k_SHAPES "no" = some (some (.str "" kt_SHAPES_20)))
    (kz_SHAPES_0 : PySem.W.nsIn K k_SHAPES "jump" = some none)
    (kz_SHAPES_1 : PySem.W.nsIn K k_SHAPES "" = some none)
    (kz_SHAPES_2 : PySem.W.nsIn K k_SHAPES "Set" = some none)
    (kz_SHAPES_3 : PySem.W.nsIn K k_SHAPES "call " = some none)
    : ∃ ad : Ad, Txt K w mg ad ∧ fa = ad.a_law ∧ ∀ (s : Shared) (v : Value), BindsTo s ad.d_law ⟨[v], []⟩ [("script", v)] := by
  have e := hfa.symm.trans (PySem.W.mg_of X G a_law)
  cases e
  have F_law_take := fun_mk (st := s_law_take) l_law_take c_law_take k_law_take
  have b_law_take := F_law_take.binds (ps := ["deck", "many"]) fun _ _ _ _ _ _ us hl => match us, hl with | [_, _], _ => rfl
  have F_law_deck := fun_mk (st := s_law_deck) l_law_deck c_law_deck k_law_deck
  have b_law_deck := F_law_deck.binds (ps := ["script", "cells", "each"]) fun _ _ _ _ _ _ us hl => match us, hl with | [_, _, _], _ => rfl
  have F_law_plain := fun_mk (st := s_law_plain) l_law_plain c_law_plain k_law_plain
  have b_law_plain := F_law_plain.binds (ps := ["value"]) fun _ _ _ _ _ _ us hl => match us, hl with | [_], _ => rfl
  have F_TooMany_init_ := fun_mk (st := s_TooMany_init_) l_TooMany_init_ c_TooMany_init_ k_TooMany_init_
  have b_TooMany_init_ := F_TooMany_init_.binds (ps := ["self", "what"]) fun _ _ _ _ _ _ us hl => match us, hl with | [_, _], _ => rfl
  have F_InvalidProgram_init_ := fun_mk (st := s_InvalidProgram_init_) l_InvalidProgram_init_ c_InvalidProgram_init_ k_InvalidProgram_init_
  have b_InvalidProgram_init_ := F_InvalidProgram_init_.binds (ps := ["self", "body", "command"]) fun _ _ _ _ _ _ us hl => match us, hl with | [_, _, _], _ => rfl
  have F_fits := fun_mk (st := s_fits) l_fits c_fits k_fits
  have b_fits := F_fits.binds (ps := ["letter", "operand", "behind", "bodies"]) fun _ _ _ _ _ _ us hl => match us, hl with | [_, _, _, _], _ => rfl
  have F_allowed := fun_mk (st := s_allowed) l_allowed c_allowed k_allowed
  have b_allowed := F_allowed.binds (ps := ["command", "behind", "bodies"]) fun _ _ _ _ _ _ us hl => match us, hl with | [_, _, _], _ => rfl
  have F_named_registers_of := fun_mk (st := s_named_registers_of) l_named_registers_of c_named_registers_of k_named_registers_of
  have b_named_registers_of := F_named_registers_of.binds (ps := ["command"]) fun _ _ _ _ _ _ us hl => match us, hl with | [_], _ => rfl
  have F_check_bodies := fun_mk (st := s_check_bodies) l_check_bodies c_check_bodies k_check_bodies
  have b_check_bodies := F_check_bodies.binds (ps := ["bodies"]) fun _ _ _ _ _ _ us hl => match us, hl with | [_], _ => rfl
  have F_room_of := fun_mk (st := s_room_of) l_room_of c_room_of k_room_of
  have b_room_of := F_room_of.binds (ps := ["bodies"]) fun _ _ _ _ _ _ us hl => match us, hl with | [_], _ => rfl
  have F_Program_init_ := fun_mk (st := s_Program_init_) l_Program_init_ c_Program_init_ k_Program_init_
  have b_Program_init_ := F_Program_init_.binds (ps := ["self", "bodies"]) fun _ _ _ _ _ _ us hl => match us, hl with | [_, _], _ => rfl
  have F_law_shapes := fun_mk (st := s_law_shapes) l_law_shapes c_law_shapes k_law_shapes
  have b_law_shapes := F_law_shapes.binds (ps := []) fun _ _ _ _ _ _ us hl => match us, hl with | [], _ => rfl
  have F_law_value := fun_mk (st := s_law_value) l_law_value c_law_value k_law_value
  have b_law_value := F_law_value.binds (ps := ["deck"]) fun _ _ _ _ _ _ us hl => match us, hl with | [_], _ => rfl
  have F_law_operand := fun_mk (st := s_law_operand) l_law_operand c_law_operand k_law_operand
  have b_law_operand := F_law_operand.binds (ps := ["deck", "letter", "behind", "many"]) fun _ _ _ _ _ _ us hl => match us, hl with | [_, _, _, _], _ => rfl
  have F_law_command := fun_mk (st := s_law_command) l_law_command c_law_command k_law_command
  have b_law_command := F_law_command.binds (ps := ["deck", "shapes", "behind", "many", "verdicts"]) fun _ _ _ _ _ _ us hl => match us, hl with | [_, _, _, _, _], _ => rfl
  have F_law_bodies := fun_mk (st := s_law_bodies) l_law_bodies c_law_bodies k_law_bodies
  have b_law_bodies := F_law_bodies.binds (ps := ["deck", "shapes", "most", "verdicts"]) fun _ _ _ _ _ _ us hl => match us, hl with | [_, _, _, _], _ => rfl
  have F_law_bad_operand := fun_mk (st := s_law_bad_operand) l_law_bad_operand c_law_bad_operand k_law_bad_operand
  have b_law_bad_operand := F_law_bad_operand.binds (ps := ["deck", "letter", "behind", "many"]) fun _ _ _ _ _ _ us hl => match us, hl with | [_, _, _, _], _ => rfl
  have F_law_spoilt := fun_mk (st := s_law_spoilt) l_law_spoilt c_law_spoilt k_law_spoilt
  have b_law_spoilt := F_law_spoilt.binds (ps := ["deck", "shapes", "command", "behind", "many"]) fun _ _ _ _ _ _ us hl => match us, hl with | [_, _, _, _, _], _ => rfl
  have F_law_refusal := fun_mk (st := s_law_refusal) l_law_refusal c_law_refusal k_law_refusal
  have b_law_refusal := F_law_refusal.binds (ps := ["bodies"]) fun _ _ _ _ _ _ us hl => match us, hl with | [_], _ => rfl
  have F_law_sizes := fun_mk (st := s_law_sizes) l_law_sizes c_law_sizes k_law_sizes
  have b_law_sizes := F_law_sizes.binds (ps := ["deck", "bodies"]) fun _ _ _ _ _ _ us hl => match us, hl with | [_, _], _ => rfl
  have F_law := fun_mk (st := s_law) l_law c_law k_law
  have b_law := F_law.binds (ps := ["script"]) fun _ _ _ _ _ _ us hl => match us, hl with | [_], _ => rfl
  refine ⟨⟨f_law_take, (PySem.W.fnOf "_law_take" "_law_take" (defArgs s_law_take) (defBody s_law_take) (defScope s_law_take) .none kV_law_take dc_law_take pm_law_take an_law_take cd_law_take ct_law_take), f_law_deck, (PySem.W.fnOf "_law_deck" "_law_deck" (defArgs s_law_deck) (defBody s_law_deck) (defScope s_law_deck) .none kV_law_deck dc_law_deck pm_law_deck an_law_deck cd_law_deck ct_law_deck), f_law_plain, (PySem.W.fnOf "_law_plain" "_law_plain" (defArgs s_law_plain) (defBody s_law_plain) (defScope s_law_plain) .none kV_law_plain dc_law_plain pm_law_plain an_law_plain cd_law_plain ct_law_plain), f_TooMany_init_, (PySem.W.fnOf "__init__" "TooMany.__init__" (defArgs s_TooMany_init_) (defBody s_TooMany_init_) (defScope s_TooMany_init_) .none kV_TooMany_init_ dc_TooMany_init_ pm_TooMany_init_ an_TooMany_init_ cd_TooMany_init_ ct_TooMany_init_), f_InvalidProgram_init_, (PySem.W.fnOf "__init__" "InvalidProgram.__init__" (defArgs s_InvalidProgram_init_) (defBody s_InvalidProgram_init_) (defScope s_InvalidProgram_init_) .none kV_InvalidProgram_init_ dc_InvalidProgram_init_ pm_InvalidProgram_init_ an_InvalidProgram_init_ cd_InvalidProgram_init_ ct_InvalidProgram_init_), f_fits, (PySem.W.fnOf "fits" "fits" (defArgs s_fits) (defBody s_fits) (defScope s_fits) .none kV_fits dc_fits pm_fits an_fits cd_fits ct_fits), f_allowed, (PySem.W.fnOf "allowed" "allowed" (defArgs s_allowed) (defBody s_allowed) (defScope s_allowed) .none kV_allowed dc_allowed pm_allowed an_allowed cd_allowed ct_allowed), f_named_registers_of, (PySem.W.fnOf "named_registers_of" "named_registers_of" (defArgs s_named_registers_of) (defBody s_named_registers_of) (defScope s_named_registers_of) .none kV_named_registers_of dc_named_registers_of pm_named_registers_of an_named_registers_of cd_named_registers_of ct_named_registers_of), f_check_bodies, (PySem.W.fnOf "check_bodies" "check_bodies" (defArgs s_check_bodies) (defBody s_check_bodies) (defScope s_check_bodies) .none kV_check_bodies dc_check_bodies pm_check_bodies an_check_bodies cd_check_bodies ct_check_bodies), f_room_of, (PySem.W.fnOf "room_of" "room_of" (defArgs s_room_of) (defBody s_room_of) (defScope s_room_of) .none kV_room_of dc_room_of pm_room_of an_room_of cd_room_of ct_room_of), f_Program_init_, (PySem.W.fnOf "__init__" "Program.__init__" (defArgs s_Program_init_) (defBody s_Program_init_) (defScope s_Program_init_) .none kV_Program_init_ dc_Program_init_ pm_Program_init_ an_Program_init_ cd_Program_init_ ct_Program_init_), f_law_shapes, (PySem.W.fnOf "_law_shapes" "_law_shapes" (defArgs s_law_shapes) (defBody s_law_shapes) (defScope s_law_shapes) .none kV_law_shapes dc_law_shapes pm_law_shapes an_law_shapes cd_law_shapes ct_law_shapes), f_law_value, (PySem.W.fnOf "_law_value" "_law_value" (defArgs s_law_value) (defBody s_law_value) (defScope s_law_value) .none kV_law_value dc_law_value pm_law_value an_law_value cd_law_value ct_law_value), f_law_operand, (PySem.W.fnOf "_law_operand" "_law_operand" (defArgs s_law_operand) (defBody s_law_operand) (defScope s_law_operand) .none kV_law_operand dc_law_operand pm_law_operand an_law_operand cd_law_operand ct_law_operand), f_law_command, (PySem.W.fnOf "_law_command" "_law_command" (defArgs s_law_command) (defBody s_law_command) (defScope s_law_command) .none kV_law_command dc_law_command pm_law_command an_law_command cd_law_command ct_law_command), f_law_bodies, (PySem.W.fnOf "_law_bodies" "_law_bodies" (defArgs s_law_bodies) (defBody s_law_bodies) (defScope s_law_bodies) .none kV_law_bodies dc_law_bodies pm_law_bodies an_law_bodies cd_law_bodies ct_law_bodies), f_law_bad_operand, (PySem.W.fnOf "_law_bad_operand" "_law_bad_operand" (defArgs s_law_bad_operand) (defBody s_law_bad_operand) (defScope s_law_bad_operand) .none kV_law_bad_operand dc_law_bad_operand pm_law_bad_operand an_law_bad_operand cd_law_bad_operand ct_law_bad_operand), f_law_spoilt, (PySem.W.fnOf "_law_spoilt" "_law_spoilt" (defArgs s_law_spoilt) (defBody s_law_spoilt) (defScope s_law_spoilt) .none kV_law_spoilt dc_law_spoilt pm_law_spoilt an_law_spoilt cd_law_spoilt ct_law_spoilt), f_law_refusal, (PySem.W.fnOf "_law_refusal" "_law_refusal" (defArgs s_law_refusal) (defBody s_law_refusal) (defScope s_law_refusal) .none kV_law_refusal dc_law_refusal pm_law_refusal an_law_refusal cd_law_refusal ct_law_refusal), f_law_sizes, (PySem.W.fnOf "_law_sizes" "_law_sizes" (defArgs s_law_sizes) (defBody s_law_sizes) (defScope s_law_sizes) .none kV_law_sizes dc_law_sizes pm_law_sizes an_law_sizes cd_law_sizes ct_law_sizes), fa, (PySem.W.fnOf "law" "law" (defArgs s_law) (defBody s_law) (defScope s_law) .none kV_law dc_law pm_law an_law cd_law ct_law), c_BridgeError, c_InvalidProgram, c_Program, c_TooMany, k_KIND_WORDS, k_SHAPES, es_SHAPES, nn_SHAPES⟩, ?_, rfl, fun s v => .of_eq rfl⟩
  exact {
    F_law_take := F_law_take
    b_law_take := b_law_take
    m_law_take := PySem.W.mg_of X G a_law_take
    F_law_deck := F_law_deck
    b_law_deck := b_law_deck
    m_law_deck := PySem.W.mg_of X G a_law_deck
    F_law_plain := F_law_plain
    b_law_plain := b_law_plain
    m_law_plain := PySem.W.mg_of X G a_law_plain
    F_TooMany_init_ := F_TooMany_init_
    b_TooMany_init_ := b_TooMany_init_
    F_InvalidProgram_init_ := F_InvalidProgram_init_
    b_InvalidProgram_init_ := b_InvalidProgram_init_
    F_fits := F_fits
    b_fits := b_fits
    m_fits := PySem.W.mg_of X G a_fits
    F_allowed := F_allowed
    b_allowed := b_allowed
    m_allowed := PySem.W.mg_of X G a_allowed
    F_named_registers_of := F_named_registers_of
    b_named_registers_of := b_named_registers_of
    m_named_registers_of := PySem.W.mg_of X G a_named_registers_of
    F_check_bodies := F_check_bodies
    b_check_bodies := b_check_bodies
    m_check_bodies := PySem.W.mg_of X G a_check_bodies
    F_room_of := F_room_of
    b_room_of := b_room_of
    m_room_of := PySem.W.mg_of X G a_room_of
    F_Program_init_ := F_Program_init_
    b_Program_init_ := b_Program_init_
    F_law_shapes := F_law_shapes
    b_law_shapes := b_law_shapes
    m_law_shapes := PySem.W.mg_of X G a_law_shapes
    F_law_value := F_law_value
    b_law_value := b_law_value
    m_law_value := PySem.W.mg_of X G a_law_value
    F_law_operand := F_law_operand
    b_law_operand := b_law_operand
    m_law_operand := PySem.W.mg_of X G a_law_operand
    F_law_command := F_law_command
    b_law_command := b_law_command
    m_law_command := PySem.W.mg_of X G a_law_command
    F_law_bodies := F_law_bodies
    b_law_bodies := b_law_bodies
    m_law_bodies := PySem.W.mg_of X G a_law_bodies
    F_law_bad_operand := F_law_bad_operand
    b_law_bad_operand := b_law_bad_operand
    m_law_bad_operand := PySem.W.mg_of X G a_law_bad_operand
    F_law_spoilt := F_law_spoilt
    b_law_spoilt := b_law_spoilt
    m_law_spoilt := PySem.W.mg_of X G a_law_spoilt
    F_law_refusal := F_law_refusal
    b_law_refusal := b_law_refusal
    m_law_refusal := PySem.W.mg_of X G a_law_refusal
    F_law_sizes := F_law_sizes
    b_law_sizes := b_law_sizes
    m_law_sizes := PySem.W.mg_of X G a_law_sizes
    F_law := F_law
    b_law := b_law
    m_law := PySem.W.mg_of X G a_law
    cl_Program := ⟨pg_Program, hd_Program, po_Program, sa_Program⟩
    mg_Program := PySem.W.mg_of X G A_Program
    mk_Program := ⟨mk_Program, a_Program_init_, i_Program_init_, kc_Program⟩
    n_Program_bodies := n_Program_bodies
    n_Program_room := n_Program_room
    mg_BridgeError := PySem.W.mg_of X G A_BridgeError
    ov_BridgeError := ⟨og_BridgeError, or_BridgeError, of_BridgeError⟩
    mg_InvalidProgram := PySem.W.mg_of X G A_InvalidProgram
    ox_InvalidProgram := ⟨⟨_, _, _, _, _, _, _, _, _, _, _, _, _, _, _, xL_InvalidProgram, by rfl⟩, sx_InvalidProgram, ex_InvalidProgram, ty_InvalidProgram, kx_InvalidProgram⟩
    ix_InvalidProgram := a_InvalidProgram_init_
    tx_InvalidProgram := tf_InvalidProgram
    xd_InvalidProgram := ⟨(by obtain ⟨cd, hc, _⟩ := PySem.W.any_some yd_InvalidProgram; rw [hc]; rfl), ya_InvalidProgram, yg_InvalidProgram, ex_InvalidProgram, yd_InvalidProgram, yk_InvalidProgram, is_get, is_tk, yo_InvalidProgram⟩
    mg_TooMany := PySem.W.mg_of X G A_TooMany
    ox_TooMany := ⟨⟨_, _, _, _, _, _, _, _, _, _, _, _, _, _, _, xL_TooMany, by rfl⟩, sx_TooMany, ex_TooMany, ty_TooMany, kx_TooMany⟩
    ix_TooMany := a_TooMany_init_
    tx_TooMany := tf_TooMany
    xd_TooMany := ⟨(by obtain ⟨cd, hc, _⟩ := PySem.W.any_some yd_TooMany; rw [hc]; rfl), ya_TooMany, yg_TooMany, ex_TooMany, yd_TooMany, yk_TooMany, is_get, is_tk, yo_TooMany⟩
    nx_InvalidProgram_body := nx_InvalidProgram_body
    nx_InvalidProgram_command := nx_InvalidProgram_command
    nx_TooMany_what := nx_TooMany_what
    em_InvalidProgram_BridgeError := PySem.W.exm_ref ex_BridgeError yd_BridgeError ty_BridgeError sb_InvalidProgram_BridgeError
    em_TooMany_BridgeError := PySem.W.exm_ref ex_BridgeError yd_BridgeError ty_BridgeError sb_TooMany_BridgeError
    kt_InvalidProgram_TooMany := kt_InvalidProgram_TooMany
    kt_InvalidProgram_InvalidProgram := kt_InvalidProgram_InvalidProgram
    kt_InvalidProgram_ValueError := kt_InvalidProgram_ValueError
    kt_TooMany_TooMany := kt_TooMany_TooMany
    kt_TooMany_InvalidProgram := kt_TooMany_InvalidProgram
    mc_KIND_WORDS := PySem.W.mg_of X G g_KIND_WORDS
    tv_KIND_WORDS := fun H => Rd.sqtK lk_KIND_WORDS vv_KIND_WORDS (Nat.le_of_ble_eq_true rfl)
    mc_LOCALS := ⟨_, PySem.W.mg_of X G g_LOCALS, ⟨_, rfl⟩⟩
    mc_MOST_BODIES := ⟨_, PySem.W.mg_of X G g_MOST_BODIES, ⟨_, rfl⟩⟩
    mc_MOST_COMMANDS := ⟨_, PySem.W.mg_of X G g_MOST_COMMANDS, ⟨_, rfl⟩⟩
    mc_REGISTERS := ⟨_, PySem.W.mg_of X G g_REGISTERS, ⟨_, rfl⟩⟩
    mc_SHAPES := PySem.W.mg_of X G g_SHAPES
    kd_SHAPES := ⟨lk_SHAPES, kl_SHAPES, lo_SHAPES⟩
    kw_SHAPES := (List.forall_mem_cons.mpr ⟨⟨⟨_, _, _, lk_SHAPES, kl_SHAPES, kv_SHAPES_0, ⟨_, rfl⟩⟩, ⟨_, kv_SHAPES_0⟩⟩, (List.forall_mem_cons.mpr ⟨⟨⟨_, _, _, lk_SHAPES, kl_SHAPES, kv_SHAPES_1, ⟨_, rfl⟩⟩, ⟨_, kv_SHAPES_1⟩⟩, (List.forall_mem_cons.mpr ⟨⟨⟨_, _, _, lk_SHAPES, kl_SHAPES, kv_SHAPES_2, ⟨_, rfl⟩⟩, ⟨_, kv_SHAPES_2⟩⟩, (List.forall_mem_cons.mpr ⟨⟨⟨_, _, _, lk_SHAPES, kl_SHAPES, kv_SHAPES_3, ⟨_, rfl⟩⟩, ⟨_, kv_SHAPES_3⟩⟩, (List.forall_mem_cons.mpr ⟨⟨⟨_, _, _, lk_SHAPES, kl_SHAPES, kv_SHAPES_4, ⟨_, rfl⟩⟩, ⟨_, kv_SHAPES_4⟩⟩, (List.forall_mem_cons.mpr ⟨⟨⟨_, _, _, lk_SHAPES, kl_SHAPES, kv_SHAPES_5, ⟨_, rfl⟩⟩, ⟨_, kv_SHAPES_5⟩⟩, (List.forall_mem_cons.mpr ⟨⟨⟨_, _, _, lk_SHAPES, kl_SHAPES, kv_SHAPES_6, ⟨_, rfl⟩⟩, ⟨_, kv_SHAPES_6⟩⟩, (List.forall_mem_cons.mpr ⟨⟨⟨_, _, _, lk_SHAPES, kl_SHAPES, kv_SHAPES_7, ⟨_, rfl⟩⟩, ⟨_, kv_SHAPES_7⟩⟩, (List.forall_mem_cons.mpr ⟨⟨⟨_, _, _, lk_SHAPES, kl_SHAPES, kv_SHAPES_8, ⟨_, rfl⟩⟩, ⟨_, kv_SHAPES_8⟩⟩, (List.forall_mem_cons.mpr ⟨⟨⟨_, _, _, lk_SHAPES, kl_SHAPES, kv_SHAPES_9, ⟨_, rfl⟩⟩, ⟨_, kv_SHAPES_9⟩⟩, (List.forall_mem_cons.mpr ⟨⟨⟨_, _, _, lk_SHAPES, kl_SHAPES, kv_SHAPES_10, ⟨_, rfl⟩⟩, ⟨_, kv_SHAPES_10⟩⟩, (List.forall_mem_cons.mpr ⟨⟨⟨_, _, _, lk_SHAPES, kl_SHAPES, kv_SHAPES_11, ⟨_, rfl⟩⟩, ⟨_, kv_SHAPES_11⟩⟩, (List.forall_mem_cons.mpr ⟨⟨⟨_, _, _, lk_SHAPES, kl_SHAPES, kv_SHAPES_12, ⟨_, rfl⟩⟩, ⟨_, kv_SHAPES_12⟩⟩, (List.forall_mem_cons.mpr ⟨⟨⟨_, _, _, lk_SHAPES, kl_SHAPES, kv_SHAPES_13, ⟨_, rfl⟩⟩, ⟨_, kv_SHAPES_13⟩⟩, (List.forall_mem_cons.mpr ⟨⟨⟨_, _, _, lk_SHAPES, kl_SHAPES, kv_SHAPES_14, ⟨_, rfl⟩⟩, ⟨_, kv_SHAPES_14⟩⟩, (List.forall_mem_cons.mpr ⟨⟨⟨_, _, _, lk_SHAPES, kl_SHAPES, kv_SHAPES_15, ⟨_, rfl⟩⟩, ⟨_, kv_SHAPES_15⟩⟩, (List.forall_mem_cons.mpr ⟨⟨⟨_, _, _, lk_SHAPES, kl_SHAPES, kv_SHAPES_16, ⟨_, rfl⟩⟩, ⟨_, kv_SHAPES_16⟩⟩, (List.forall_mem_cons.mpr ⟨⟨⟨_, _, _, lk_SHAPES, kl_SHAPES, kv_SHAPES_17, ⟨_, rfl⟩⟩, ⟨_, kv_SHAPES_17⟩⟩, (List.forall_mem_cons.mpr ⟨⟨⟨_, _, _, lk_SHAPES, kl_SHAPES, kv_SHAPES_18, ⟨_, rfl⟩⟩, ⟨_, kv_SHAPES_18⟩⟩, (List.forall_mem_cons.mpr ⟨⟨⟨_, _, _, lk_SHAPES, kl_SHAPES, kv_SHAPES_19, ⟨_, rfl⟩⟩, ⟨_, kv_SHAPES_19⟩⟩, (List.forall_mem_cons.mpr ⟨⟨⟨_, _, _, lk_SHAPES, kl_SHAPES, kv_SHAPES_20, ⟨_, rfl⟩⟩, ⟨_, kv_SHAPES_20⟩⟩, (fun _ h => nomatch h)⟩)⟩)⟩)⟩)⟩)⟩)⟩)⟩)⟩)⟩)⟩)⟩)⟩)⟩)⟩)⟩)⟩)⟩)⟩)⟩)⟩)
    kn_SHAPES := (List.forall_mem_cons.mpr ⟨kz_SHAPES_0, (List.forall_mem_cons.mpr ⟨kz_SHAPES_1, (List.forall_mem_cons.mpr ⟨kz_SHAPES_2, (List.forall_mem_cons.mpr ⟨kz_SHAPES_3, (fun _ h => nomatch h)⟩)⟩)⟩)⟩)
    z_ValueError := PySem.W.mg_none_of X G z_ValueError
    z_abs := PySem.W.mg_none_of X G z_abs
    z_bool := PySem.W.mg_none_of X G z_bool
    z_enumerate := PySem.W.mg_none_of X G z_enumerate
    z_int := PySem.W.mg_none_of X G z_int
    z_isinstance := PySem.W.mg_none_of X G z_isinstance
    z_len := PySem.W.mg_none_of X G z_len
    z_list := PySem.W.mg_none_of X G z_list
    z_max := PySem.W.mg_none_of X G z_max
    z_min := PySem.W.mg_none_of X G z_min
    z_range := PySem.W.mg_none_of X G z_range
    z_sorted := PySem.W.mg_none_of X G z_sorted
    z_str := PySem.W.mg_none_of X G z_str
    z_tuple := PySem.W.mg_none_of X G z_tuple
  }
theorem walk {l : PySem.W.OpenLaw} {q : Program} {loose : List Str} {XP : (Str → Option Value) → Heap → Prop} {YP : World → Heap → Prop} {d : DefRec} {K : Params → PySem.W.Frag} (hn : l.most = some 63) (hdf : d.params.defaults = [])
    (hY : ∀ (w : World) (h : Heap), YP w h → (K w.params).In h)
    (F : ∀ (w : World) (mg : Str → Option Value) (fa : Addr) (h : Heap), (K w.params).In h → h.Ns mainGlobals mg → mg d.name = some (.ref fa) →
      ∃ ad : Ad, Txt (K w.params) w mg ad ∧ fa = ad.a_law ∧ ∀ (s : Shared) (v : Value), BindsTo s ad.d_law ⟨[v], []⟩ [("script", v)]) :
    PySem.W.WalkO q loose XP YP l.row.toRowW d [] (fun f vs => PySem.call f vs) := by
  refine L2.walk_of (n := 63) (k := 7) (x := "script") (CX := fun _ => CX0) (sp := fun w => spLaw (K w.params)) hn (by decide) hdf ⟨rfl, by decide, by decide⟩ hY (fun w mg fa h KX G hmg => ?_) (fun _ _ a ns hl _ hS => ⟨a, ns, rfl, hS, hl, fun _ => rfl⟩) fun _ _ _ _ _ z => z
  obtain ⟨ad, T, rfl, hb⟩ := F w mg fa h KX G hmg
  exact ⟨ad.d_law, hb, fun base _ _ => ok_law T⟩
end Toy
open PySem PySem.W PyProof.Rows
set_option maxRecDepth 100000 in
set_option maxHeartbeats 0 in
theorem PySem.Challenge.cw_surebridge_k34_programs_refused_holds : PySem.Challenge.rw_surebridge_k34_programs_refused.Holds := by
  w_on; o_law; k_head; (case hw => w_witness2)
  k_fill
  refine Toy.walk (l := PySem.Challenge.rw_surebridge_k34_programs_refused) rfl rfl (fun w h Y => PySem.W.kIn_of Y) ?F
  case F =>
    intro w mg fa h KX G hmg
    refine' Toy.all_mk (w := w) KX G hmg ?A_BridgeError ?A_InvalidProgram ?A_Program ?A_TooMany ?a_law_take ?l_law_take ?c_law_take ?k_law_take ?a_law_deck ?l_law_deck ?c_law_deck ?k_law_deck ?a_law_plain ?l_law_plain ?c_law_plain ?k_law_plain ?a_TooMany_init_ ?i_TooMany_init_ ?l_TooMany_init_ ?c_TooMany_init_ ?k_TooMany_init_ ?a_InvalidProgram_init_ ?i_InvalidProgram_init_ ?l_InvalidProgram_init_ ?c_InvalidProgram_init_ ?k_InvalidProgram_init_ ?a_fits ?l_fits ?c_fits ?k_fits ?a_allowed ?l_allowed ?c_allowed ?k_allowed ?a_named_registers_of ?l_named_registers_of ?c_named_registers_of ?k_named_registers_of ?a_check_bodies ?l_check_bodies ?c_check_bodies ?k_check_bodies ?a_room_of ?l_room_of ?c_room_of ?k_room_of ?a_Program_init_ ?i_Program_init_ ?l_Program_init_ ?c_Program_init_ ?k_Program_init_ ?a_law_shapes ?l_law_shapes ?c_law_shapes ?k_law_shapes ?a_law_value ?l_law_value ?c_law_value ?k_law_value ?a_law_operand ?l_law_operand ?c_law_operand ?k_law_operand ?a_law_command ?l_law_command ?c_law_command ?k_law_command ?a_law_bodies ?l_law_bodies ?c_law_bodies ?k_law_bodies ?a_law_bad_operand ?l_law_bad_operand ?c_law_bad_operand ?k_law_bad_operand ?a_law_spoilt ?l_law_spoilt ?c_law_spoilt ?k_law_spoilt ?a_law_refusal ?l_law_refusal ?c_law_refusal ?k_law_refusal ?a_law_sizes ?l_law_sizes ?c_law_sizes ?k_law_sizes ?a_law ?l_law ?c_law ?k_law ?pg_Program ?hd_Program ?po_Program ?sa_Program ?mk_Program ?kc_Program ?n_Program_bodies ?n_Program_room ?ex_BridgeError ?ty_BridgeError ?yd_BridgeError ?og_BridgeError ?or_BridgeError ?of_BridgeError ?ex_InvalidProgram ?ty_InvalidProgram ?yd_InvalidProgram ?xL_InvalidProgram ?sx_InvalidProgram ?kx_InvalidProgram ?tf_InvalidProgram ?ya_InvalidProgram ?yg_InvalidProgram ?yk_InvalidProgram ?yo_InvalidProgram ?ex_TooMany ?ty_TooMany ?yd_TooMany ?xL_TooMany ?sx_TooMany ?kx_TooMany ?tf_TooMany ?ya_TooMany ?yg_TooMany ?yk_TooMany ?yo_TooMany ?nx_InvalidProgram_body ?nx_InvalidProgram_command ?nx_TooMany_what ?sb_InvalidProgram_BridgeError ?sb_TooMany_BridgeError ?kt_InvalidProgram_TooMany ?kt_InvalidProgram_InvalidProgram ?kt_InvalidProgram_ValueError ?kt_TooMany_TooMany ?kt_TooMany_InvalidProgram ?is_get ?is_tk ?z_ValueError ?z_abs ?z_bool ?z_enumerate ?z_int ?z_isinstance ?z_len ?z_list ?z_max ?z_min ?z_range ?z_sorted ?z_str ?z_tuple ?g_KIND_WORDS ?lk_KIND_WORDS ?vv_KIND_WORDS ?g_LOCALS ?g_MOST_BODIES ?g_MOST_COMMANDS ?g_REGISTERS ?g_SHAPES ?lk_SHAPES ?kl_SHAPES ?lo_SHAPES ?kv_SHAPES_0 ?kv_SHAPES_1 ?kv_SHAPES_2 ?kv_SHAPES_3 ?kv_SHAPES_4 ?kv_SHAPES_5 ?kv_SHAPES_6 ?kv_SHAPES_7 ?kv_SHAPES_8 ?kv_SHAPES_9 ?kv_SHAPES_10 ?kv_SHAPES_11 ?kv_SHAPES_12 ?kv_SHAPES_13 ?kv_SHAPES_14 ?kv_SHAPES_15 ?kv_SHAPES_16 ?kv_SHAPES_17 ?kv_SHAPES_18 ?kv_SHAPES_19 ?kv_SHAPES_20 ?kz_SHAPES_0 ?kz_SHAPES_1 ?kz_SHAPES_2 ?kz_SHAPES_3
    (case A_BridgeError => k_is)
    (case A_InvalidProgram => k_is)
    (case A_Program => k_is)
    (case A_TooMany => k_is)
    (case a_law_take => k_is)
    (case l_law_take => k_is)
    (case c_law_take => k_is)
    (case k_law_take => k_is)
    (case a_law_deck => k_is)
    (case l_law_deck => k_is)
    (case c_law_deck => k_is)
    (case k_law_deck => k_is)
    (case a_law_plain => k_is)
    (case l_law_plain => k_is)
    (case c_law_plain => k_is)
    (case k_law_plain => k_is)
    (case a_TooMany_init_ => k_is)
    (case i_TooMany_init_ => k_is)
    (case l_TooMany_init_ => k_is)
    (case c_TooMany_init_ => k_is)
    (case k_TooMany_init_ => k_is)
    (case a_InvalidProgram_init_ => k_is)
    (case i_InvalidProgram_init_ => k_is)
    (case l_InvalidProgram_init_ => k_is)
    (case c_InvalidProgram_init_ => k_is)
    (case k_InvalidProgram_init_ => k_is)
    (case a_fits => k_is)
    (case l_fits => k_is)
    (case c_fits => k_is)
    (case k_fits => k_is)
    (case a_allowed => k_is)
    (case l_allowed => k_is)
    (case c_allowed => k_is)
    (case k_allowed => k_is)
    (case a_named_registers_of => k_is)
    (case l_named_registers_of => k_is)
    (case c_named_registers_of => k_is)
    (case k_named_registers_of => k_is)
    (case a_check_bodies => k_is)
    (case l_check_bodies => k_is)
    (case c_check_bodies => k_is)
    (case k_check_bodies => k_is)
    (case a_room_of => k_is)
    (case l_room_of => k_is)
    (case c_room_of => k_is)
    (case k_room_of => k_is)
    (case a_Program_init_ => k_is)
    (case i_Program_init_ => k_is)
    (case l_Program_init_ => k_is)
    (case c_Program_init_ => k_is)
    (case k_Program_init_ => k_is)
    (case a_law_shapes => k_is)
    (case l_law_shapes => k_is)
    (case c_law_shapes => k_is)
    (case k_law_shapes => k_is)
    (case a_law_value => k_is)
    (case l_law_value => k_is)
    (case c_law_value => k_is)
    (case k_law_value => k_is)
    (case a_law_operand => k_is)
    (case l_law_operand => k_is)
    (case c_law_operand => k_is)
    (case k_law_operand => k_is)
    (case a_law_command => k_is)
    (case l_law_command => k_is)
    (case c_law_command => k_is)
    (case k_law_command => k_is)
    (case a_law_bodies => k_is)
    (case l_law_bodies => k_is)
    (case c_law_bodies => k_is)
    (case k_law_bodies => k_is)
    (case a_law_bad_operand => k_is)
    (case l_law_bad_operand => k_is)
    (case c_law_bad_operand => k_is)
    (case k_law_bad_operand => k_is)
    (case a_law_spoilt => k_is)
    (case l_law_spoilt => k_is)
    (case c_law_spoilt => k_is)
    (case k_law_spoilt => k_is)
    (case a_law_refusal => k_is)
    (case l_law_refusal => k_is)
    (case c_law_refusal => k_is)
    (case k_law_refusal => k_is)
    (case a_law_sizes => k_is)
    (case l_law_sizes => k_is)
    (case c_law_sizes => k_is)
    (case k_law_sizes => k_is)
    (case a_law => k_is)
    (case l_law => k_is)
    (case c_law => k_is)
    (case k_law => k_is)
    (case pg_Program => k_is)
    (case hd_Program => k_is)
    (case po_Program => k_is)
    (case sa_Program => k_is)
    (case mk_Program => k_is)
    (case kc_Program => k_is)
    (case n_Program_bodies => k_is)
    (case n_Program_room => k_is)
    (case ex_BridgeError => k_is)
    (case ty_BridgeError => k_is)
    (case yd_BridgeError => k_is)
    (case og_BridgeError => k_is)
    (case or_BridgeError => k_is)
    (case of_BridgeError => k_is)
    (case ex_InvalidProgram => k_is)
    (case ty_InvalidProgram => k_is)
    (case yd_InvalidProgram => k_is)
    (case xL_InvalidProgram => k_is)
    (case sx_InvalidProgram => k_is)
    (case kx_InvalidProgram => k_is)
    (case tf_InvalidProgram => k_is)
    (case ya_InvalidProgram => k_is)
    (case yg_InvalidProgram => k_is)
    (case yk_InvalidProgram => k_is)
    (case yo_InvalidProgram => k_is)
    (case ex_TooMany => k_is)
    (case ty_TooMany => k_is)
    (case yd_TooMany => k_is)
    (case xL_TooMany => k_is)
    (case sx_TooMany => k_is)
    (case kx_TooMany => k_is)
    (case tf_TooMany => k_is)
    (case ya_TooMany => k_is)
    (case yg_TooMany => k_is)
    (case yk_TooMany => k_is)
    (case yo_TooMany => k_is)
    (case nx_InvalidProgram_body => k_is)
    (case nx_InvalidProgram_command => k_is)
    (case nx_TooMany_what => k_is)
    (case sb_InvalidProgram_BridgeError => first | rfl | k_is)
    (case sb_TooMany_BridgeError => first | rfl | k_is)
    (case kt_InvalidProgram_TooMany => kit_is)
    (case kt_InvalidProgram_InvalidProgram => kit_is)
    (case kt_InvalidProgram_ValueError => kit_is)
    (case kt_TooMany_TooMany => kit_is)
    (case kt_TooMany_InvalidProgram => kit_is)
    (case is_get => k_is)
    (case is_tk => k_is)
    (case z_ValueError => k_is)
    (case z_abs => k_is)
    (case z_bool => k_is)
    (case z_enumerate => k_is)
    (case z_int => k_is)
    (case z_isinstance => k_is)
    (case z_len => k_is)
    (case z_list => k_is)
    (case z_max => k_is)
    (case z_min => k_is)
    (case z_range => k_is)
    (case z_sorted => k_is)
    (case z_str => k_is)
    (case z_tuple => k_is)
    (case g_KIND_WORDS => k_is)
    (case lk_KIND_WORDS => k_is)
    (case vv_KIND_WORDS => repeat (first | exact .nil | refine .cons ⟨_, rfl⟩ ?_ | refine .cons rfl ?_))
    (case g_LOCALS => k_is)
    (case g_MOST_BODIES => k_is)
    (case g_MOST_COMMANDS => k_is)
    (case g_REGISTERS => k_is)
    (case g_SHAPES => k_is)
    (case lk_SHAPES => k_is)
    (case kl_SHAPES => repeat (first | exact trivial | refine ⟨⟨_, _, rfl, rfl⟩, ?_⟩))
    (case lo_SHAPES => rfl)
    (case kv_SHAPES_0 => k_is)
    (case kv_SHAPES_1 => k_is)
    (case kv_SHAPES_2 => k_is)
    (case kv_SHAPES_3 => k_is)
    (case kv_SHAPES_4 => k_is)
    (case kv_SHAPES_5 => k_is)
    (case kv_SHAPES_6 => k_is)
    (case kv_SHAPES_7 => k_is)
    (case kv_SHAPES_8 => k_is)
    (case kv_SHAPES_9 => k_is)
    (case kv_SHAPES_10 => k_is)
    (case kv_SHAPES_11 => k_is)
    (case kv_SHAPES_12 => k_is)
    (case kv_SHAPES_13 => k_is)
    (case kv_SHAPES_14 => k_is)
    (case kv_SHAPES_15 => k_is)
    (case kv_SHAPES_16 => k_is)
    (case kv_SHAPES_17 => k_is)
    (case kv_SHAPES_18 => k_is)
    (case kv_SHAPES_19 => k_is)
    (case kv_SHAPES_20 => k_is)
    (case kz_SHAPES_0 => k_is)
    (case kz_SHAPES_1 => k_is)
    (case kz_SHAPES_2 => k_is)
    (case kz_SHAPES_3 => k_is)
#print axioms PySem.Challenge.cw_surebridge_k34_programs_refused_holds

