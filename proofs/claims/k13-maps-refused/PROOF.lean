import PyProof.Rows.All
import Wide.All
import OpenK.AllK
import Wide.FinOn
import HandS.ForMost
import HandS.Wide
import HandS.Evl
import HandS.IsInst
import HandS.Steps
import HandS.Flow
import HandS.Conv
import HandS.Codes
import HandS.More
import HandS.Replace

import HandS.ForExc
import HandS.ExcInit
import HandS.ExcIs
import HandS.ExcField
import HandS.ClsMeth
import HandS.TryOnly
import KE.KExcIs
import HandS.HotCalls
import HandS.ExcCtx
import HandS.WordsExc
import HandS.FStr
import HandS.Style
import HandS.WordsDict
import PySem.Challenge.RW_surebridge_k13_maps_refused
set_option Elab.async false
set_option linter.all false
set_option maxRecDepth 100000
set_option maxHeartbeats 4000000
/-! a list of ints whose content is not told: the law's deck -/
namespace Dk
open PySem PySem.Spec PyProof.Rows L2

def Ints (l : Addr) (h : Heap) : Prop := ∃ ns : List Int, ns.length ≤ 100000 ∧ ∃ (its : List Value) (n : Nat), Vals (ns.map V.int) its ∧ h.get? l = some { cls := .type "list", data := .seq its.toArray n }
def DkO (l : Addr) : HO := .ext (Ints l)
theorem sz5 {n : Nat} (h : n ≤ 100000) : n ≤ sizeLine := Nat.le_trans h (by decide)
section
variable {P : Program} {w : World} {H H' : Hp} {h h' : Heap} {l : Addr} {o o' : HO} {fs ex : List Addr}
/-- another word for what stands at x -/
theorem retag (ok : HOk P w H h) (hx : H l = some o) (n1 : ∀ y, o ≠ .own y) (n2 : ∀ xs, o ≠ .tup xs) (new : ObjOk P w (upd H l o') h l o') : HOk P w (upd H l o') h := fun b u e => by
  by_cases hb : b = l
  · subst hb; rw [upd_same] at e; cases e; exact new
  · rw [upd_ne hb] at e
    refine (ok b u e).stay (fun c v _ q => q) (fun c q => ?_) fun c xs q => ?_
    · rw [upd_ne (fun z => by subst z; rw [hx] at q; exact n1 _ (Option.some.inj q))]; exact q
    · rw [upd_ne (fun z => by subst z; rw [hx] at q; exact n2 _ (Option.some.inj q))]; exact q
theorem upd_id (hx : H l = some o) : upd H l o = H := by
  funext b
  by_cases hb : b = l
  · rw [hb, upd_same, hx]
  · rw [upd_ne hb]
theorem dk_open (ok : HOk P w H h) (hx : H l = some (DkO l)) : ∃ ns : List Int, ns.length ≤ 100000 ∧ HOk P w (upd H l (.lst (ns.map V.int))) h := by
  have x : ObjOk P w H h l (.ext (Ints l)) := ok l _ hx
  obtain ⟨⟨ns, hn, its, n, r, e⟩, _, _⟩ := x
  refine ⟨ns, hn, retag ok hx (fun y z => by cases z) (fun y z => by cases z) ?_⟩
  exact ⟨by rw [List.length_map]; exact sz5 hn, its, n, r, e⟩
theorem dk_close {ns : List Int} (ok : HOk P w H h) (hx : H l = some (.lst (ns.map V.int))) (hn : ns.length ≤ 100000) : HOk P w (upd H l (DkO l)) h := by
  have x : ObjOk P w H h l (.lst (ns.map V.int)) := ok l _ hx
  obtain ⟨_, its, n, r, e⟩ := x
  refine retag ok hx (fun y z => by cases z) (fun y z => by cases z) ?_
  exact ⟨⟨ns, hn, its, n, r, e⟩, ⟨_, e⟩, fun h1 h2 z k => by
    obtain ⟨ms, hm, its', n', r', e'⟩ := z
    exact ⟨ms, hm, its', n', r', k _ e'⟩⟩
/-- untouched: another word at l on either side -/
theorem un_left {o1 : HO} (u : Un fs ex (upd H l o1) H' h h') (hx : H l = some o) (n2 : ∀ xs, o ≠ .tup xs) (n3 : ∀ o' v, o ≠ .frz o' v) (n4 : ∀ ps, o ≠ .tbl ps) : Un fs ex H H' h h' where
  keep := fun b q e n hb he => u.keep b q e (by rw [upd_ne (fun z => by subst z; rw [hx] at n; cases n)]; exact n) hb he
  slot := fun b q e n hb he => u.slot b q e (by rw [upd_ne (fun z => by subst z; rw [hx] at n; cases n)]; exact n) hb he
  free := fun b q e n he => u.free b q e (by rw [upd_ne (fun z => by subst z; rw [hx] at n; cases n)]; exact n) he
  there := u.there
  tups := fun b xs q => u.tups b xs (by rw [upd_ne (fun z => by subst z; rw [hx] at q; exact n2 _ (Option.some.inj q))]; exact q)
  frzs := fun b o v q => u.frzs b o v (by rw [upd_ne (fun z => by subst z; rw [hx] at q; exact n3 _ _ (Option.some.inj q))]; exact q)
  tbls := fun b ps q => u.tbls b ps (by rw [upd_ne (fun z => by subst z; rw [hx] at q; exact n4 _ (Option.some.inj q))]; exact q)
theorem un_right {o1 : HO} (u : Un fs ex H H' h h') (hx : H' l = some o) (n2 : ∀ xs, o ≠ .tup xs) (n3 : ∀ o' v, o ≠ .frz o' v) (n4 : ∀ ps, o ≠ .tbl ps) : Un fs ex H (upd H' l o1) h h' where
  keep := u.keep
  slot := u.slot
  free := fun b q e n he => by
    have z := u.free b q e n he
    rw [upd_ne (fun y => by subst y; rw [hx] at z; cases z)]; exact z
  there := u.there
  tups := fun b xs q => by
    have z := u.tups b xs q
    rw [upd_ne (fun y => by subst y; rw [hx] at z; exact n2 _ (Option.some.inj z))]; exact z
  frzs := fun b o v q => by
    have z := u.frzs b o v q
    rw [upd_ne (fun y => by subst y; rw [hx] at z; exact n3 _ _ (Option.some.inj z))]; exact z
  tbls := fun b ps q => by
    obtain ⟨m, z⟩ := u.tbls b ps q
    exact ⟨m, by rw [upd_ne (fun y => by subst y; rw [hx] at z; exact n4 _ (Option.some.inj z))]; exact z⟩
end
/-- take(deck, many), told of the list | of a deck -/
def spTakeC : Sp := fun vs H Q _ => ∃ (l : Addr) (ns : List Int) (m : Int), vs = [.ref l, .int m] ∧ H l = some (.lst (ns.map V.int)) ∧ ns.length ≤ 100000 ∧ 0 < m ∧
  ∀ (k : Int) (ns' : List Int), 0 ≤ k → k < m → ns'.length ≤ 100000 → Q (.int k) (upd H l (.lst (ns'.map V.int)))
def spTake : Sp := fun vs H Q _ => ∃ (l : Addr) (m : Int), vs = [.ref l, .int m] ∧ H l = some (DkO l) ∧ 0 < m ∧ ∀ k : Int, 0 ≤ k → k < m → Q (.int k) H
/-- deck(script, cells, each), told of the list | of a deck -/
def spDeckC (K : PySem.W.Frag) : Sp := fun vs H Q _ => ∃ (a : Addr) (ns : List Int) (c e : Int), vs = [.ref a, .int c, .int e] ∧ SqL K H a (ns.map V.int) ∧ ns.length ≤ 63 ∧ 0 ≤ c ∧ 0 ≤ e ∧ c ≤ 64 ∧ e ≤ 64 ∧
  ∀ (l : Addr) (ms : List Int) (H' : Hp), H l = none → H' = upd H l (.lst (ms.map V.int)) → ms.length ≤ 100000 → Q (.ref l) H'
def spDeck (K : PySem.W.Frag) : Sp := fun vs H Q _ => ∃ (a : Addr) (ns : List Int) (c e : Int), vs = [.ref a, .int c, .int e] ∧ SqL K H a (ns.map V.int) ∧ ns.length ≤ 63 ∧ 0 ≤ c ∧ 0 ≤ e ∧ c ≤ 64 ∧ e ≤ 64 ∧
  ∀ (l : Addr), H l = none → Q (.ref l) (upd H l (DkO l))
section
variable {P : Program} {w : World} {K : PySem.W.Frag} {mg : Str → Option Value} {base : Heap} {k : Nat} {f : Addr} {fd : FuncData} {ps : List Str}
theorem dk_tup {l : Addr} (xs : List V) : DkO l ≠ .tup xs := fun z => by
  have z' : HO.ext _ = HO.tup xs := z
  cases z'
theorem dk_frz {l : Addr} (o : Obj) (v : HO) : DkO l ≠ .frz o v := fun z => by
  have z' : HO.ext _ = HO.frz o v := z
  cases z'
theorem dk_tbl {l : Addr} (xs : Array Value) : DkO l ≠ .tbl xs := fun z => by
  have z' : HO.ext _ = HO.tbl xs := z
  cases z'
theorem ok_take (F : FnOk P w K mg base CX0 k f fd ps spTakeC) : FnOk P w K mg base CX0 k f fd ps spTake where
  len := fun vs H Q E h => by
    obtain ⟨l, m, e, h1, h2, h3⟩ := h
    exact F.len vs (upd H l (.lst (([] : List Int).map V.int))) (fun _ _ => True) E ⟨l, [], m, e, upd_same, by decide, h2, fun _ _ _ _ _ => trivial⟩
  run := fun A outer s H args us vs Q E hr he hb hv h => by
    obtain ⟨l, m, e, h1, h2, h3⟩ := h
    obtain ⟨ns, hn, ok⟩ := dk_open he.hok h1
    have nb : ∀ b, H b = none → b ≠ l := fun b n z => by rw [z, h1] at n; cases n
    have he1 : Env0 P w K mg base A outer s (upd H l (.lst (ns.map V.int))) := ⟨he.frames, he.mod, fun b o q => ⟨(he.bs b o q).1, by rw [upd_ne (nb b (he.bs b o q).2)]; exact (he.bs b o q).2⟩, he.bsz, he.funs, fun b q => by rw [upd_ne (nb b (he.frf b q))]; exact he.frf b q, ok, he.bare⟩
    refine codeAny_mono (F.run A outer s _ args us vs (fun v H1 => ∃ ns' : List Int, ns'.length ≤ 100000 ∧ H1 = upd H l (.lst (ns'.map V.int)) ∧ Q v H) E hr he1 hb hv ⟨l, ns, m, e, upd_same, hn, h2, fun k ns' k0 k1 hl => ⟨ns', hl, by rw [upd_upd], h3 k k0 k1⟩⟩) fun r s' q => ?_
    cases r with
    | error e => exact q
    | ok fl =>
      cases fl with
      | ret u =>
        obtain ⟨v, H1, os, bare, un, hok, rv, ns', hl, e1, q⟩ := q
        subst e1
        have g : upd (upd H l (.lst (ns'.map V.int))) l (DkO l) = H := by rw [upd_upd]; exact upd_id h1
        have hok' := dk_close hok upd_same hl
        have un1 := un_left un h1 dk_tup dk_frz dk_tbl
        have un2 := un_right (o1 := DkO l) un1 upd_same (fun _ z => by cases z) (fun _ _ z => by cases z) (fun _ z => by cases z)
        rw [g] at hok' un2
        exact ⟨v, H, os, bare, un2, hok', rv, q⟩
      | next => exact q
      | brk => exact q
      | cont => exact q
theorem ok_deck (F : FnOk P w K mg base CX0 k f fd ps (spDeckC K)) : FnOk P w K mg base CX0 k f fd ps (spDeck K) where
  len := fun vs H Q E h => by
    obtain ⟨a, ns, c, e, h1, h2, h3, h4, h5, h6, h7, h8⟩ := h
    exact F.len vs H (fun _ _ => True) E ⟨a, ns, c, e, h1, h2, h3, h4, h5, h6, h7, fun _ _ _ _ _ _ => trivial⟩
  run := fun A outer s H args us vs Q E hr he hb hv h => by
    obtain ⟨a, ns, c, e, h1, h2, h3, h4, h5, h6, h7, h8⟩ := h
    refine codeAny_mono (F.run A outer s _ args us vs (fun v H1 => ∃ (l : Addr) (ms : List Int), ms.length ≤ 100000 ∧ H l = none ∧ H1 = upd H l (.lst (ms.map V.int)) ∧ v = .ref l) E hr he hb hv ⟨a, ns, c, e, h1, h2, h3, h4, h5, h6, h7, fun l ms H' n e q => ⟨l, ms, q, n, e, rfl⟩⟩) fun r s' q => ?_
    cases r with
    | error e => exact q
    | ok fl =>
      cases fl with
      | ret u =>
        obtain ⟨v, H1, os, bare, un, hok, rv, l, ms, hl, n, e1, ev⟩ := q
        subst e1
        subst ev
        have hok' := dk_close hok upd_same hl
        have un2 := un_right (o1 := DkO l) un upd_same (fun _ z => by cases z) (fun _ _ z => by cases z) (fun _ z => by cases z)
        rw [upd_upd] at hok' un2
        exact ⟨.ref l, _, os, bare, un2, hok', rv, h8 l n⟩
      | next => exact q
      | brk => exact q
      | cont => exact q
end
end Dk

/-! readings, one rule a construct, for a walk by `first` -/
namespace Rd
open PySem PySem.Spec PyProof.Rows L2 Evl Dk
section
variable {σ σ' : L2.St} {H H' H1 : Hp} {Q : VK} {v x y z : V} {ta tb te tc : TE} {K : PySem.W.Frag} {i j : Int} {D : Ends} {t u : TS} {ct cu : TT} {QB : Bool → Hp → Prop} {QA : List V → Hp → Prop} {al bl : TA} {xs ys : List V} {a l C dx : Addr} {fs : List (Str × V)} {A B : Prop} {r : R2}
theorem var {n : Nat} (h : σ[n]? = some (some v)) (q : Q v H) : tVar n σ H Q := ⟨v, h, q⟩
theorem c (q : Q v H) : tC v σ H Q := q
theorem op (h : ta σ H fun x H1 => tb σ H1 fun y H2 => r x y H2 Q) : tOp r ta tb σ H Q := h
theorem un {r : V → Hp → VK → Prop} (h : ta σ H fun x H1 => r x H1 Q) : tUn r ta σ H Q := h
theorem i0 {g : Int → Int → V} (q : Q (g i j) H) : rI0 g (.int i) (.int j) H Q := ⟨i, j, rfl, rfl, q⟩
theorem i1 {C : Int → Int → Prop} {g : Int → Int → V} (c : C i j) (q : Q (g i j) H) : rI C g (.int i) (.int j) H Q := ⟨i, j, rfl, rfl, c, q⟩
theorem u0 {g : Int → V} (q : Q (g i) H) : rU g (.int i) H Q := ⟨i, rfl, q⟩
theorem dI : decide (V.int i = V.int j) = decide (i = j) := decide_eq_decide.mpr ⟨V.int.inj, congrArg V.int⟩
theorem dS {s t : Str} : decide (V.str s = V.str t) = decide (s = t) := decide_eq_decide.mpr ⟨V.str.inj, congrArg V.str⟩
theorem dB {s t : Bool} : decide (V.bl s = V.bl t) = decide (s = t) := decide_eq_decide.mpr ⟨V.bl.inj, congrArg V.bl⟩
theorem eqI (q : Q (.bl (decide (i = j))) H) : rEq (.int i) (.int j) H Q := ⟨rfl, by rw [dI]; exact q⟩
theorem neI (q : Q (.bl (!decide (i = j))) H) : rNe (.int i) (.int j) H Q := ⟨rfl, by rw [dI]; exact q⟩
theorem eqS {s t : Str} (q : Q (.bl (decide (s = t))) H) : rEq (.str s) (.str t) H Q := ⟨rfl, by rw [dS]; exact q⟩
theorem neS {s t : Str} (q : Q (.bl (!decide (s = t))) H) : rNe (.str s) (.str t) H Q := ⟨rfl, by rw [dS]; exact q⟩
theorem eqX (h : scal x y = true) (q : Q (.bl (decide (x = y))) H) : rEq x y H Q := ⟨h, q⟩
theorem neX (h : scal x y = true) (q : Q (.bl (!decide (x = y))) H) : rNe x y H Q := ⟨h, q⟩
theorem isN (q : Q (.bl (decide (x = .non))) H) : rIsN x .non H Q := ⟨rfl, q⟩
theorem notN (q : Q (.bl (!decide (x = .non))) H) : rNotN x .non H Q := ⟨rfl, q⟩
theorem isN_non (q : Q (.bl true) H) : rIsN .non .non H Q := ⟨rfl, q⟩
theorem notN_non (q : Q (.bl false) H) : rNotN .non .non H Q := ⟨rfl, q⟩
theorem isN_int (q : Q (.bl false) H) : rIsN (.int i) .non H Q := ⟨rfl, q⟩
theorem notN_int (q : Q (.bl true) H) : rNotN (.int i) .non H Q := ⟨rfl, q⟩
theorem isN_ref (q : Q (.bl false) H) : rIsN (.ref a) .non H Q := ⟨rfl, q⟩
theorem notN_ref (q : Q (.bl true) H) : rNotN (.ref a) .non H Q := ⟨rfl, q⟩
theorem isN_str {s : Str} (q : Q (.bl false) H) : rIsN (.str s) .non H Q := ⟨rfl, q⟩
theorem notN_str {s : Str} (q : Q (.bl true) H) : rNotN (.str s) .non H Q := ⟨rfl, q⟩
/-- a value that must be a truth value -/
def xT (x : V) (H : Hp) (Q : Bool → Hp → Prop) : Prop := ∃ k, x = .bl k ∧ Q k H
theorem xt {b : Bool} (q : QB b H) : xT (.bl b) H QB := ⟨b, rfl, q⟩
theorem test (h : te σ H fun x H' => xT x H' QB) : tTest te σ H QB := h
theorem tbv (h : te σ H fun x H' => xT x H' QB) : tB te σ H QB := h
theorem andT (h : ct σ H fun c H1 => if c = true then cu σ H1 QB else QB false H1) : tAnd ct cu σ H QB := h
theorem orT (h : ct σ H fun c H1 => if c = true then QB true H1 else cu σ H1 QB) : tOr ct cu σ H QB := h
theorem notT (h : ct σ H fun c H1 => QB (!c) H1) : tNot ct σ H QB := h
theorem andV (h : ta σ H fun x H1 => xT x H1 fun c H1 => if c = true then te σ H1 Q else Q (.bl false) H1) : tAndV ta te σ H Q := h
theorem orV (h : ta σ H fun x H1 => xT x H1 fun c H1 => if c = true then Q (.bl true) H1 else te σ H1 Q) : tOrV ta te σ H Q := h
theorem notV (h : ta σ H fun x H1 => xT x H1 fun c H1 => Q (.bl (!c)) H1) : tNotV ta σ H Q := h
theorem ifE (h : ct σ H fun c H1 => if c = true then ta σ H1 Q else tb σ H1 Q) : tIf ct ta tb σ H Q := h
theorem chain {r r' : R2} (h : ta σ H fun x H1 => tb σ H1 fun y H2 => r x y H2 fun z H3 => xT z H3 fun k H3 => if k = true then tc σ H3 fun w H4 => r' y w H4 Q else Q (.bl false) H3) : tChain r r' ta tb tc σ H Q := h
theorem ifT {p : Prop} [Decidable p] (hp : p) (h : A) : if decide p = true then A else B := by rw [if_pos (decide_eq_true hp)]; exact h
theorem ifF {p : Prop} [Decidable p] (hp : ¬ p) (h : B) : if decide p = true then A else B := by rw [decide_eq_false hp, if_neg Bool.false_ne_true]; exact h
theorem ifd {p : Prop} [Decidable p] (h1 : p → A) (h2 : ¬ p → B) : if decide p = true then A else B := by
  by_cases hp : p
  · exact ifT hp (h1 hp)
  · exact ifF hp (h2 hp)
theorem ifNT {p : Prop} [Decidable p] (hp : ¬ p) (h : A) : if (!decide p) = true then A else B := by rw [decide_eq_false hp]; exact iteT h
theorem ifNF {p : Prop} [Decidable p] (hp : p) (h : B) : if (!decide p) = true then A else B := by rw [decide_eq_true hp]; exact iteF h
theorem ifNd {p : Prop} [Decidable p] (h1 : ¬ p → A) (h2 : p → B) : if (!decide p) = true then A else B := by
  by_cases hp : p
  · exact ifNF hp (h2 hp)
  · exact ifNT hp (h1 hp)
theorem ifTT (h : A) : if true = true then A else B := iteT h
theorem ifFF (h : B) : if false = true then A else B := iteF h
theorem ifNTT (h : A) : if (!false) = true then A else B := iteT h
theorem ifNFF (h : B) : if (!true) = true then A else B := iteF h
theorem ifNN {b : Bool} (h : if b = true then A else B) : if (!!b) = true then A else B := by rw [Bool.not_not]; exact h
theorem ifb {b : Bool} (h1 : b = true → A) (h2 : b = false → B) : if b = true then A else B := by
  cases b with
  | true => exact iteT (h1 rfl)
  | false => exact iteF (h2 rfl)
theorem ifbT {b : Bool} (hb : b = true) (h : A) : if b = true then A else B := by rw [hb]; exact iteT h
theorem ifbF {b : Bool} (hb : b = false) (h : B) : if b = true then A else B := by rw [hb]; exact iteF h
theorem ifNbT {b : Bool} (hb : b = false) (h : A) : if (!b) = true then A else B := by rw [hb]; exact iteT h
theorem ifNbF {b : Bool} (hb : b = true) (h : B) : if (!b) = true then A else B := by rw [hb]; exact iteF h
-- statements
theorem seq (h : t { D with nx := u D } σ H) : tSeq t u D σ H := h
theorem ifS (h : ct σ H fun b H1 => if b = true then t D σ H1 else u D σ H1) : tIfS ct t u D σ H := h
theorem asg {g : TG} (h : te σ H fun x H1 => g x σ H1 D.nx) : tAsg te g D σ H := h
theorem gnm {n : Nat} {Q : L2.St → Hp → Prop} (h : Q (σ.set n (some v)) H) : gName n v σ H Q := h
theorem ret (h : te σ H D.rt) : tRet te D σ H := h
theorem retN (h : D.rt .non H) : tRetN D σ H := h
theorem drop (h : te σ H fun _ H1 => D.nx σ H1) : tDrop te D σ H := h
theorem nxt (h : D.nx σ H) : tNext D σ H := h
theorem brk (h : D.bk σ H) : tBreak D σ H := h
theorem cnt (h : D.ct σ H) : tCont D σ H := h
theorem aug {n : Nat} {ti : TIp} (hx : σ[n]? = some (some x)) (h : te σ H fun y H1 => ti x y H1 fun z H2 => D.nx (σ.set n (some z)) H2) : tAug n te ti D σ H := ⟨x, hx, h⟩
theorem ipi {f : Int → Int → Int} (q : Q (.int (f i j)) H) : ipI f (.int i) (.int j) H Q := ⟨i, j, rfl, rfl, q⟩
theorem par {n m : Nat} (h : al σ H fun vs H1 => ∃ v w, vs = [v, w] ∧ D.nx ((σ.set n (some v)).set m (some w)) H1) : tPar n m al D σ H := h
theorem par2 {N : V → V → Prop} {w : V} (h : N v w) : ∃ v' w', [v, w] = [v', w'] ∧ N v' w' := ⟨v, w, rfl, h⟩
/-- targets: a tuple to names -/
theorem gtup {n : Nat} {g : TGs} {Q : L2.St → Hp → Prop} (h : SqT K H a xs) (hn : xs.length = n) (q : g xs σ H Q) : gTup K n g (.ref a) σ H Q := ⟨a, xs, rfl, h, hn, q⟩
theorem gcons {g : TG} {gs : TGs} {Q : L2.St → Hp → Prop} (q : g v σ H fun σ' H' => gs xs σ' H' Q) : gCons g gs (v :: xs) σ H Q := ⟨v, xs, rfl, q⟩
theorem gnil {Q : L2.St → Hp → Prop} (q : Q σ H) : gNil [] σ H Q := ⟨rfl, q⟩
theorem gsub {te2 : TE} {ts : TSet} {Q : L2.St → Hp → Prop} (h : te σ H fun o H1 => te2 σ H1 fun i H2 => ts o i v H2 fun H3 => Q σ H3) : gSub te te2 ts v σ H Q := h
theorem setL {R : Hp → Prop} {n : Nat} (h : H l = some (.lst xs)) (hi : ixN xs.length i = some n) (q : R (upd H l (.lst (xs.set n v)))) : rSetL (.ref l) (.int i) v H R := ⟨l, xs, i, n, rfl, rfl, h, hi, q⟩
-- arguments
theorem nil (q : QA [] H) : tNil σ H QA := q
theorem cons (h : ta σ H fun x H1 => al σ H1 fun xs H2 => QA (x :: xs) H2) : tCons ta al σ H QA := h
theorem cb {r : List V → Hp → VK → Prop} (h : al σ H fun vs H1 => r vs H1 Q) : tCB r al σ H Q := h
theorem call {sp : Sp} {dvs : List V} {E : XK} (h : al σ H fun vs H1 => sp (vs ++ dvs) H1 Q E) : tCall sp dvs E al σ H Q := h
-- displays
def xTup (xs : List V) (H : Hp) (Q : VK) : Prop := xs.length ≤ sizeLine ∧ ∀ p, H p = none → Q (.ref p) (upd H p (.tup xs))
def xLst (xs : List V) (H : Hp) (Q : VK) : Prop := xs.length ≤ sizeLine ∧ ∀ p, H p = none → Q (.ref p) (upd H p (.lst xs))
theorem tup (h : al σ H fun xs H1 => xTup xs H1 Q) : tTup al σ H Q := h
theorem lst (h : al σ H fun xs H1 => xLst xs H1 Q) : tLst al σ H Q := h
theorem sz_le {n : Nat} (h : Nat.ble n 100000 = true) : n ≤ sizeLine := Dk.sz5 (Nat.le_of_ble_eq_true h)
theorem xtup (n : Nat.ble xs.length 100000 = true) (q : ∀ p H', H p = none → Ex H H' → H' p = some (.tup xs) → Q (.ref p) H') : xTup xs H Q := ⟨sz_le n, fun p hp => q p _ hp (Ex.new hp) upd_same⟩
theorem xlst (n : Nat.ble xs.length 100000 = true) (q : ∀ p H', H p = none → Ex H H' → H' p = some (.lst xs) → Q (.ref p) H') : xLst xs H Q := ⟨sz_le n, fun p hp => q p _ hp (Ex.new hp) upd_same⟩
theorem xlstU (n : Nat.ble xs.length 100000 = true) (q : ∀ p, H p = none → Q (.ref p) (upd H p (.lst xs))) : xLst xs H Q := ⟨sz_le n, q⟩
-- subscripts
theorem ixL (h : SqL K H l xs) (ha : atI xs i = some v) (q : Q v H) : rIxL K (.ref l) (.int i) H Q := ⟨l, xs, i, v, rfl, rfl, h, ha, q⟩
theorem ixT (h : SqT K H l xs) (ha : atI xs i = some v) (q : Q v H) : rIxT K (.ref l) (.int i) H Q := ⟨l, xs, i, v, rfl, rfl, h, ha, q⟩
-- fields
def rFld (K : PySem.W.Frag) (f : Str) (x : V) (H : Hp) (Q : VK) : Prop := ∃ a C dx fs v, x = .ref a ∧ H a = some (.ins C dx fs) ∧ Cls K C ∧ NoAttr K C f ∧ fs.lookup f = some v ∧ Q v H
theorem fld {f : Str} (h : ta σ H fun x H1 => rFld K f x H1 Q) : tFld K ta f σ H Q := h
theorem rfld {f : Str} (h : H a = some (.ins C dx fs)) (c : Cls K C) (n : NoAttr K C f) (lk : fs.lookup f = some v) (q : Q v H) : rFld K f (.ref a) H Q := ⟨a, C, dx, fs, v, rfl, h, c, n, lk, q⟩
def rSt (K : PySem.W.Frag) (f : Str) (v x : V) (H : Hp) (N : Hp → Prop) : Prop := ∃ a C dx fs, x = .ref a ∧ H a = some (.ins C dx fs) ∧ Cls K C ∧ NoAttr K C f ∧ fs.length < 1000 ∧ N (upd H a (.ins C dx (putF f v fs)))
-- methods
def xMeth (C : Addr) (m : Str) (x : V) (H : Hp) (P : Prop) : Prop := ∃ a dx fs, x = .ref a ∧ H a = some (.ins C dx fs) ∧ fs.lookup m = none ∧ P
theorem meth {m : Str} {sp : Sp} {dvs : List V} {E : XK} (h : ta σ H fun x H1 => xMeth C m x H1 (al σ H1 fun vs H2 => sp (x :: (vs ++ dvs)) H2 Q E)) : tMeth C m sp dvs E ta al σ H Q :=
  h
def xTy (K : PySem.W.Frag) (T : String) (x : V) (H : Hp) (P : Prop) : Prop := tyV K T x H ∧ P
theorem bm {T : String} {r : V → List V → Hp → VK → Prop} (h : te σ H fun x H1 => xTy K T x H1 (al σ H1 fun xs H2 => r x xs H2 Q)) : tBM K T r te al σ H Q := h
theorem bm0 {T : String} {r : V → List V → Hp → VK → Prop} (h : te σ H fun x H1 => xTy K T x H1 (r x [] H1 Q)) : tBM0 K T r te σ H Q := h
theorem xtyL {P : Prop} (h : SqL K H l xs) (p : P) : xTy K "list" (.ref l) H P := ⟨.inl ⟨rfl, _, h⟩, p⟩
theorem append (h : H l = some (.lst xs)) (n : xs.length < 100000) (q : Q .non (upd H l (.lst (xs ++ [v])))) : rAppend (.ref l) [v] H Q := ⟨l, xs, v, rfl, rfl, h, sz_lt n, q⟩
theorem reverse (h : H l = some (.lst xs)) (q : Q .non (upd H l (.lst xs.reverse))) : rReverse (.ref l) [] H Q := ⟨l, xs, rfl, rfl, h, q⟩
theorem pop (h : H l = some (.lst xs)) (hl : xs[xs.length - 1]? = some y) (q : Q y (upd H l (.lst xs.dropLast))) : rPop (.ref l) [] H Q := ⟨l, xs, y, rfl, rfl, h, hl, q⟩
end
end Rd
namespace Rd
open PySem PySem.Spec PyProof.Rows L2
section
variable {X : Cx}
def rLen (K : PySem.W.Frag) : List V → Hp → VK → Prop := fun xs H Q => ∃ p ys, xs = [.ref p] ∧ (SqL K H p ys ∨ SqT K H p ys) ∧ Q (.int ys.length) H
theorem c_len : CallR X (.builtin "len") (rLen X.K) := call_len_seq
def rLenStr : List V → Hp → VK → Prop := fun xs H Q => ∃ z, xs = [.str z] ∧ z.length ≤ sizeLine ∧ Q (.int z.length) H
theorem c_lenS : CallR X (.builtin "len") rLenStr := call_len_str
def rAbs : List V → Hp → VK → Prop := fun xs H Q => ∃ i, xs = [.int i] ∧ Q (.int (if i < 0 then -i else i)) H
theorem c_abs : CallR X (.builtin "abs") rAbs := call_abs
def rInt1 : List V → Hp → VK → Prop := fun xs H Q => (∃ i, xs = [.int i] ∧ Q (.int i) H) ∨ ∃ k, xs = [.bl k] ∧ Q (.int (if k then 1 else 0)) H
theorem c_int : CallR X (.type "int") rInt1 := call_int1
def rListOf (K : PySem.W.Frag) : List V → Hp → VK → Prop := fun xs H Q => ∃ p ys, xs = [.ref p] ∧ (SqL K H p ys ∨ SqT K H p ys) ∧ ∀ l, H l = none → Q (.ref l) (upd H l (.lst ys))
theorem c_list : CallR X (.type "list") (rListOf X.K) := call_list_of
def rMax2 : List V → Hp → VK → Prop := fun xs H Q => ∃ i j, xs = [.int i, .int j] ∧ Q (.int (if j > i then j else i)) H
theorem c_max2 (hc : X.calm = true) : CallR X (.builtin "max") rMax2 := call_max2 hc
def rMin2 : List V → Hp → VK → Prop := fun xs H Q => ∃ i j, xs = [.int i, .int j] ∧ Q (.int (if j < i then j else i)) H
theorem c_min2 (hc : X.calm = true) : CallR X (.builtin "min") rMin2 := call_min2 hc
end
end Rd
namespace Rd
open PySem PySem.Spec PyProof.Rows L2 Evl Dk
section
variable {σ : L2.St} {H : Hp} {Q : VK} {x : V} {K : PySem.W.Frag} {i j : Int} {xs : List V} {l : Addr}
theorem len (h : SqL K H l xs) (q : Q (.int xs.length) H) : Rd.rLen K [.ref l] H Q := ⟨l, xs, rfl, .inl h, q⟩
theorem lenT (h : SqT K H l xs) (q : Q (.int xs.length) H) : Rd.rLen K [.ref l] H Q := ⟨l, xs, rfl, .inr h, q⟩
theorem lenS {s : Str} (h : s.length ≤ 100000) (q : Q (.int s.length) H) : Rd.rLenStr [.str s] H Q := ⟨s, rfl, sz_of h, q⟩
theorem abs (q : Q (.int (if i < 0 then -i else i)) H)   : Rd.rAbs [.int i] H Q := ⟨i, rfl, q⟩
theorem int (q : Q (.int i) H) : Rd.rInt1 [.int i] H Q := .inl ⟨i, rfl, q⟩
theorem intB {k : Bool} (q : Q (.int (if k then 1 else 0)) H) : Rd.rInt1 [.bl k] H Q := .inr ⟨k, rfl, q⟩
theorem listOf (h : SqL K H l xs) (q : ∀ p H', H p = none → Ex H H' → H' p = some (.lst xs) → Q (.ref p) H') : Rd.rListOf K [.ref l] H Q := ⟨l, xs, rfl, .inl h, fun p hp => q p _ hp (Ex.new hp) upd_same⟩
theorem listOfU (h : SqL K H l xs) (q : ∀ p, H p = none → Q (.ref p) (upd H p (.lst xs))) : Rd.rListOf K [.ref l] H Q := ⟨l, xs, rfl, .inl h, q⟩
theorem max2 (q : Q (.int (if j > i then j else i)) H) : Rd.rMax2 [.int i, .int j] H Q := ⟨i, j, rfl, q⟩
theorem min2 (q : Q (.int (if j < i then j else i)) H) : Rd.rMin2 [.int i, .int j] H Q := ⟨i, j, rfl, q⟩
theorem take {m : Int} {E : XK} (h : H l = some (DkO l)) (hm : 0 < m) (q : ∀ k : Int, 0 ≤ k → k < m → Q (.int k) H) : spTake ([.ref l, .int m] ++ []) H Q E := ⟨l, m, rfl, h, hm, q⟩
end
end Rd
/-! ### data of any depth: what it is made of, and that it stays -/
namespace Dt
open PySem PySem.Spec PyProof.Rows L2 Evl
section
variable {K : PySem.W.Frag} {H H' : Hp} {v : V} {xs vs : List V} {d : PyData} {ds : List PyData} {a : Addr}
mutual
theorem mono (e : Ex H H') : ∀ (d : PyData) (v : V), Dp K H v d → Dp K H' v d
  | .none, _, h => by cases h; exact .non
  | .bool b, _, h => by cases h; exact .bl b
  | .int i, _, h => by cases h; exact .int i
  | .str x, _, h => by cases h; exact .str x
  | .list ds, _, h => by
    cases h with
    | lst hs ha => exact .lst (ex_l e hs) (monoAll e ds _ ha)
  | .tuple ds, _, h => by
    cases h with
    | tup hs ha => exact .tup (ex_t e hs) (monoAll e ds _ ha)
  | .dict _, _, h => by cases h
theorem monoAll (e : Ex H H') : ∀ (ds : List PyData) (vs : List V), DpAll K H vs ds → DpAll K H' vs ds
  | [], _, h => by cases h; exact .nil
  | d :: ds, _, h => by
    cases h with
    | cons h1 h2 => exact .cons (mono e d _ h1) (monoAll e ds _ h2)
end
theorem mn (h : Dp K H v d) (e : Ex H H') : Dp K H' v d := mono e d v h
theorem mnA (h : DpAll K H vs ds) (e : Ex H H') : DpAll K H' vs ds := monoAll e ds vs h
theorem inv_l (h : Dp K H v (.list ds)) : ∃ a xs, v = .ref a ∧ SqL K H a xs ∧ DpAll K H xs ds := by
  cases h with
  | lst hs ha => exact ⟨_, _, rfl, hs, ha⟩
theorem inv_t (h : Dp K H v (.tuple ds)) : ∃ a xs, v = .ref a ∧ SqT K H a xs ∧ DpAll K H xs ds := by
  cases h with
  | tup hs ha => exact ⟨_, _, rfl, hs, ha⟩
theorem inv_i {i : Int} (h : Dp K H v (.int i)) : v = .int i := by cases h; rfl
theorem inv_s {s : Str} (h : Dp K H v (.str s)) : v = .str s := by cases h; rfl
theorem inv_b {b : Bool} (h : Dp K H v (.bool b)) : v = .bl b := by cases h; rfl
theorem inv_n (h : Dp K H v .none) : v = .non := by cases h; rfl
theorem lenA : ∀ {vs : List V} {ds : List PyData}, DpAll K H vs ds → vs.length = ds.length
  | _, [], h => by cases h; rfl
  | _, d :: ds, h => by
    cases h with
    | cons _ h2 => simp [lenA h2]
theorem getA : ∀ {vs : List V} {ds : List PyData} {i : Nat} {v : V} {d : PyData}, DpAll K H vs ds → vs[i]? = some v → ds[i]? = some d → Dp K H v d
  | _, [], _, _, _, h, _, e => by simp at e
  | _, d :: ds, 0, _, _, h, e1, e2 => by
    cases h with
    | cons h1 _ =>
      simp at e1 e2
      rw [← e1, ← e2]
      exact h1
  | _, d :: ds, i + 1, _, _, h, e1, e2 => by
    cases h with
    | cons _ h2 => exact getA (i := i) h2 (by simpa using e1) (by simpa using e2)
theorem getA1 {i : Nat} (h : DpAll K H vs ds) (e : vs[i]? = some v) : ∃ d, ds[i]? = some d ∧ Dp K H v d := by
  have hl := lenA h
  have hi : i < vs.length := (List.getElem?_eq_some_iff.mp e).1
  exact ⟨ds[i]'(by omega), List.getElem?_eq_getElem (by omega), getA h e (List.getElem?_eq_getElem (by omega))⟩
theorem getA2 {i : Nat} (h : DpAll K H vs ds) (e : ds[i]? = some d) : ∃ v, vs[i]? = some v ∧ Dp K H v d := by
  have hl := lenA h
  have hi : i < ds.length := (List.getElem?_eq_some_iff.mp e).1
  exact ⟨vs[i]'(by omega), List.getElem?_eq_getElem (by omega), getA h (List.getElem?_eq_getElem (by omega)) e⟩
theorem consA (h : Dp K H v d) (hs : DpAll K H vs ds) : DpAll K H (v :: vs) (d :: ds) := .cons h hs
theorem appA : ∀ {vs ws : List V} {ds es : List PyData}, DpAll K H vs ds → DpAll K H ws es → DpAll K H (vs ++ ws) (ds ++ es)
  | _, _, [], _, h, g => by cases h; exact g
  | _, _, d :: ds, _, h, g => by
    cases h with
    | cons h1 h2 => exact .cons h1 (appA h2 g)
theorem oneA (h : Dp K H v d) : DpAll K H [v] [d] := .cons h .nil
theorem snocA (hs : DpAll K H vs ds) (h : Dp K H v d) : DpAll K H (vs ++ [v]) (ds ++ [d]) := appA hs (oneA h)
theorem takeA : ∀ {vs : List V} {ds : List PyData} (n : Nat), DpAll K H vs ds → DpAll K H (vs.take n) (ds.take n)
  | _, _, 0, _ => .nil
  | _, [], n + 1, h => by cases h; exact .nil
  | _, d :: ds, n + 1, h => by
    cases h with
    | cons h1 h2 => exact .cons h1 (takeA n h2)
theorem intsA : ∀ (ns : List Int), DpAll K H (ns.map V.int) (ns.map PyData.int)
  | [] => .nil
  | n :: ns => .cons (.int n) (intsA ns)
theorem strsA : ∀ (ns : List Str), DpAll K H (ns.map V.str) (ns.map PyData.str)
  | [] => .nil
  | n :: ns => .cons (.str n) (strsA ns)
/-- list and tuple made -/
theorem ofL (h : H a = some (.lst vs)) (hs : DpAll K H vs ds) : Dp K H (.ref a) (.list ds) := .lst (SqL.of h) hs
theorem ofT (h : H a = some (.tup vs)) (hs : DpAll K H vs ds) : Dp K H (.ref a) (.tuple ds) := .tup (SqT.of h) hs
end
end Dt
namespace Rd
open PySem PySem.Spec PyProof.Rows L2 Evl Dk
section
variable {σ σ' : L2.St} {H H' : Hp} {Q : VK} {v x y z : V} {te : TE} {K : PySem.W.Frag} {i j lo n : Int} {D : Ends} {tb : TS} {al : TA} {xs ys : List V} {a l C dx : Addr} {d e : PyData} {g : TG}
theorem eqD (h1 : Dp K H x d) (h2 : Dp K H y e) (s1 : SeqAt.shaped d = true) (s2 : SeqAt.shaped e = true) (q : Q (.bl (PyData.eqv d e)) H) : rEqD K x y H Q := ⟨d, e, h1, h2, s1, s2, q⟩
theorem neD (h1 : Dp K H x d) (h2 : Dp K H y e) (s1 : SeqAt.shaped d = true) (s2 : SeqAt.shaped e = true) (q : Q (.bl (!PyData.eqv d e)) H) : rNeD K x y H Q := ⟨d, e, h1, h2, s1, s2, q⟩
theorem eqvRefl (s : SeqAt.shaped d = true) : PyData.eqv d d = true := SeqAt.eqv_refl d (SeqAt.canLay_of_shaped s)
theorem eqDr (h1 : Dp K H x d) (h2 : Dp K H y d) (s1 : SeqAt.shaped d = true) (q : Q (.bl true) H) : rEqD K x y H Q := ⟨d, d, h1, h2, s1, s1, by rw [eqvRefl s1]; exact q⟩
theorem neDr (h1 : Dp K H x d) (h2 : Dp K H y d) (s1 : SeqAt.shaped d = true) (q : Q (.bl false) H) : rNeD K x y H Q := ⟨d, d, h1, h2, s1, s1, by rw [eqvRefl s1]; exact q⟩
/-! isinstance -/
theorem isiTy {t T : String} {b : Bool} (h : TyOf K H x (.type t)) (k : kitB t T = some b) (q : Q (.bl b) H) : rIsi K [x, .ty T] H Q := ⟨x, .ty T, .type t, .type T, b, rfl, .ty T, .base h, kit_ty k, q⟩
theorem isiInt {T : String} {b : Bool} (k : kitB "int" T = some b) (q : Q (.bl b) H) : rIsi K [.int i, .ty T] H Q := isiTy (.int i) k q
theorem isiBl {T : String} {b c : Bool} (k : kitB "bool" T = some b) (q : Q (.bl b) H) : rIsi K [.bl c, .ty T] H Q := isiTy (.bl c) k q
theorem isiStr {T : String} {b : Bool} {s : Str} (k : kitB "str" T = some b) (q : Q (.bl b) H) : rIsi K [.str s, .ty T] H Q := isiTy (.str s) k q
theorem isiNon {T : String} {b : Bool} (k : kitB "NoneType" T = some b) (q : Q (.bl b) H) : rIsi K [.non, .ty T] H Q := isiTy .non k q
theorem isiLst {T : String} {b : Bool} (h : H a = some (.lst xs)) (k : kitB "list" T = some b) (q : Q (.bl b) H) : rIsi K [.ref a, .ty T] H Q := isiTy (.lst h) k q
theorem isiTup {T : String} {b : Bool} (h : H a = some (.tup xs)) (k : kitB "tuple" T = some b) (q : Q (.bl b) H) : rIsi K [.ref a, .ty T] H Q := isiTy (.tup h) k q
/-! loops -/
def xFR1 (g : TG) (tb : TS) (D : Ends) (σ : L2.St) (vs : List V) (H1 : Hp) : Prop := ∃ j : Int, vs = [.int j] ∧ -(2 ^ 62) ≤ j ∧ j < 2 ^ 62 ∧ ∃ W : Nat → Nat → L2.St → Hp → Prop, (∃ m, W 0 m σ H1) ∧ ∀ i m σ H, W i m σ H →
      ((Itr 0 j.toNat).stop i H ∧ D.nx σ H) ∨ ((Itr 0 j.toNat).go i H ∧ ∃ N : L2.St → Hp → Prop, (∀ σ' H', N σ' H' → ∃ m', m' < m ∧ W (i + 1) m' σ' H') ∧ ∀ x H', (Itr 0 j.toNat).yld i H x H' → g x σ H' fun σ2 H2 => tb { D with nx := N, ct := N, bk := D.nx } σ2 H2)
theorem forR1 (h : al σ H fun vs H1 => xFR1 g tb D σ vs H1) : tFor (iRng1 al) g tb D σ H := h
theorem xfr1 {k : Nat} (hb : -(2 ^ 62) ≤ n ∧ n < 2 ^ 62) (Pv : Nat → L2.St → Hp → Prop) (h0 : Pv 0 σ H)
    (hs : ∀ (i : Nat) σ' H', (i : Int) < n → Pv i σ' H' → tb { D with nx := Pv (i + 1), ct := Pv (i + 1), bk := D.nx } (σ'.set k (some (.int (i : Int)))) H') (hd : ∀ σ' H', Pv n.toNat σ' H' → D.nx σ' H') : xFR1 (gName k) tb D σ [.int n] H :=
  ⟨n, rfl, hb.1, hb.2, for_range (lo := 0) (n := n.toNat) Pv h0 (fun i σ' H' hi p => by
    have e0 : (0 : Int) + (i : Int) = (i : Int) := Int.zero_add _
    show tb { D with nx := Pv (i + 1), ct := Pv (i + 1), bk := D.nx } (σ'.set k (some (.int ((0 : Int) + (i : Int))))) H'
    rw [e0]
    exact hs i σ' H' (by omega) p) hd⟩
def xFR2 (g : TG) (tb : TS) (D : Ends) (σ : L2.St) (vs : List V) (H1 : Hp) : Prop := ∃ i0 j : Int, vs = [.int i0, .int j] ∧ (-(2 ^ 62) ≤ i0 ∧ i0 < 2 ^ 62 ∧ -(2 ^ 62) ≤ j ∧ j < 2 ^ 62) ∧ ∃ W : Nat → Nat → L2.St → Hp → Prop, (∃ m, W 0 m σ H1) ∧ ∀ i m σ H, W i m σ H →
      ((Itr i0 (j - i0).toNat).stop i H ∧ D.nx σ H) ∨ ((Itr i0 (j - i0).toNat).go i H ∧ ∃ N : L2.St → Hp → Prop, (∀ σ' H', N σ' H' → ∃ m', m' < m ∧ W (i + 1) m' σ' H') ∧ ∀ x H', (Itr i0 (j - i0).toNat).yld i H x H' → g x σ H' fun σ2 H2 => tb { D with nx := N, ct := N, bk := D.nx } σ2 H2)
theorem forR2 (h : al σ H fun vs H1 => xFR2 g tb D σ vs H1) : tFor (iRng2 al) g tb D σ H := h
theorem xfr2 {k : Nat} (hb : -(2 ^ 62) ≤ lo ∧ lo < 2 ^ 62 ∧ -(2 ^ 62) ≤ n ∧ n < 2 ^ 62) (Pv : Nat → L2.St → Hp → Prop) (h0 : Pv 0 σ H)
    (hs : ∀ (i : Nat) σ' H', lo + (i : Int) < n → Pv i σ' H' → tb { D with nx := Pv (i + 1), ct := Pv (i + 1), bk := D.nx } (σ'.set k (some (.int (lo + (i : Int))))) H') (hd : ∀ σ' H', Pv (n - lo).toNat σ' H' → D.nx σ' H') : xFR2 (gName k) tb D σ [.int lo, .int n] H :=
  ⟨lo, n, rfl, hb, for_range (lo := lo) (n := (n - lo).toNat) Pv h0 (fun i σ' H' hi p => hs i σ' H' (by omega) p) hd⟩
def xFL (K : PySem.W.Frag) (g : TG) (tb : TS) (D : Ends) (σ : L2.St) (x : V) (H1 : Hp) : Prop := ∃ a, x = .ref a ∧ (∃ xs, SqL K H1 a xs) ∧ ∃ W : Nat → Nat → L2.St → Hp → Prop, (∃ m, W 0 m σ H1) ∧ ∀ i m σ H, W i m σ H →
      ((Itl K a).stop i H ∧ D.nx σ H) ∨ ((Itl K a).go i H ∧ ∃ N : L2.St → Hp → Prop, (∀ σ' H', N σ' H' → ∃ m', m' < m ∧ W (i + 1) m' σ' H') ∧ ∀ x H', (Itl K a).yld i H x H' → g x σ H' fun σ2 H2 => tb { D with nx := N, ct := N, bk := D.nx } σ2 H2)
theorem forL (h : te σ H fun x H1 => xFL K g tb D σ x H1) : tFor (iList K te) g tb D σ H := h
theorem xfl (hx : SqL K H a xs) (Pv : Nat → L2.St → Hp → Prop) (h0 : Pv 0 σ H) (hl : ∀ i σ' H', i ≤ xs.length → Pv i σ' H' → SqL K H' a xs)
    (hs : ∀ i x σ' H', xs[i]? = some x → Pv i σ' H' → g x σ' H' fun σ2 H2 => tb { D with nx := Pv (i + 1), ct := Pv (i + 1), bk := D.nx } σ2 H2) (hd : ∀ σ' H', Pv xs.length σ' H' → D.nx σ' H') : xFL K g tb D σ (.ref a) H :=
  ⟨a, rfl, ⟨xs, hx⟩, for_list Pv h0 hl hs hd⟩
def xFT (K : PySem.W.Frag) (g : TG) (tb : TS) (D : Ends) (σ : L2.St) (x : V) (H1 : Hp) : Prop := ∃ a, x = .ref a ∧ (∃ xs, SqT K H1 a xs) ∧ ∃ W : Nat → Nat → L2.St → Hp → Prop, (∃ m, W 0 m σ H1) ∧ ∀ i m σ H, W i m σ H →
      ((Itt K a).stop i H ∧ D.nx σ H) ∨ ((Itt K a).go i H ∧ ∃ N : L2.St → Hp → Prop, (∀ σ' H', N σ' H' → ∃ m', m' < m ∧ W (i + 1) m' σ' H') ∧ ∀ x H', (Itt K a).yld i H x H' → g x σ H' fun σ2 H2 => tb { D with nx := N, ct := N, bk := D.nx } σ2 H2)
theorem forT (h : te σ H fun x H1 => xFT K g tb D σ x H1) : tFor (iTup K te) g tb D σ H := h
theorem xft (hx : SqT K H a xs) (Pv : Nat → L2.St → Hp → Prop) (h0 : Pv 0 σ H) (hl : ∀ i σ' H', i ≤ xs.length → Pv i σ' H' → SqT K H' a xs)
    (hs : ∀ i x σ' H', xs[i]? = some x → Pv i σ' H' → g x σ' H' fun σ2 H2 => tb { D with nx := Pv (i + 1), ct := Pv (i + 1), bk := D.nx } σ2 H2) (hd : ∀ σ' H', Pv xs.length σ' H' → D.nx σ' H') : xFT K g tb D σ (.ref a) H :=
  ⟨a, rfl, ⟨xs, hx⟩, for_tup Pv h0 hl hs hd⟩
/-- powers of written numbers -/
theorem pw {m : Int} (c : CPow i j) (h : i ^ j.toNat = m) (q : Q (.int m) H) : rI CPow (fun i j => .int (i ^ j.toNat)) (.int i) (.int j) H Q := i1 c (by rw [h]; exact q)
theorem atI_i {α : Type} {xs : List α} {i : Int} {v : α} (h0 : 0 ≤ i) (h : xs[i.toNat]? = some v) : atI xs i = some v := by
  have e : ((i.toNat : Nat) : Int) = i := Int.toNat_of_nonneg h0
  rw [← e]
  exact atI_nat h
end
end Rd
namespace Rd
open PySem PySem.Spec PyProof.Rows L2 Evl Dk
section
variable {σ : L2.St} {H : Hp} {v x : V} {K : PySem.W.Frag} {D : Ends} {ta te : TE} {a C dx : Addr} {fs : List (Str × V)} {f : Str}
def xSt (K : PySem.W.Frag) (f : Str) (y x : V) (H2 : Hp) (N : Hp → Prop) : Prop := ∃ a C dx fs, x = .ref a ∧ H2 a = some (.ins C dx fs) ∧ Cls K C ∧ NoAttr K C f ∧ fs.length < 1000 ∧ N (upd H2 a (.ins C dx (putF f y fs)))
theorem sfld (h : te σ H fun y H1 => ta σ H1 fun x H2 => xSt K f y x H2 fun H3 => D.nx σ H3) : sFld K ta te f D σ H := h
theorem xst {N : Hp → Prop} (h : H a = some (.ins C dx fs)) (c : Cls K C) (n : NoAttr K C f) (l : Nat.blt fs.length 1000 = true) (q : N (upd H a (.ins C dx (putF f v fs)))) : xSt K f v (.ref a) H N := ⟨a, C, dx, fs, rfl, h, c, n, Nat.le_of_ble_eq_true l, q⟩
def xMk (C : Addr) (sp : V → Hp → VK → Prop) (H : Hp) (Q : VK) : Prop := ∀ x dx, H x = none → H dx = none → dx ≠ x → sp (.ref x) (upd (upd H dx (.own x)) x (.ins C dx [])) (fun v H2 => v = .non ∧ Q (.ref x) H2)
theorem make {C : Addr} {sp : Sp} {dvs : List V} {E : XK} {al : TA} {Q : VK} (h : al σ H fun vs H1 => xMk C (fun x H2 Q2 => sp (x :: (vs ++ dvs)) H2 Q2 E) H1 Q) : tMake C sp dvs E al σ H Q := h
/-- a new instance, told by one fact -/
theorem xmk {C : Addr} {sp : V → Hp → VK → Prop} {H : Hp} {Q : VK} (h : ∀ x dx H', Ex H H' → H x = none → H' x = some (.ins C dx []) → sp (.ref x) H' (fun v H2 => v = .non ∧ Q (.ref x) H2)) : xMk C sp H Q := fun x dx nx nd ne =>
  h x dx _ (fun b o e => by rw [upd_ne (ne_of_none e nx), upd_ne (ne_of_none e nd)]; exact e) nx upd_same
theorem xmeth {m : Str} {P : Prop} (h : H a = some (.ins C dx fs)) (l : fs.lookup m = none) (p : P) : xMeth C m (.ref a) H P := ⟨a, dx, fs, rfl, h, l, p⟩
end
end Rd
namespace Dt
open PySem PySem.Spec PyProof.Rows L2 Evl
/-- no list within -/
def noL : PyData → Bool
  | .list _ => false
  | .tuple ds => ds.attach.all fun ⟨d, _⟩ => noL d
  | _ => true
section
variable {K : PySem.W.Frag} {H : Hp} {l : Addr} {ws : List V} {o : HO}
theorem sqt_upd {a : Addr} {xs : List V} (h : H l = some (.lst ws)) (s : SqT K H a xs) : SqT K (upd H l o) a xs := by
  rcases s with (s | ⟨ob, s⟩) | s
  · refine .inl (.inl ?_)
    rw [upd_ne (fun z => by subst z; rw [h] at s; cases s)]; exact s
  · refine .inl (.inr ⟨ob, ?_⟩)
    rw [upd_ne (fun z => by subst z; rw [h] at s; cases s)]; exact s
  · exact .inr s
mutual
theorem updL (h : H l = some (.lst ws)) : ∀ (d : PyData) (v : V), noL d = true → Dp K H v d → Dp K (upd H l o) v d
  | .none, _, _, h1 => by cases h1; exact .non
  | .bool b, _, _, h1 => by cases h1; exact .bl b
  | .int i, _, _, h1 => by cases h1; exact .int i
  | .str x, _, _, h1 => by cases h1; exact .str x
  | .list _, _, n, _ => by simp [noL] at n
  | .tuple ds, _, n, h1 => by
    cases h1 with
    | tup hs ha => exact .tup (sqt_upd h hs) (updLA h ds _ (by simpa [noL] using n) ha)
  | .dict _, _, _, h1 => by cases h1
theorem updLA (h : H l = some (.lst ws)) : ∀ (ds : List PyData) (vs : List V), (∀ d ∈ ds, noL d = true) → DpAll K H vs ds → DpAll K (upd H l o) vs ds
  | [], _, _, h1 => by cases h1; exact .nil
  | d :: ds, _, n, h1 => by
    cases h1 with
    | cons h2 h3 => exact .cons (updL h d _ (n d List.mem_cons_self) h2) (updLA h ds _ (fun d hd => n d (List.mem_cons_of_mem _ hd)) h3)
end
end
end Dt
namespace Rd
open PySem PySem.Spec PyProof.Rows L2 Evl Dk
/-- only x has changed, which was not there -/
theorem exBut {H H2 H' : Hp} {x : Addr} (e : Ex H H2) (n : H x = none) (s : ∀ b o, b ≠ x → H2 b = some o → H' b = some o) : Ex H H' := fun b o h => s b o (ne_of_none h n) (e b o h)
end Rd
namespace Rd
open PySem PySem.Spec PyProof.Rows L2 Evl Dk
section
variable {σ : L2.St} {H : Hp} {Q : VK} {te : TE} {xs : List V} {v : V} {b : Bool} {t : TT} {QB : Bool → Hp → Prop} {K : PySem.W.Frag} {l : Addr} {a C dx : Addr} {fs : List (Str × V)}
theorem evL (h : EvL te σ H xs) (q : ∀ p H', H p = none → Ex H H' → H' p = some (.lst xs) → Q (.ref p) H') : te σ H Q := h H (Ex.refl H) Q q
theorem evV (h : Ev te σ H v) (q : ∀ H', Ex H H' → Q v H') : te σ H Q := h H (Ex.refl H) Q q
theorem evYes : EvT tYes σ H true := fun H1 _ _ q => q H1 (Ex.refl H1)
theorem given_all (n : Nat) (v : Nat → V) : given n (fun _ => true) v = (List.range n).map v := by
  unfold given
  rw [List.filter_eq_self.mpr (fun _ _ => rfl)]
theorem isiOwn {b : Bool} {D : Addr} (h : H a = some (.ins C dx fs)) (cl : Cls K C) (ha : PySem.W.findIn K (.ref C) "__class__" = some (some (.builtin "object.__class__"))) (hn : PySem.W.specialIn K (.builtin "object.__class__") "__get__" = some (some (.builtin "getset_descriptor.__get__")))
    (htk : PySem.W.takesIn K (.builtin "object.__class__") = some true) (hm : PySem.W.mroIn K C (.type "object") = some true) (k : PySem.W.kitOne K (.ref C) (.ref D) = some b) (q : Q (.bl b) H) : rIsi K [.ref a, .ref D] H Q :=
  ⟨.ref a, .ref D, .ref C, .ref D, b, rfl, .own D, .base (.ins h cl ha hn htk hm), k, q⟩
theorem cat {zs : List V} {c : Addr} (h1 : H l = some (.lst xs)) (h2 : H c = some (.lst zs)) (n : xs.length + zs.length ≤ 100000) (q : ∀ p H', H p = none → Ex H H' → H' p = some (.lst (xs ++ zs)) → Q (.ref p) H') : rCat (.ref l) (.ref c) H Q :=
  ⟨l, c, xs, zs, rfl, rfl, h1, h2, sz_of n, fun p hp => q p _ hp (Ex.new hp) upd_same⟩
theorem lstRg {a b : Int} (h : -100000 ≤ a ∧ a ≤ 100000 ∧ -100000 ≤ b ∧ b ≤ 100000) (q : ∀ p H', H p = none → Ex H H' → H' p = some (.lst (rgV a b)) → Q (.ref p) H') : RgOk a b ∧ ∀ q, H q = none → Q (.ref q) (upd H q (.lst (rgV a b))) :=
  ⟨⟨by omega, by omega, by omega, by omega, by omega⟩, fun p hp => q p _ hp (Ex.new hp) upd_same⟩
theorem pw20 {m : Int} (e : (10 : Int) ^ (20 : Int).toNat = m) (q : Q (.int m) H) : rI CPow (fun i j => .int (i ^ j.toNat)) (.int 10) (.int 20) H Q := pw ⟨by decide, by decide, by decide⟩ e q
end
end Rd
namespace Rd
open PySem PySem.Spec PyProof.Rows L2 Evl Dk
def rCatS : R2 := fun x y H Q => ∃ i j, x = .str i ∧ y = .str j ∧ i.length + j.length ≤ sizeLine ∧ Q (.str (i ++ j)) H
theorem op_addS {X : Cx} : OpR X (binaryOp .Add) rCatS := op_add_str
theorem catS {H : Hp} {Q : VK} {i j : Str} (h : i.length + j.length ≤ 100000) (q : Q (.str (i ++ j)) H) : rCatS (.str i) (.str j) H Q := ⟨i, j, rfl, rfl, sz_of h, q⟩
end Rd
namespace Rd
open PySem PySem.Spec PyProof.Rows L2 Evl Dk
section
variable {σ : L2.St} {H : Hp} {Q : VK} {te tf : TE} {x y : V} {n m : Int}
def xR1 (x : V) (H1 : Hp) (Q : VK) : Prop := ∃ n, x = .int n ∧ (RgOk 0 n ∧ ∀ q, H1 q = none → Q (.ref q) (upd H1 q (.lst (rgV 0 n))))
theorem listRg1 (h : te σ H fun x H1 => xR1 x H1 Q) : tLstRg (tRg1 te) σ H Q := h
theorem xr1 (h : -100000 ≤ n ∧ n ≤ 100000) (q : ∀ p H', H p = none → Ex H H' → H' p = some (.lst (rgV 0 n)) → Q (.ref p) H') : xR1 (.int n) H Q := ⟨n, rfl, lstRg ⟨by omega, by omega, h.1, h.2⟩ q⟩
end
end Rd
namespace Rd
open PySem PySem.Spec PyProof.Rows L2 Evl Dk
section
variable {σ : L2.St} {H : Hp} {Q : VK} {te tf : TE} {x y : V} {n m : Int} {l : Addr} {xs : List V}
def xR2 (x y : V) (H1 : Hp) (Q : VK) : Prop := ∃ i j, x = .int i ∧ y = .int j ∧ (RgOk i j ∧ ∀ q, H1 q = none → Q (.ref q) (upd H1 q (.lst (rgV i j))))
theorem listRg2 (h : te σ H fun x H1 => tf σ H1 fun y H2 => xR2 x y H2 Q) : tLstRg (tRg2 te tf) σ H Q := h
theorem xr2 (h : -100000 ≤ n ∧ n ≤ 100000 ∧ -100000 ≤ m ∧ m ≤ 100000) (q : ∀ p H', H p = none → Ex H H' → H' p = some (.lst (rgV n m)) → Q (.ref p) H') : xR2 (.int n) (.int m) H Q := ⟨n, m, rfl, rfl, lstRg h q⟩
theorem eqB {a b : Bool} (q : Q (.bl (decide (a = b))) H) : rEq (.bl a) (.bl b) H Q := ⟨rfl, by rw [dB]; exact q⟩
theorem neB {a b : Bool} (q : Q (.bl (!decide (a = b))) H) : rNe (.bl a) (.bl b) H Q := ⟨rfl, by rw [dB]; exact q⟩
def rInsert : V → List V → Hp → VK → Prop := fun x vs H Q => ∃ (l : Addr) (xs : List V) (i : Int) (y : V), x = .ref l ∧ vs = [.int i, y] ∧ H l = some (.lst xs) ∧ xs.length < sizeLine ∧ 0 ≤ i ∧ i < 2 ^ 63 ∧ Q .non (upd H l (.lst (xs.take i.toNat ++ [y] ++ xs.drop i.toNat)))
theorem mt_ins {X : Cx} : MtR X "list.insert" rInsert := mt_insert
theorem insert {i : Int} {y : V} (h : H l = some (.lst xs)) (hz : xs.length < 100000) (h0 : 0 ≤ i ∧ i ≤ 100000) (q : Q .non (upd H l (.lst (xs.take i.toNat ++ [y] ++ xs.drop i.toNat)))) : rInsert (.ref l) [.int i, y] H Q :=
  ⟨l, xs, i, y, rfl, rfl, h, sz_lt hz, h0.1, by omega, q⟩
theorem rgV_get {a b : Int} {i : Nat} {y : V} (h : (rgV a b)[i]? = some y) : y = .int (a + i) ∧ (i : Int) < b - a := by
  unfold rgV at h
  rw [List.getElem?_map] at h
  by_cases hi : i < (b - a).toNat
  · rw [List.getElem?_range hi] at h
    exact ⟨(Option.some.inj h).symm, by omega⟩
  · rw [List.getElem?_eq_none (by rw [List.length_range]; omega)] at h; cases h
end
end Rd
namespace Rd
open PySem PySem.Spec PyProof.Rows L2 Evl Dk
section
variable {σ : L2.St} {H : Hp} {Q : VK} {te tl : TE} {al : TA} {x y : V} {n m : Int} {l : Addr} {xs : List V} {g : TG} {tt : TT} {vs : List Nat} {K : PySem.W.Frag} {j : Nat}
def xLcR (g : TG) (tt : TT) (te : TE) (vs : List Nat) (σ : L2.St) (ws : List V) (H : Hp) (Q : VK) : Prop := tLc (iRng1 (fun _ H Q => Q ws H)) g tt te vs σ H Q
theorem lcR1 (h : al σ H fun ws H1 => xLcR g tt te vs σ ws H1 Q) : tLc (iRng1 al) g tt te vs σ H Q := h
theorem xlcR (f : Nat → Bool) (v : Nat → V) (hn : 0 ≤ n ∧ n ≤ 40000) (hw : ∀ x, wipe ((wipe σ vs).set j (some x)) vs = wipe σ vs)
    (ht : ∀ (i : Nat) H1, Ex H H1 → (i : Int) < n → EvT tt ((wipe σ vs).set j (some (.int (i : Int)))) H1 (f i)) (he : ∀ (i : Nat) H1, Ex H H1 → (i : Int) < n → f i = true → Ev te ((wipe σ vs).set j (some (.int (i : Int)))) H1 (v i))
    (q : ∀ p H', H p = none → Ex H H' → H' p = some (.lst (given n.toNat f v)) → Q (.ref p) H') : xLcR (gName j) tt te vs σ [.int n] H Q :=
  evL (el_lcR1 f v (fun H1 _ Q q => q H1 (Ex.refl H1)) hn hw ht he) q
def xLcL (K : PySem.W.Frag) (g : TG) (tt : TT) (te : TE) (vs : List Nat) (σ : L2.St) (x : V) (H : Hp) (Q : VK) : Prop := tLc (iList K (fun _ H Q => Q x H)) g tt te vs σ H Q
theorem lcL (h : tl σ H fun x H1 => xLcL K g tt te vs σ x H1 Q) : tLc (iList K tl) g tt te vs σ H Q := h
theorem xlcL (f : Nat → Bool) (v : Nat → V) (hx : SqL K H l xs) (hz : xs.length ≤ 40000) (hw : ∀ x, wipe ((wipe σ vs).set j (some x)) vs = wipe σ vs)
    (ht : ∀ (i : Nat) (x : V) H1, Ex H H1 → xs[i]? = some x → EvT tt ((wipe σ vs).set j (some x)) H1 (f i)) (he : ∀ (i : Nat) (x : V) H1, Ex H H1 → xs[i]? = some x → f i = true → Ev te ((wipe σ vs).set j (some x)) H1 (v i))
    (q : ∀ p H', H p = none → Ex H H' → H' p = some (.lst (given xs.length f v)) → Q (.ref p) H') : xLcL K (gName j) tt te vs σ (.ref l) H Q :=
  evL (el_lcL (a := l) f v (fun H1 _ Q q => q H1 (Ex.refl H1)) hx hz hw ht he) q
end
end Rd
namespace Rd
open PySem PySem.Spec PyProof.Rows L2 Evl Dk
section
variable {σ : L2.St} {H G H' H2 : Hp} {Q : VK} {te tl : TE} {al : TA} {x y : V} {n m : Int} {l p : Addr} {xs : List V} {tt : TT} {vs : List Nat} {K : PySem.W.Frag} {j : Nat} {o : HO}
/-- a tuple of the written part -/
theorem sqtK {k : Addr} {dd : Option Addr} {its : Array Value} {nn : Nat} {sl : Array (Option Value)} (h : K.lookup k = some ⟨.type "tuple", dd, .seq its nn, sl⟩) (v : Vals xs its.toList) (hz : xs.length ≤ 1000) : SqT K H k xs :=
  .inr ⟨_, its, nn, h, rfl, rfl, Nat.le_trans (Nat.le_of_eq (by simpa using v.length.symm)) (Nat.le_trans hz (by decide : 1000 ≤ sizeLine)), v⟩
/-- a part of the heap grows by a new object -/
theorem grow1 (e : Ex G H') (n : H' p = none) : Ex G (upd G p o) := Ex.new (fresh_back e n)
theorem grow2 (e : Ex G H') (e2 : Ex H' H2) (h : H2 p = some o) : Ex (upd G p o) H2 := fun a u ha => by
  by_cases hap : a = p
  · subst hap; rw [upd_same] at ha; rw [h]; exact ha
  · rw [upd_ne hap] at ha; exact e2 _ _ (e _ _ ha)
theorem grow3 {D : Addr} {u : HO} (g : G D = none) (n : H' p = none) (h : H' D = some u) : (upd G p o) D = none := by
  rw [upd_ne (ne_of_none h n)]; exact g
/-- a comprehension over a list; its items are data, made of what stood ahead of it and of what each turn makes -/
def Lw (K : PySem.W.Frag) (H : Hp) (R : Nat → PyData → Prop) (D : Addr) (i : Nat) (H' : Hp) : Prop := H D = none ∧ ∃ (G : Hp) (ys : List V) (ds : List PyData), Ex H G ∧ Ex G H' ∧ G D = none ∧ H' D = some (.lst ys) ∧ DpAll K G ys ds ∧ ds.length = i ∧ ∀ k d, ds[k]? = some d → R k d
theorem lw_turn {R : Nat → PyData → Prop} {D : Addr} {i : Nat} {σ2 : L2.St} (hi : i < 50000) (pw : Lw K H R D i H')
    (he : ∀ (G : Hp) (acc : List V), Ex H G → Ex G H' → G D = none → H' D = some (.lst acc) → ∀ Q' : VK, (∀ y H2 G2 d, Ex G G2 → Ex G2 H2 → G2 D = none → Ex H' H2 → Dp K G2 y d → R i d → Q' y H2) → te σ2 H' Q') :
    te σ2 H' fun y H4 => ∃ acc, H4 D = some (.lst acc) ∧ acc.length < sizeLine ∧ Lw K H R D (i + 1) (upd H4 D (.lst (acc ++ [y]))) := by
  obtain ⟨hD, G, ys, ds, e1, e2, g, hys, hd, hl, hR⟩ := pw
  refine he G ys e1 e2 g hys _ fun y H2 G2 d a1 a2 a3 a4 a5 a6 => ⟨ys, a4 _ _ hys, sz_lt (by rw [Dt.lenA hd]; omega), hD, G2, ys ++ [y], ds ++ [d], e1.trans a1, Ex.mut a2 a3, a3, upd_same, Dt.snocA (Dt.mnA hd a1) a5, by rw [List.length_append, hl]; rfl, fun k d' hk => ?_⟩
  by_cases hki : k < ds.length
  · rw [List.getElem?_append_left hki] at hk; exact hR k d' hk
  · rw [List.getElem?_append_right (by omega)] at hk
    have hk0 : k - ds.length = 0 := by
      cases e : k - ds.length with
      | zero => rfl
      | succ m => rw [e] at hk; cases hk
    rw [hk0] at hk
    have hd' : d = d' := Option.some.inj hk
    rw [← hd', show k = i from by omega]
    exact a6
theorem xlcG (R : Nat → PyData → Prop) (hx : SqL K H l xs) (hz : xs.length ≤ 40000) (hw : ∀ x, wipe ((wipe σ vs).set j (some x)) vs = wipe σ vs)
    (he : ∀ (i : Nat) (x : V) (D : Addr) (G H' : Hp) (acc : List V), xs[i]? = some x → H D = none → Ex H G → Ex G H' → G D = none → H' D = some (.lst acc) →
      ∀ Q' : VK, (∀ y H2 G2 d, Ex G G2 → Ex G2 H2 → G2 D = none → Ex H' H2 → Dp K G2 y d → R i d → Q' y H2) → te ((wipe σ vs).set j (some x)) H' Q')
    (q : ∀ p G' H' ys ds, H p = none → Ex H G' → Ex G' H' → G' p = none → H' p = some (.lst ys) → DpAll K G' ys ds → ds.length = xs.length → (∀ i d, ds[i]? = some d → R i d) → Q (.ref p) H') : xLcL K (gName j) tYes te vs σ (.ref l) H Q :=
  ⟨l, rfl, ⟨xs, hx⟩, fun D hD => lc_list (xs := xs) (Lw K H R D) ⟨hD, H, [], [], Ex.refl H, Ex.new hD, hD, upd_same, .nil, rfl, fun _ _ h => nomatch h⟩
    (fun i H' _ ⟨_, G, _, _, e1, e2, _⟩ => ex_l (e1.trans e2) hx)
    (fun i x H' hi p => ⟨hw x, iteT (B := Lw K H R D (i + 1) H') (lw_turn (by have := (List.getElem?_eq_some_iff.mp hi).1; omega) p fun G acc a1 a2 a3 a4 => he i x D G H' acc hi hD a1 a2 a3 a4)⟩)
    (fun H' ⟨_, G, ys, ds, e1, e2, g, hys, hd, hl, hR⟩ => q D G H' ys ds hD e1 e2 g hys hd hl hR)⟩
theorem xlcGR (R : Nat → PyData → Prop) (hn : 0 ≤ n ∧ n ≤ 40000) (hw : ∀ x, wipe ((wipe σ vs).set j (some x)) vs = wipe σ vs)
    (he : ∀ (i : Nat) (D : Addr) (G H' : Hp) (acc : List V), (i : Int) < n → H D = none → Ex H G → Ex G H' → G D = none → H' D = some (.lst acc) →
      ∀ Q' : VK, (∀ y H2 G2 d, Ex G G2 → Ex G2 H2 → G2 D = none → Ex H' H2 → Dp K G2 y d → R i d → Q' y H2) → te ((wipe σ vs).set j (some (.int (i : Int)))) H' Q')
    (q : ∀ p G' H' ys ds, H p = none → Ex H G' → Ex G' H' → G' p = none → H' p = some (.lst ys) → DpAll K G' ys ds → ds.length = n.toNat → (∀ i d, ds[i]? = some d → R i d) → Q (.ref p) H') : xLcR (gName j) tYes te vs σ [.int n] H Q :=
  ⟨n, rfl, by omega, by omega, fun D hD => lc_range (lo := 0) (n := n.toNat) (Lw K H R D) ⟨hD, H, [], [], Ex.refl H, Ex.new hD, hD, upd_same, .nil, rfl, fun _ _ h => nomatch h⟩
    (fun i H' hi p => by
      have e0 : (0 : Int) + (i : Int) = (i : Int) := Int.zero_add _
      show wipe ((wipe σ vs).set j (some (.int ((0 : Int) + (i : Int))))) vs = wipe σ vs ∧ _
      rw [e0]
      exact ⟨hw _, iteT (B := Lw K H R D (i + 1) H') (lw_turn (by omega) p fun G acc a1 a2 a3 a4 => he i D G H' acc (by omega) hD a1 a2 a3 a4)⟩)
    (fun H' ⟨_, G, ys, ds, e1, e2, g, hys, hd, hl, hR⟩ => q D G H' ys ds hD e1 e2 g hys hd hl hR)⟩
end
end Rd
namespace Rd
open PySem PySem.Spec PyProof.Rows L2 Evl Dk
section
variable {σ σ' : L2.St} {H H' : Hp} {Q : VK} {te tl : TE} {al : TA} {x y v : V} {n m : Int} {l p : Addr} {xs : List V} {tt : TT} {vs : List Nat} {K : PySem.W.Frag} {j : Nat} {o : HO} {g : TG} {D : Ends} {tb : TS}
/-! loops and comprehensions over a text -/
def xFS (g : TG) (tb : TS) (D : Ends) (σ : L2.St) (x : V) (H1 : Hp) : Prop := ∃ z, x = .str z ∧ ∃ W : Nat → Nat → L2.St → Hp → Prop, (∃ m, W 0 m σ H1) ∧ ∀ i m σ H, W i m σ H →
      ((Its z).stop i H ∧ D.nx σ H) ∨ ((Its z).go i H ∧ ∃ N : L2.St → Hp → Prop, (∀ σ' H', N σ' H' → ∃ m', m' < m ∧ W (i + 1) m' σ' H') ∧ ∀ x H', (Its z).yld i H x H' → g x σ H' fun σ2 H2 => tb { D with nx := N, ct := N, bk := D.nx } σ2 H2)
theorem forS (h : te σ H fun x H1 => xFS g tb D σ x H1) : tFor (iStr te) g tb D σ H := h
theorem xfs {z : Str} (Pv : Nat → L2.St → Hp → Prop) (h0 : Pv 0 σ H)
    (hs : ∀ i c σ' H', z.cps[i]? = some c → Pv i σ' H' → g (.str ⟨#[c]⟩) σ' H' fun σ2 H2 => tb { D with nx := Pv (i + 1), ct := Pv (i + 1), bk := D.nx } σ2 H2) (hd : ∀ σ' H', Pv z.cps.size σ' H' → D.nx σ' H') : xFS g tb D σ (.str z) H := by
  refine ⟨z, rfl, fun i m σ' H' => m = z.cps.size - i ∧ i ≤ z.cps.size ∧ Pv i σ' H', ⟨_, rfl, Nat.zero_le _, h0⟩, ?_⟩
  rintro i m σ' H' ⟨rfl, hi, p⟩
  by_cases hlt : i < z.cps.size
  · exact .inr ⟨hlt, Pv (i + 1), fun σ2 H2 p' => ⟨z.cps.size - (i + 1), by omega, rfl, hlt, p'⟩, fun x H2 ⟨e, c, hc, ex⟩ => by subst e; subst ex; exact hs i c σ' _ hc p⟩
  · have e : i = z.cps.size := by omega
    subst e
    exact .inl ⟨Nat.le_refl _, hd σ' H' p⟩
def xLcS (g : TG) (tt : TT) (te : TE) (vs : List Nat) (σ : L2.St) (x : V) (H : Hp) (Q : VK) : Prop := tLc (iStr (fun _ H Q => Q x H)) g tt te vs σ H Q
theorem lcS (h : tl σ H fun x H1 => xLcS g tt te vs σ x H1 Q) : tLc (iStr tl) g tt te vs σ H Q := h
theorem xlcS {z : Str} (f : Nat → Bool) (v : Nat → V) (hz : z.cps.size ≤ 40000) (hw : ∀ x, wipe ((wipe σ vs).set j (some x)) vs = wipe σ vs)
    (ht : ∀ (i c : Nat) H1, Ex H H1 → z.cps[i]? = some c → EvT tt ((wipe σ vs).set j (some (.str ⟨#[c]⟩))) H1 (f i)) (he : ∀ (i c : Nat) H1, Ex H H1 → z.cps[i]? = some c → f i = true → Ev te ((wipe σ vs).set j (some (.str ⟨#[c]⟩))) H1 (v i))
    (q : ∀ p H', H p = none → Ex H H' → H' p = some (.lst (given z.cps.size f v)) → Q (.ref p) H') : xLcS (gName j) tt te vs σ (.str z) H Q := by
  refine ⟨z, rfl, fun D hD => ⟨fun i m H' => m = z.cps.size - i ∧ i ≤ z.cps.size ∧ Cw H f v D i H', ⟨_, rfl, Nat.zero_le _, hD, Ex.new hD, upd_same⟩, ?_⟩⟩
  rintro i m H' ⟨rfl, hi, p⟩
  by_cases hlt : i < z.cps.size
  · exact .inr ⟨hlt, fun H2 => Cw H f v D (i + 1) H2, fun H2 p' => ⟨z.cps.size - (i + 1), by omega, rfl, hlt, p'⟩, fun x H2 ⟨e, c, hc, ex⟩ => by
      subst e; subst ex
      exact ⟨hw _, cw_turn p (by omega) (ht i c H (Ex.refl H) hc) fun hf => he i c H (Ex.refl H) hc hf⟩⟩
  · have e : i = z.cps.size := by omega
    subst e
    exact .inl ⟨Nat.le_refl _, q D H' p.1 p.2.1 p.2.2⟩
/-! in a tuple or a list of flat items -/
theorem inT {b : Bool} (h : SqT K H p xs) (hx : flatV x = true) (ha : xs.all flatV = true) (hb : inV x xs = b) (q : Q (.bl b) H) : rIn K false x (.ref p) H Q := ⟨p, xs, rfl, .inr h, hx, ha, by rw [hb]; exact q⟩
theorem ninT {b : Bool} (h : SqT K H p xs) (hx : flatV x = true) (ha : xs.all flatV = true) (hb : inV x xs = b) (q : Q (.bl (!b)) H) : rIn K true x (.ref p) H Q := ⟨p, xs, rfl, .inr h, hx, ha, by rw [hb]; exact q⟩
/-! texts -/
def rJoin (K : PySem.W.Frag) : V → List V → Hp → VK → Prop := fun x xs H Q => ∃ a p, ∃ ys : List Str, x = .str a ∧ xs = [.ref p] ∧ (SqL K H p (ys.map V.str) ∨ SqT K H p (ys.map V.str)) ∧ (ys.map (·.length)).sum + ys.length * a.length ≤ 16777216 ∧ Q (.str (Txt.join a ys)) H
theorem mt_jn {X : Cx} : MtR X "str.join" (rJoin X.K) := mt_join
def rFind : V → List V → Hp → VK → Prop := fun x xs H Q => ∃ a b, x = .str a ∧ xs = [.str b] ∧ Q (.int (Txt.find a b)) H
theorem mt_fd {X : Cx} : MtR X "str.find" rFind := mt_find
def rSix : V → List V → Hp → VK → Prop := fun x xs H Q => ∃ a b i rest, x = .str a ∧ xs = [.str b] ∧ Builtin.Str.occurrences a b 0 a.length 1 = i :: rest ∧ Q (.int (i : Nat)) H
theorem mt_six {X : Cx} : MtR X "str.index" rSix := mt_sindex
theorem join {a : Str} {ys : List Str} (h : SqL K H p (ys.map V.str)) (hz : (ys.map (·.length)).sum + ys.length * a.length ≤ 16777216) (q : Q (.str (Txt.join a ys)) H) : rJoin K (.str a) [.ref p] H Q := ⟨a, p, ys, rfl, rfl, .inl h, hz, q⟩
theorem find {a b : Str} (q : Q (.int (Txt.find a b)) H) : rFind (.str a) [.str b] H Q := ⟨a, b, rfl, rfl, q⟩
theorem six {a b : Str} {i : Nat} {r : List Nat} (h : Builtin.Str.occurrences a b 0 a.length 1 = i :: r) (q : Q (.int (i : Nat)) H) : rSix (.str a) [.str b] H Q := ⟨a, b, i, r, rfl, rfl, h, q⟩
def xIsS (x : V) (P : Prop) : Prop := (∃ a, x = .str a) ∧ P
theorem m1 {r : V → List V → Hp → VK → Prop} {tf : TE} (h : te σ H fun x H1 => xIsS x (tf σ H1 fun y H2 => r x [y] H2 Q)) : tM1 r te tf σ H Q := h
theorem m0 {r : V → List V → Hp → VK → Prop} (h : te σ H fun x H1 => xIsS x (r x [] H1 Q)) : tM0 r te σ H Q := h
theorem xiss {a : Str} {P : Prop} (h : P) : xIsS (.str a) P := ⟨⟨a, rfl⟩, h⟩
def rTupOf (K : PySem.W.Frag) : List V → Hp → VK → Prop := fun xs H Q => ∃ p ys, xs = [.ref p] ∧ ((SqL K H p ys ∧ ∀ l, H l = none → Q (.ref l) (upd H l (.tup ys))) ∨ (SqT K H p ys ∧ Q (.ref p) H))
theorem c_tup {X : Cx} : CallR X (.type "tuple") (rTupOf X.K) := call_tuple_of
theorem tupOfL (h : SqL K H p xs) (q : ∀ l H', H l = none → Ex H H' → H' l = some (.tup xs) → Q (.ref l) H') : rTupOf K [.ref p] H Q := ⟨p, xs, rfl, .inl ⟨h, fun l hl => q l _ hl (Ex.new hl) upd_same⟩⟩
theorem tupOfT (h : SqT K H p xs) (q : Q (.ref p) H) : rTupOf K [.ref p] H Q := ⟨p, xs, rfl, .inr ⟨h, q⟩⟩
end
end Rd
namespace Rd
open PySem PySem.Spec PyProof.Rows L2 Evl Dk
theorem ip_addS {X : Cx} : PIp X .Add rCatS := by
  rintro pins s σ H x y v u Q I r1 r2 ⟨i, j, rfl, rfl, hz, q⟩
  obtain ⟨t, rfl⟩ := r1
  obtain ⟨t', rfl⟩ := r2
  exact SB.iadd (fun _ _ => ⟨.str _, H, I.tok _, ⟨_, rfl⟩, q⟩) hz
end Rd
namespace Rd
open PySem PySem.Spec PyProof.Rows L2 Evl Dk
theorem lenSL {s : Str} {n : Nat} {H : Hp} {Q : VK} (h : s.length = n) (hn : n ≤ 100000) (q : Q (.int n) H) : Rd.rLenStr [.str s] H Q := ⟨s, rfl, sz_of (by rw [h]; exact hn), by rw [h]; exact q⟩
end Rd
namespace Dt
open PySem PySem.Spec PyProof.Rows L2 Evl
section
variable {K : PySem.W.Frag} {H : Hp} {l C dx : Addr} {fs : List (Str × V)} {o : HO}
theorem rd_ins {a : Addr} {u : HO} (h : H l = some (.ins C dx fs)) (n : ∀ C dx fs, u ≠ .ins C dx fs) (s : L2.Rd H a u) : L2.Rd (upd H l o) a u := by
  rcases s with s | ⟨ob, s⟩
  · exact .inl (by rw [upd_ne (fun z => by subst z; rw [h] at s; exact n _ _ _ (Option.some.inj s).symm)]; exact s)
  · exact .inr ⟨ob, by rw [upd_ne (fun z => by subst z; rw [h] at s; cases s)]; exact s⟩
theorem sqt_ins {a : Addr} {xs : List V} (h : H l = some (.ins C dx fs)) (s : SqT K H a xs) : SqT K (upd H l o) a xs := by
  rcases s with s | s
  · exact .inl (rd_ins h (fun _ _ _ z => by cases z) s)
  · exact .inr s
theorem sql_ins {a : Addr} {xs : List V} (h : H l = some (.ins C dx fs)) (s : SqL K H a xs) : SqL K (upd H l o) a xs := by
  rcases s with s | s
  · exact .inl (rd_ins h (fun _ _ _ z => by cases z) s)
  · exact .inr s
mutual
/-- data stays where an instance changes -/
theorem updI (h : H l = some (.ins C dx fs)) : ∀ (d : PyData) (v : V), Dp K H v d → Dp K (upd H l o) v d
  | .none, _, h1 => by cases h1; exact .non
  | .bool b, _, h1 => by cases h1; exact .bl b
  | .int i, _, h1 => by cases h1; exact .int i
  | .str x, _, h1 => by cases h1; exact .str x
  | .list ds, _, h1 => by
    cases h1 with
    | lst hs ha => exact .lst (sql_ins h hs) (updIA h ds _ ha)
  | .tuple ds, _, h1 => by
    cases h1 with
    | tup hs ha => exact .tup (sqt_ins h hs) (updIA h ds _ ha)
  | .dict _, _, h1 => by cases h1
theorem updIA (h : H l = some (.ins C dx fs)) : ∀ (ds : List PyData) (vs : List V), DpAll K H vs ds → DpAll K (upd H l o) vs ds
  | [], _, h1 => by cases h1; exact .nil
  | d :: ds, _, h1 => by
    cases h1 with
    | cons h2 h3 => exact .cons (updI h d _ h2) (updIA h ds _ h3)
end
end
end Dt
namespace Rd
open PySem PySem.Spec PyProof.Rows L2 Evl Dk
/-- what a for walks: a list or a tuple -/
def iSeq (K : PySem.W.Frag) (te : TE) : TI := fun σ H R => iList K te σ H R ∨ iTup K te σ H R
theorem pi_seq {X : Cx} {tg l : Expr} {tl : TE} (hl : PE X l tl) : PI X tg l (iSeq X.K tl) := by
  refine ⟨fun pins s σ H R I h => ?_⟩
  rcases h with h | h
  · exact (pi_list hl).run pins s σ H R I h
  · exact (pi_tup hl).run pins s σ H R I h
section
variable {σ : L2.St} {H : Hp} {Q : VK} {te tl : TE} {l : Addr} {xs : List V} {tt : TT} {vs : List Nat} {K : PySem.W.Frag} {j : Nat} {g : TG} {tb : TS} {D : Ends}
theorem lcQL (h : tLc (iList K tl) g tt te vs σ H Q) : tLc (iSeq K tl) g tt te vs σ H Q := .inl h
theorem lcQT (h : tLc (iTup K tl) g tt te vs σ H Q) : tLc (iSeq K tl) g tt te vs σ H Q := .inr h
theorem forQL (h : tFor (iList K tl) g tb D σ H) : tFor (iSeq K tl) g tb D σ H := .inl h
theorem forQT (h : tFor (iTup K tl) g tb D σ H) : tFor (iSeq K tl) g tb D σ H := .inr h
def xLcT (K : PySem.W.Frag) (g : TG) (tt : TT) (te : TE) (vs : List Nat) (σ : L2.St) (x : V) (H : Hp) (Q : VK) : Prop := tLc (iTup K (fun _ H Q => Q x H)) g tt te vs σ H Q
theorem lcT (h : tl σ H fun x H1 => xLcT K g tt te vs σ x H1 Q) : tLc (iTup K tl) g tt te vs σ H Q := h
theorem xlcT (f : Nat → Bool) (v : Nat → V) (hx : SqT K H l xs) (hz : xs.length ≤ 40000) (hw : ∀ x, wipe ((wipe σ vs).set j (some x)) vs = wipe σ vs)
    (ht : ∀ (i : Nat) (x : V) H1, Ex H H1 → xs[i]? = some x → EvT tt ((wipe σ vs).set j (some x)) H1 (f i)) (he : ∀ (i : Nat) (x : V) H1, Ex H H1 → xs[i]? = some x → f i = true → Ev te ((wipe σ vs).set j (some x)) H1 (v i))
    (q : ∀ p H', H p = none → Ex H H' → H' p = some (.lst (given xs.length f v)) → Q (.ref p) H') : xLcT K (gName j) tt te vs σ (.ref l) H Q :=
  ⟨l, rfl, ⟨xs, hx⟩, fun Dl hD => lc_tup (xs := xs) (Cw H f v Dl) ⟨hD, Ex.new hD, upd_same⟩ (fun i H' _ p => ex_t p.2.1 hx)
    (fun i x H' hi p => ⟨hw x, cw_turn p (by have := (List.getElem?_eq_some_iff.mp hi).1; omega) (ht i x H (Ex.refl H) hi) (fun hf => he i x H (Ex.refl H) hi hf)⟩) (fun H' p => q Dl H' p.1 p.2.1 p.2.2)⟩
end
end Rd
namespace Rd
open PySem PySem.Spec PyProof.Rows L2 Evl Dk
section
variable {H : Hp} {Q : VK} {K : PySem.W.Frag} {a : Addr} {xs : List V}
theorem isiSqT {T : String} {b : Bool} (h : SqT K H a xs) (k : kitB "tuple" T = some b) (q : Q (.bl b) H) : rIsi K [.ref a, .ty T] H Q := by
  have ty : TyX K H (.ref a) (.type "tuple") := by
    rcases h with (h | ⟨o, h⟩) | ⟨o, its, n, h1, h2, _⟩
    · exact .base (.tup h)
    · exact .fTuple h
    · exact .kTuple h1 h2
  exact ⟨.ref a, .ty T, .type "tuple", .type T, b, rfl, .ty T, ty, kit_ty k, q⟩
theorem isiSqL {T : String} {b : Bool} (h : SqL K H a xs) (k : kitB "list" T = some b) (q : Q (.bl b) H) : rIsi K [.ref a, .ty T] H Q := by
  have ty : TyX K H (.ref a) (.type "list") := by
    rcases h with (h | ⟨o, h⟩) | ⟨o, its, n, h1, h2, _⟩
    · exact .base (.lst h)
    · exact .base (.frz h)
    · exact .kList h1 h2
  exact ⟨.ref a, .ty T, .type "list", .type T, b, rfl, .ty T, ty, kit_ty k, q⟩
end
end Rd
namespace Rd
open PySem PySem.Spec PyProof.Rows L2 Evl Dk
section
variable {X : Cx} {σ : L2.St} {H : Hp} {Q : VK} {te : TE} {tl th : TO} {x : V} {i j z : Str} {n : Int} {c : Nat} {QO : Option Int → Hp → Prop}
/-! texts: an index, a slice, a part of another -/
def rInS : R2 := fun x y H Q => ∃ i j, x = .str i ∧ y = .str j ∧ Q (.bl (!(Builtin.Str.occurrences j i 0 j.length 1).isEmpty)) H
theorem op_inS : OpR X (compareOp .In) rInS := op_in_str
theorem inS {b : Bool} (h : (!(Builtin.Str.occurrences j i 0 j.length 1).isEmpty) = b) (q : Q (.bl b) H) : rInS (.str i) (.str j) H Q := ⟨i, j, rfl, rfl, by rw [h]; exact q⟩
def rNotInS : R2 := fun x y H Q => ∃ i j, x = .str i ∧ y = .str j ∧ Q (.bl (!(!(Builtin.Str.occurrences j i 0 j.length 1).isEmpty))) H
theorem op_notInS : OpR X (compareOp .NotIn) rNotInS := op_notIn_str
theorem ninS {b : Bool} (h : (!(Builtin.Str.occurrences j i 0 j.length 1).isEmpty) = b) (q : Q (.bl (!b)) H) : rNotInS (.str i) (.str j) H Q := ⟨i, j, rfl, rfl, by rw [h]; exact q⟩
theorem ixS (hz : z.length ≤ 100000) (ha : atI z.cps.toList n = some c) (q : Q (.str ⟨#[c]⟩) H) : rIxS (.str z) (.int n) H Q := ⟨z, n, c, rfl, rfl, sz_of hz, ha, q⟩
theorem slX {lo hi : Option Int} (hz : z.length ≤ 100000) (q : Q (.str (Txt.slice z lo hi)) H) : C8.rSlX (.str z) lo hi H Q := ⟨z, rfl, sz_of hz, q⟩
theorem sl {r : V → Option Int → Option Int → Hp → VK → Prop} (h : te σ H fun x H1 => tl σ H1 fun l H2 => th σ H2 fun u H3 => r x l u H3 Q) : tSl r te tl th σ H Q := h
theorem poN (q : QO none H) : tNoPart σ H QO := q
def xPart (x : V) (H1 : Hp) (Q : Option Int → Hp → Prop) : Prop := ∃ i, x = .int i ∧ Q (some i) H1
theorem poS (h : te σ H fun x H1 => xPart x H1 QO) : tPart te σ H QO := h
theorem xpart (q : QO (some n) H) : xPart (.int n) H QO := ⟨n, rfl, q⟩
end
end Rd

/-! exceptions: an own base's __init__, isinstance of an error that has a dict, an object made where its making may raise -/
namespace L2
open PySem PySem.Spec PyProof.Rows
section
variable {X : Cx} {e : Expr} {es : List Expr} {ta : TA} {p1 p2 pos : Pos} {x : Str}
/-- what the own base class at B says of its __init__ -/
structure OvB (K : PySem.W.Frag) (B : Addr) : Prop where
  ga : PySem.W.specialIn K (.ref B) "__getattribute__" = some (some (.builtin "type.__getattribute__"))
  rd : PySem.W.readsIn K B (.type "type") = true
  at_ : PySem.W.findCls K (.ref B) (.type "type") "__init__" = some (.val (.builtin "ValueError.__init__"))
/-- B.__init__(self, ..), B an own class over ValueError without an __init__ of its own -/
theorem pe_ovinit {pl : Sem Bool} {B : Addr} (hg : Gl X x) (hm : X.mg x = some (.ref B)) (T : OvB X.K B) (ha : PA X (e :: es) ta)
    (hdb : (x == ("__debug__" : Str)) = false := by decide)
    (hc : eval (.Call (.Attribute (.Name x p1) "__init__" p2) (e :: es) [] pos) X.env = (do
      let ov ← eval (.Name x p1) X.env
      standAt p2.atName
      let (f, first) ← holding [ov] (getMethod ov "__init__" pl)
      callWith pos f first (backTo pos (starEach (e :: es) X.env)) (backToKw pos (keywordEach [] X.env))) := by rfl)
    (he : starEach (e :: es) X.env = (false, eval e X.env) :: starEach es X.env := by rfl) (hpl : (backTo pos (starEach es X.env)).any (·.1) = false := by rfl) :
    PE X (.Call (.Attribute (.Name x p1) "__init__" p2) (e :: es) [] pos) (tVeI X.K ta) := by
  refine ⟨fun pins s σ H Q I h => ?_⟩
  refine PySem.W.methodCall_KW (ld_glob I hg hm ?_ hdb) hc
  refine PySem.W.method_cls I.kIn T.ga (PySem.W.cls_value I.kIn T.rd T.at_ (by decide +kernel) ?_)
  show wpAny _ _ (callWith pos (Value.builtin "ValueError.__init__") [] (backTo pos (starEach (e :: es) X.env)) []) _ _ _
  refine PyProof.Rows.callWith_method1 (thn (ha.run pos pins _ σ H _ (I.tok _) h) fun us s1 ⟨vs, H1, I1, r1, a, C, ws, ev, hl, T, ea, q⟩ => ?_) he hpl
  subst ev
  cases r1 with
  | @cons _ u0 _ ur ra rw' =>
    obtain rfl : u0 = Value.ref a := ra
    have hlen : ur.length ≤ sizeLine := by
      rw [← Paired.length rw', sizeLine_eq]
      omega
    exact oinit_ok T I1 ea hlen fun s' J => ⟨.non, H1, J, rfl, q⟩
end
/-- what isinstance and a field's reading ask of an own exception class -/
structure ExD (K : PySem.W.Frag) (C : Addr) : Prop where
  cl : (PySem.W.clsIn K C).isSome = true
  ga : PySem.W.findIn K (.ref C) "__getattribute__" = some (some (.builtin "BaseException.__getattribute__"))
  gg : PySem.W.findIn K (.ref C) "__getattr__" = some none
  ex : PySem.W.subIn K (.ref C) (.type "BaseException") = some true
  dc : PySem.W.hasDictIn K C = true
  at_ : PySem.W.findIn K (.ref C) "__class__" = some (some (.builtin "object.__class__"))
  gt : PySem.W.specialIn K (.builtin "object.__class__") "__get__" = some (some (.builtin "getset_descriptor.__get__"))
  tk : PySem.W.takesIn K (.builtin "object.__class__") = some true
  ob : PySem.W.mroIn K C (.type "object") = some true
theorem ExD.xf {K : PySem.W.Frag} {C : Addr} (T : ExD K C) : XfC K C := ⟨T.ga, T.gg, T.ex, T.dc⟩
/-- isinstance(e, c), e the exception of the class D that the suite holds, its dict at dd -/
def rIsD (K : PySem.W.Frag) (cls : Value) (d : Option Addr) (a : Addr) : List V → Hp → VK → Prop := fun xs H Q => ∃ (D : Addr) (dd : Addr) (fs : List (Str × V)) (c : V) (cv : Value) (b : Bool), xs = [.ref a, c] ∧ cls = .ref D ∧ d = some dd ∧ ExD K D ∧ H dd = some (.xd fs) ∧ ClsV c cv ∧ PySem.W.kitOne K (.ref D) cv = some b ∧ Q (.bl b) H
theorem call_isD {X : Cx} {a : Addr} {cls : Value} {d : Option Addr} {oe : Obj} {pn : List (Addr × Obj)} (hz : Zc cls d oe) (hf : ∃ vs, oe.data = .fields vs) : CallR (X.suite a ((a, oe) :: pn)) (.builtin "isinstance") (rIsD X.K cls d a) := by
  rintro pins s σ H xs us Q I r ⟨D, dd, fs, c, cv, b, rfl, rfl, rfl, T, hdd, hcv, e, q⟩
  obtain ⟨fv, hv⟩ := hf
  cases r with
  | cons rx r => cases r with
    | cons rt r =>
      cases r
      cases rx
      obtain rfl := hcv.eq rt
      have hx : ObjOk X.prog X.w H s.heap dd (.xd fs) := I.hok dd _ hdd
      obtain ⟨mA, hns, _⟩ := hx
      obtain ⟨od, ho, _⟩ := lookIn_ns hns
      have J : PySem.W.InstAt s.heap a oe D (some od) := ⟨(I.pin (a, oe) (List.mem_append.mpr (.inl List.mem_cons_self))).1, hz.1, by unfold PySem.W.notCls; rw [hv] <;> rfl, by rw [hz.2]; exact ho⟩
      refine PySem.W.kia_one (PySem.W.kitx_exc T.cl T.ga T.gg T.ex T.at_ T.gt T.tk T.ob) I.kIn J e (fun z => by cases z) fun t2 => ?_
      exact ⟨.bl b, H, I.kept (t' := t2) fun _ _ z => z, rfl, q⟩
section
variable {X : Cx} {CX : CXT} {k : Nat} {f C : Addr} {fd : FuncData} {ps : List Str} {sp : Sp} {E : L2.St → XK} {x m : Str} {p pos apos : Pos} {e o : Expr} {es : List Expr} {ta : TE} {t : TA}
theorem run_makeS {pins : List (Addr × Obj)} {σ : L2.St} {H : Hp} {s : Shared} {Q : VK} {us : List Value} {vs : List V} (M : Mk X.K C f) (F : FnOk X.prog X.w X.K X.mg X.base CX k f fd ps sp) (hr : Room (k + 1) X.A) (hb : Binds X.K fd ps [])
    (hx : PassesAt CX X σ (E σ)) (I : Inv X pins σ H s) (r : Vals vs us)
    (h : ∀ x dx, H x = none → H dx = none → dx ≠ x → sp (.ref x :: vs) (upd (upd H dx (.own x)) x (.ins C dx [])) (fun v H2 => v = .non ∧ Q (.ref x) H2) (E σ)) :
    wpAny (model X.prog X.w) X.A (call (.ref C) us) (EP X pins σ Q) X.xe s := by
  have hq := h (s.heap.objs.size + 1) s.heap.objs.size (I.hok.fresh (Nat.le_succ _)) (I.hok.fresh (Nat.le_refl _)) (Nat.ne_of_lt (Nat.lt_succ_self _))
  have I2 := Inv.made (C := C) I
  have r2 : Vals (V.ref (s.heap.objs.size + 1) :: vs) (Value.ref (s.heap.objs.size + 1) :: us) := .cons rfl r
  have hl : (Value.ref (s.heap.objs.size + 1) :: us).length = ps.length := by
    have e := r2.length
    rw [F.len _ _ _ _ hq] at e
    exact e.symm
  have b := hb _ (Value.ref (s.heap.objs.size + 1) :: us) I2.kIn (by rw [List.append_nil]; exact hl)
  rw [List.append_nil] at b
  refine wpAny_call (make_map (f := f) I.kIn M.makes M.init (beq_iff_eq.mp M.fn) (codeAny_mono (F.run _ X.stack _ _ ⟨Value.ref (s.heap.objs.size + 1) :: us, []⟩ (Value.ref (s.heap.objs.size + 1) :: us) _ _ (E σ) (hr.make C us [])
    (I2.env0.make C us []) b r2 hq) fun r s' hq' => ?_))
  cases r with
  | error e => exact hx pins _ _ e s' I2 hq'
  | ok fl =>
    cases fl with
    | ret u =>
      obtain ⟨v, H', I3, rv, ev, q3⟩ := I2.after hq'
      subst ev
      exact ⟨rv, ⟨V.ref (s.heap.objs.size + 1), H', I3, rfl, q3⟩⟩
    | next => exact False.elim hq'
    | brk => exact False.elim hq'
    | cont => exact False.elim hq'
/-- C(..) whose __init__ may raise: what is raised is wished for at the slots -/
def tMakeS (C : Addr) (sp : Sp) (E : L2.St → XK) (t : TA) : TE := fun σ H Q => t σ H fun vs H1 => ∀ x dx, H1 x = none → H1 dx = none → dx ≠ x → sp (.ref x :: vs) (upd (upd H1 dx (.own x)) x (.ins C dx [])) (fun v H2 => v = .non ∧ Q (.ref x) H2) (E σ)
theorem pe_makeS (M : Mk X.K C f) (F : FnOk X.prog X.w X.K X.mg X.base CX k f fd ps sp) (hr : Room (k + 1) X.A) (hg : Gl X x) (hm : X.mg x = some (.ref C)) (hb : Binds X.K fd ps []) (hx : ∀ σ, PassesAt CX X σ (E σ))
    (ha : PA X (e :: es) t) (hdb : (x == ("__debug__" : Str)) = false := by decide) (he : starEach (e :: es) X.env = (false, eval e X.env) :: starEach es X.env := by rfl) (hpl : (backTo pos (starEach es X.env)).any (·.1) = false := by rfl) :
    PE X (.Call (.Name x p) (e :: es) [] pos) (tMakeS C sp E t) := by
  refine ⟨fun pins s σ H Q I h => ?_⟩
  refine wpAny_Call_Name_kw (ld_glob I hg hm ?_ hdb)
  refine PySem.W.callWith_K (h₀ := X.base) I.ok.mod.kin M.kp (thn (ha.run pos pins s σ H _ I h) fun us s1 ⟨vs, H1, I1, r, q⟩ => ⟨I1.kIn, ?_⟩) he hpl
  exact run_makeS M F hr hb (hx σ) I1 r q
end
end L2
namespace Rd
open PySem PySem.Spec PyProof.Rows L2 Evl Dk
section
variable {σ : L2.St} {H : Hp} {Q : VK} {K : PySem.W.Frag} {D : Ends} {al : TA} {te : TE} {a C : Addr} {v x : V} {f : Str}
def xVeI (K : PySem.W.Frag) (vs : List V) (H1 : Hp) (Q : VK) : Prop := ∃ (a C : Addr) (ws : List V), vs = .ref a :: ws ∧ ws.length ≤ 1000 ∧ OexC K C ∧ H1 a = some (exo a C none) ∧ Q .non H1
theorem vei (h : al σ H fun vs H1 => xVeI K vs H1 Q) : tVeI K al σ H Q := h
theorem xvei {ws : List V} (T : OexC K C) (h : H a = some (exo a C none)) (n : Nat.ble ws.length 1000 = true) (q : Q .non H) : xVeI K (.ref a :: ws) H Q := ⟨a, C, ws, rfl, Nat.le_of_ble_eq_true n, T, h, q⟩
def xOst (K : PySem.W.Frag) (f : Str) (y x : V) (H2 : Hp) (N : Hp → Prop) : Prop := ∃ a C : Addr, x = .ref a ∧ OexC K C ∧ PySem.W.findIn K (.ref C) f = some none ∧
  ((H2 a = some (exo a C none) ∧ ∀ dx, H2 dx = none → dx ≠ a → N (upd (upd H2 dx (exd dx [(f, y)])) a (exo a C (some dx)))) ∨
    ∃ (dx : Addr) (fs : List (Str × V)), H2 a = some (exo a C (some dx)) ∧ H2 dx = some (exd dx fs) ∧ fs.length ≤ 900 ∧ N (upd H2 dx (exd dx ((f, y) :: fs))))
theorem ost {to : TE} (h : te σ H fun y H1 => to σ H1 fun x H2 => xOst K f y x H2 fun H3 => D.nx σ H3) : tOst K f to te D σ H := h
theorem xost {N : Hp → Prop} (T : OexC K C) (n : PySem.W.findIn K (.ref C) f = some none) (h : H a = some (exo a C none)) (q : ∀ dx, H dx = none → dx ≠ a → N (upd (upd H dx (exd dx [(f, v)])) a (exo a C (some dx)))) : xOst K f v (.ref a) H N := ⟨a, C, rfl, T, n, .inl ⟨h, q⟩⟩
/-- an exception with one field: its __init__'s promise, and the raise of it -/
def spEx1 (C : Addr) (f : Str) : Sp := fun vs H Q _ => ∃ (a : Addr) (s : Str), vs = [.ref a, .str s] ∧ s.length ≤ 1000 ∧ H a = some (exo a C none) ∧ ∀ dx, H dx = none → dx ≠ a → Q .non (upd (upd H dx (exd dx [(f, .str s)])) a (exo a C (some dx)))
def xMkO (C : Addr) (sp : Sp) (dvs vs : List V) (H1 : Hp) (Q : XK) : Prop := vs.length ≤ 1000 ∧ ∀ a, H1 a = none → sp (.ref a :: (vs ++ dvs)) (upd H1 a (exo a C none))
  (fun v H2 => v = .non ∧ ∃ (d : Addr) (fs : List (Str × V)), H2 a = some (exo a C (some d)) ∧ H2 d = some (exd d fs) ∧ H1 d = none ∧ Q (.ref C) (some d) (upd (del H2 a) d (.xd fs))) (fun _ _ _ => False)
theorem xmko1 {s : Str} {Q : XK} (hs : s.length ≤ 1000) (q : ∀ d H', H d = none → Ex H H' → H' d = some (.xd [(f, .str s)]) → Q (.ref C) (some d) H') : xMkO C (spEx1 C f) [] [.str s] H Q := by
  refine ⟨Nat.le_of_ble_eq_true rfl, fun a na => ⟨a, s, rfl, hs, upd_same, fun dx nx ne => ⟨rfl, dx, [(f, .str s)], upd_same, by rw [upd_ne ne]; exact upd_same, ?_, ?_⟩⟩⟩
  · rw [upd_ne ne] at nx; exact nx
  · have nx' : H dx = none := by rw [upd_ne ne] at nx; exact nx
    refine q dx _ nx' (fun b o hb => ?_) upd_same
    have h1 : b ≠ dx := ne_of_none hb nx'
    have h2 : b ≠ a := ne_of_none hb na
    rw [upd_ne h1, del_ne h2, upd_ne h2, upd_ne h1, upd_ne h2]
    exact hb
theorem makeS {C : Addr} {sp : Sp} {E : L2.St → XK} (h : al σ H fun vs H1 => xMk C (fun x H2 Q2 => sp (x :: vs) H2 Q2 (E σ)) H1 Q) : tMakeS C sp E al σ H Q := h
theorem callS {sp : Sp} {E : L2.St → XK} (h : al σ H fun vs H1 => sp vs H1 Q (E σ)) : tCallS sp E al σ H Q := h
end
end Rd
namespace Rd
open PySem PySem.Spec PyProof.Rows L2 Evl Dk
section
variable {H : Hp} {Q : VK} {K : PySem.W.Frag} {D dd a : Addr} {fs : List (Str × V)} {c : V} {cv : Value} {b : Bool}
theorem isD (T : ExD K D) (h : H dd = some (.xd fs)) (hc : ClsV c cv) (k : PySem.W.kitOne K (.ref D) cv = some b) (q : Q (.bl b) H) : rIsD K (.ref D) (some dd) a [.ref a, c] H Q := ⟨D, dd, fs, c, cv, b, rfl, rfl, rfl, T, h, hc, k, q⟩
/-- e.f, e the exception of the suite -/
def xXf (a : Addr) (cls : Value) (d : Option Addr) (C : Addr) (f : Str) (x : V) (H1 : Hp) (Q : VK) : Prop := x = .ref a ∧ cls = .ref C ∧ ∃ (dd : Addr) (fs : List (Str × V)) (v : V), d = some dd ∧ H1 dd = some (.xd fs) ∧ fs.lookup f = some v ∧ Q v H1
theorem xf {σ : L2.St} {te : TE} {cls : Value} {d : Option Addr} {C : Addr} {f : Str} (h : te σ H fun x H1 => xXf a cls d C f x H1 Q) : tXf a cls d C f te σ H Q := h
theorem xxf {C : Addr} {f : Str} {v : V} (h : H dd = some (.xd fs)) (l : fs.lookup f = some v) (q : Q v H) : xXf a (.ref C) (some dd) C f (.ref a) H Q := ⟨rfl, rfl, dd, fs, v, rfl, h, l, q⟩
end
end Rd
namespace Rd
open PySem PySem.Spec PyProof.Rows L2 Evl Dk
section
variable {X : Cx} {σ : L2.St} {H H1 : Hp} {Q : VK} {te : TE} {ts : List TE} {acc y : Str} {i : Int} {K : PySem.W.Frag} {a C : Addr} {f : Str}
/-! f-strings -/
def tJoin (ts : List TE) : TE := fun σ H Q => tJs ts Str.empty σ H fun out H1 => Q (.str out) H1
theorem pe_joinN {v1 v2 : Expr} {rest : List Expr} {pos : Pos} (h : PJ X (v1 :: v2 :: rest) ts) : PE X (.JoinedStr (v1 :: v2 :: rest) pos) (tJoin ts) := pe_joined h
theorem jn (h : tJs ts Str.empty σ H fun out H1 => Q (.str out) H1) : tJoin ts σ H Q := h
def xJs (ts : List TE) (acc : Str) (σ : L2.St) (x : V) (H1 : Hp) (R : Str → Hp → Prop) : Prop := ∃ y : Str, x = .str y ∧ (acc ++ y).length ≤ sizeLine ∧ tJs ts (acc ++ y) σ H1 R
theorem jsC {R : Str → Hp → Prop} (h : te σ H fun x H1 => xJs ts acc σ x H1 R) : tJs (te :: ts) acc σ H R := h
theorem jsN {R : Str → Hp → Prop} (q : R acc H) : tJs [] acc σ H R := q
theorem xjs {R : Str → Hp → Prop} (n : (acc ++ y).length ≤ 100000) (q : tJs ts (acc ++ y) σ H R) : xJs ts acc σ (.str y) H R := ⟨y, rfl, Dk.sz5 n, q⟩
def xFmt (x : V) (H1 : Hp) (Q : VK) : Prop := (∃ y : Str, x = .str y ∧ y.length ≤ sizeLine ∧ Q (.str y) H1) ∨ ∃ i : Int, x = .int i ∧ i.natAbs.log2 < 1920 ∧ Q (.str (toString i)) H1
theorem fmt (h : te σ H fun x H1 => xFmt x H1 Q) : tFmt te σ H Q := h
theorem xfmtS (n : y.length ≤ 100000) (q : Q (.str y) H) : xFmt (.str y) H Q := .inl ⟨y, rfl, Dk.sz5 n, q⟩
theorem xfmtI (n : i.natAbs.log2 < 1920) (q : Q (.str (toString i)) H) : xFmt (.int i) H Q := .inr ⟨i, rfl, n, q⟩
theorem len_app (a b : Str) : (a ++ b).length = a.length + b.length := by show (a.cps ++ b.cps).size = _; rw [Array.size_append]; rfl
theorem len_num : ∀ n : Nat, n < 64 → (toString (n : Int) : Str).length ≤ 10 ∧ (n : Int).natAbs.log2 < 1920 := by decide +kernel
/-- an exception with one small whole number -/
def spExI (C : Addr) (f : Str) : Sp := fun vs H Q _ => ∃ (a : Addr) (n : Nat), vs = [.ref a, .int n] ∧ n < 64 ∧ H a = some (exo a C none) ∧ ∀ dx, H dx = none → dx ≠ a → Q .non (upd (upd H dx (exd dx [(f, .int n)])) a (exo a C (some dx)))
theorem xmkoI {n : Nat} {Q : XK} (hs : n < 64) (q : ∀ d H', H d = none → Ex H H' → H' d = some (.xd [(f, .int n)]) → Q (.ref C) (some d) H') : xMkO C (spExI C f) [] [.int n] H Q := by
  refine ⟨Nat.le_of_ble_eq_true rfl, fun a na => ⟨a, n, rfl, hs, upd_same, fun dx nx ne => ⟨rfl, dx, [(f, .int n)], upd_same, by rw [upd_ne ne]; exact upd_same, ?_, ?_⟩⟩⟩
  · rw [upd_ne ne] at nx; exact nx
  · have nx' : H dx = none := by rw [upd_ne ne] at nx; exact nx
    refine q dx _ nx' (fun b o hb => ?_) upd_same
    have h1 : b ≠ dx := ne_of_none hb nx'
    have h2 : b ≠ a := ne_of_none hb na
    rw [upd_ne h1, del_ne h2, upd_ne h2, upd_ne h1, upd_ne h2]
    exact hb
end
end Rd
namespace Rd
open PySem PySem.Spec PyProof.Rows L2 Evl Dk
theorem mkO {σ : L2.St} {H : Hp} {C : Addr} {sp : Sp} {dvs : List V} {al : TA} {Q : XK} (h : al σ H fun vs H1 => xMkO C sp dvs vs H1 Q) : tMkO C sp dvs al σ H Q := h
end Rd

/-! defs that raise nothing, called within an except suite, whatever stands as the handled exception -/
namespace L2
open PySem PySem.Spec PyProof.Rows
structure FnG (P : Program) (w : World) (K : PySem.W.Frag) (mg : Str → Option Value) (base : Heap) (k : Nat) (f : Addr) (fd : FuncData) (ps : List Str) (sp : Sp) : Prop where
  len : ∀ vs H Q E, sp vs H Q E → vs.length = ps.length
  run : ∀ (A : Around) (outer : List Env) (s : Shared) (H : Hp) (args : Args) (us : List Value) (vs : List V) (Q : VK) (E : XK) (p : Addr × Obj), L2H.RoomH k A → L2H.PinOk outer H s p → Env0 P w K mg base A outer s H → BindsTo s fd args (ps.zip us) → Vals vs us → sp vs H Q E →
    codeAny (model P w) A (.call (.ref f) args) (CR CX0 outer P w H s Q E) s
section
variable {P : Program} {w : World} {K : PySem.W.Frag} {mg : Str → Option Value} {base : Heap}
theorem Fun.okG {x qual : Str} {st : Stmt} {f : Addr} {fd : FuncData} {N ps : List Str} {k : Nat} {sp : Sp} (F : Fun K x qual st f fd) (S : FnScope N ps (defScope st)) (len : ∀ vs H Q E, sp vs H Q E → vs.length = ps.length)
    (hbody : ∀ (cdv : Value) (A : Around) (outer : List Env) (s : Shared) (H : Hp) (vs : List V) (Q : VK) (E : XK) (p : Addr × Obj), L2H.RoomH k (A.deeper (envOfC qual (defScope st) s.heap.objs.size f cdv)) → sp vs H Q E →
      ∃ t, PSs (L2H.cxH CX0 P w K mg base N qual (defScope st) f cdv A outer s H E p).nox (defBody st) t ∧ t { nx := fun _ H' => Q .non H', rt := Q } (start N vs) H) : FnG P w K mg base (k + 1) f fd ps sp := by
  obtain ⟨oc, od, kV, doc, pm, an, cdv, ct, osl, rfl, lk, hcd⟩ := F.ex
  refine ⟨len, fun A outer s H args us vs Q E p rm pin env bnd rel want => ?_⟩
  have inH : K.In s.heap := env.mod.kin.keeps fun b o e => (env.bs b o e).1
  have noLim : s.heap.NoLimit := env.mod.nolimit.keeps fun b o e => (env.bs b o e).1
  have kinds : ∀ y ∈ ps.zip us, (defScope st).names.lookup y.1 = some .local ∨ ((defScope st).names.lookup y.1 = some .cell ∧ ((cellsFrom (s.heap.objs.size + 1) (defScope st).names []).lookup y.1).isSome = true) := by
    rintro ⟨n, v⟩ hy
    exact (S.par n (List.of_mem_zip hy).1).elim .inl fun q => .inr ⟨q, PySem.W.cellsFrom_some _ _ _ (.inl q)⟩
  refine codeAny_call_function rm.depth (inH _ _ lk) rfl S.co S.gen rfl
    (PySem.W.codeRec_of inH hcd) (bnd _ _ _ _ (wpAny_newFunctionEnv_cells S.kind kinds ?_))
  rintro env2 hen s1 entry
  subst hen
  refine ⟨noLim.keeps entry.toInCall.keep, codeAny_func ?_⟩
  obtain ⟨t, ht, tq⟩ := hbody cdv A outer s H vs Q E p (rm.deeper _) want
  have start_ := L2H.inv_startH (E := E) (CX := CX0) S pin env (len _ _ _ _ want) rel entry
  refine wpAny_mono (ht.nox.run [] s1 (start N vs) H _ start_ tq) ?_ fun _ _ z => z
  intro fl s2 hs
  cases fl with
  | ret u =>
    obtain ⟨v, σ2, H2, J, rv, q⟩ := hs
    exact ⟨v, H2, J.os, J.bare, J.base, J.hok, rv, q⟩
  | next =>
    obtain ⟨σ2, H2, J, q⟩ := hs
    exact ⟨.non, H2, J.os, J.bare, J.base, J.hok, rfl, q⟩
  | brk => obtain ⟨_, _, _, q⟩ := hs; exact q.elim
  | cont => obtain ⟨_, _, _, q⟩ := hs; exact q.elim
end
theorem roomS {j k : Nat} {A : Around} {x : Option Value} (r : Room k A) (h : j ≤ k) : L2H.RoomH j (A.mark x) :=
  ⟨by have := r.dp; show A.depth + 3 * j + 5 < _; omega, by have := r.un; show A.units + 16 * j + 200 < _; omega⟩
section
variable {X : Cx} {k : Nat} {f : Addr} {fd : FuncData} {ps : List Str} {sp : Sp} {x : Str} {q pos : Pos} {e : Expr} {es : List Expr} {t : TA}
theorem pe_callG {p : Addr × Obj} (F : FnG X.prog X.w X.K X.mg X.base k f fd ps sp) (hr : L2H.RoomH k X.A) (hp : p ∈ X.pn) (hg : Gl X x) (hm : X.mg x = some (.ref f)) (hk : PySem.W.keepIn X.K (.ref f) = true) (hb : Binds X.K fd ps [])
    (ha : PA X (e :: es) t) (hdb : (x == ("__debug__" : Str)) = false := by decide) (he : starEach (e :: es) X.env = (false, eval e X.env) :: starEach es X.env := by rfl) (hpl : (backTo pos (starEach es X.env)).any (·.1) = false := by rfl) :
    PE X (.Call (.Name x q) (e :: es) [] pos) (tCall sp [] E0 t) := by
  refine ⟨fun pins s σ H Q I h => wpAny_Call_Name_kw (ld_glob I hg hm ?_ hdb)⟩
  refine PySem.W.callWith_K (h₀ := X.base) I.ok.mod.kin hk (thn (ha.run pos pins s σ H _ I h) ?_) he hpl
  rintro us s1 ⟨vs, H1, I1, r, want⟩
  refine ⟨I1.kIn, ?_⟩
  rw [List.append_nil] at want
  have hl : us.length = ps.length := by rw [← r.length]; exact F.len _ _ _ _ want
  have bnd := hb s1 us I1.kIn (by rw [List.append_nil]; exact hl)
  rw [List.append_nil] at bnd
  obtain ⟨g1, g2, g3, g4, g5⟩ := I1.pin p (List.mem_append_left _ hp)
  have pin : L2H.PinOk X.stack H1 s1 p := ⟨g1, g2, fun z => (List.mem_cons.mp (I1.stkSub p.1 z)).elim g3 g4, g5⟩
  refine wpAny_call (codeAny_mono (F.run X.A X.stack s1 H1 ⟨us, []⟩ us vs Q E0 p hr pin I1.env0 bnd r want) ?_)
  intro r2 s2 hq
  cases r2 with
  | error e => exact False.elim hq
  | ok fl =>
    cases fl with
    | ret u => exact I1.after hq
    | next => exact False.elim hq
    | brk => exact False.elim hq
    | cont => exact False.elim hq
end
end L2

/-! a for over a displayed tuple in an except suite; own exceptions with an __init__ whose context is known -/
namespace HotX
open PySem PySem.Spec PyProof.Rows
section
variable {prog : Program} {w : World} {A : Around} {E : Value → Shared → Prop} {s : Shared}
theorem pyNext_tuple_end_hot {it t x1 : Addr} {i : Nat} {items : Array Value} {Q : Option Value → Shared → Prop} (hot : HotAt A x1 s.heap) (hne : x1 ≠ it)
    (hit : s.heap.IsTupleIter it t i) (ht : s.heap.IsTuple t items) (hx : items[i]? = none)
    (hQ : ∀ h', Heap.ExtBut it s.heap h' → Q none { s with heap := h' }) : wpAny (model prog w) A (pyNext (.ref it)) Q E s := by
  obtain ⟨hh, o1, vs1, h1, d1, c1⟩ := hot
  obtain ⟨o, ho, hc, hd⟩ := id hit
  obtain ⟨ol, hol, _, nl, hdl⟩ := ht
  unfold pyNext
  refine wpAny_bind (wpAny_attempt (wpAny_callSpecial?_slot (name := Str.ofString "__next__") hit.typeIs F.slot_tuple_iterator_next
    (wpAny_call_entry F.slot_tuple_iterator_next hit.typeIs F.entry_tuple_iterator_next ?_ (F.args_tuple_iterator_next_1 _))))
  show wpAny _ _ (field (.ref it) 0 >>= _) _ _ s
  refine wpAny_bind (wpAny_field ho hd (x := .ref t) rfl ?_)
  show wpAny _ _ (if (Value.ref t == Value.none) = true then _ else _) _ _ s
  rw [if_neg (show ¬ ((Value.ref t == Value.none) = true) from Bool.false_ne_true)]
  show wpAny _ _ (field (.ref it) 1 >>= _) _ _ s
  refine wpAny_bind (wpAny_field ho hd (x := .int i 0) rfl ?_)
  show wpAny _ _ (seqItems? (.ref t) >>= _) _ _ s
  refine wpAny_bind (wpAny_seqItems hol hdl ?_)
  simp only [Int.toNat_natCast, hx]
  refine wpAny_bind (wpAny_rule (wpAny_bind (wpAny_setField ho hd (by simp) ?_)))
  show wpAny _ _ (newExc (.type "StopIteration") [] >>= _) _ _ _
  refine wpAny_bind ?_
  simp only [newExc, newTuple]
  refine wpAny_bind (wpAny_newObj_type ?_ (by size_fits))
  refine wpAny_bind (m := firstArgMember _ _) (wpAny_of_eq (a := Value.none) (by first | rfl | (simp only [firstArgMember]; rfl)) ?_)
  refine wpAny_newObj_type ?_ (by size_fits)
  have h1' : (s.heap.update it (Obj.mapFields (·.setIfInBounds 0 Value.none))).get? x1 = some o1 := by rw [Heap.get?_update_other _ _ (Ne.symm hne)]; exact h1
  refine raiseNew_hot ⟨hh, o1, vs1, Heap.get?_push_of_some _ (Heap.get?_push_of_some _ h1'), d1, c1⟩ (Nat.ne_of_lt (Heap.lt_size (Heap.get?_push_of_some _ h1'))) (Heap.get?_push_size _ rfl) rfl (by first | (simp; done) | (simp; omega) | (simp only [Array.size_append]; simp; omega)) ?_
  refine wpAny_bind (wpAny_isInstance (T := "StopIteration") (b := true) ⟨_, Heap.get?_update_self _ (Heap.get?_push_size _ rfl) rfl, rfl⟩ isSubtype_stop ?_)
  refine wpAny_pure (hQ _ fun b o hb e => ?_)
  have e' : (s.heap.update it (Obj.mapFields (·.setIfInBounds 0 Value.none))).get? b = some o := by rw [Heap.get?_update_other _ _ (Ne.symm hb)]; exact e
  rw [Heap.get?_update_other _ _ (Nat.ne_of_gt (Heap.lt_size (Heap.get?_push_of_some _ e')))]
  exact Heap.get?_push_of_some _ (Heap.get?_push_of_some _ e')
end
end HotX
namespace L2H
open PySem PySem.Spec PyProof.Rows L2 HotX
theorem HotC.ne {X : Cx} {pins : List (Addr × Obj)} {σ : St} {H : Hp} {s : Shared} (c : HotC X) (I : Inv X pins σ H s) : ∃ p : Addr × Obj, p ∈ X.pn ∧ HotAt X.A p.1 s.heap := by
  obtain ⟨p, ⟨hh, v1, e1, c1⟩, hp⟩ := c
  exact ⟨p, hp, hh, p.2, v1, (I.pin p (List.mem_append_left _ hp)).1, e1, c1⟩
theorem turn_tupleH {P : Program} {w : World} {K : PySem.W.Frag} {tg : Expr} (a it : Addr) : TurnH P w K tg (Itt K a) [it] it (fun i h => h.IsTupleIter it a i) where
  mem := by simp
  obj := fun i h st b hb => by
    have e : b = it := by simpa using hb
    subst e
    obtain ⟨o, e, c, d⟩ := st
    exact ⟨o, e, fun v z => by rw [d] at z; cases z⟩
  keep := fun i h h' st k => st.at fun o e => k it (by simp) o e
  item := by
    intro X hP hw hK hc i pins s σ H E I hf st hg
    subst hP hw hK
    obtain ⟨xs, x, hq, hx⟩ := hg
    obtain ⟨its, rv, p, hz⟩ := I.tuple hq
    obtain ⟨u, hu, ru⟩ := rv.get hx
    obtain ⟨f0, f1, f2, f3, f4, f5⟩ := hf it (by simp)
    refine wpAny_pyNext_tuple_item st (show s.heap.IsTuple a its.toArray from p) (x := u) (by simpa using hu) fun h' st' sb => ?_
    have I1 : Inv X pins σ H { s with heap := h' } := I.turned (t' := s.toks) (fun b o hb e => (sb.2 b hb).trans e) f0 f1 f3 f4 f5
    obtain ⟨o, e, c, d⟩ := id st'
    exact ⟨u, rfl, go_of (s := { s with heap := h' }) e c d (by decide) ⟨x, H, I1, ru, ⟨rfl, fun ys hy => by rw [I.tuple_inj hy hq]; exact hx⟩, st', fun b hb => (hf b hb).1⟩⟩
  done := by
    intro X hP hw hK hc i pins s σ H E I hf st hg
    subst hP hw hK
    obtain ⟨xs, hq, hx⟩ := hg
    obtain ⟨its, rv, p, hz⟩ := I.tuple hq
    obtain ⟨f0, f1, f2, f3, f4, f5⟩ := hf it (by simp)
    have hl := rv.length
    obtain ⟨q, hp, hot⟩ := hc.ne I
    have hne : q.1 ≠ it := f5 q (List.mem_append_left _ hp)
    exact pyNext_tuple_end_hot hot hne st (show s.heap.IsTuple a its.toArray from p) (by simp; omega) fun h' eb => ⟨rfl, I.turned (t' := s.toks) (fun b o hb e => eb b o hb e) f0 f1 f3 f4 f5⟩
  self := fun _ _ _ _ _ st h => wpAny_pyIter_tupleiter st h
section
variable {X : Cx} {tg : Expr}
theorem pi_tupH {l : Expr} {tl : TE} (hl : PE X l tl) : PIH X tg l (iTup X.K tl) := by
  refine ⟨fun pins s σ H R I h => ?_⟩
  refine thn (hl.run pins s σ H _ I h) fun v s1 ⟨x, H1, I1, r1, q1⟩ => ?_
  obtain ⟨a, e, ⟨xs, hq⟩, q⟩ := q1
  subst e
  cases r1
  obtain ⟨its, rv, p, hz⟩ := I1.tuple hq
  refine wpAny_pyIter_tuple (show s1.heap.IsTuple a its.toArray from p) ?_
  refine ⟨s1.heap.objs.size, [s1.heap.objs.size], _, _, H1, rfl, I1.kept (t' := s1.toks) fun b o e => Heap.get?_push_of_some _ e, turn_tupleH a _, ⟨_, Heap.get?_push_size _ rfl, rfl, rfl⟩, fun b hb => ?_, q⟩
  have e : b = s1.heap.objs.size := by simpa using hb
  subst e
  exact I1.fpOk (Nat.le_refl _) (I1.hok.fresh (Nat.le_refl _))
theorem hot_suite {X : Cx} {a : Addr} {oe : Obj} {cls : Value} {d : Option Addr} {pn : List (Addr × Obj)} (hz : L2N.Zn cls d oe) (hf : ∃ vs, oe.data = .fields vs) : HotC (X.suite a ((a, oe) :: pn)) := by
  obtain ⟨vs, e⟩ := hf
  exact ⟨(a, oe), ⟨rfl, vs, e, hz.2.2 vs e⟩, List.mem_cons_self⟩
end
end L2H
namespace L2N
open PySem PySem.Spec PyProof.Rows L2
theorem mk_end {X : Cx} {pins : List (Addr × Obj)} {σ : L2.St} {H1 H2 : Hp} {Q : XK} {hp hp2 h2 : Heap} {g1 g2 : Array GenState} {d1 d2 : Drawn} {t1 t2 : Nat} {os1 os2 : OsState} {a C d : Addr} {fs : List (Str × V)} (T : Raises X (.ref C)) (I1 : Inv X pins σ H1 ⟨hp, g1, d1, t1, os1⟩)
    (ha : hp.objs.size ≤ a) (k : ∀ b o, hp.get? b = some o → hp2.get? b = some o) (un : Un (frs X.stack) [] (upd H1 a (exo a C none)) H2 hp2 h2) (hok : HOk X.prog X.w H2 h2) (ho : os2 = os1) (hb : AllBare g2)
    (ea : H2 a = some (exo a C (some d))) (ed : H2 d = some (exd d fs)) (hd1 : H1 d = none) (q : Q (.ref C) (some d) (upd (del H2 a) d (.xd fs))) : L2N.MkP X pins σ Q (.ref a) ⟨h2, g2, d2, t2, os2⟩ := by
  obtain ⟨t0, G, J, kG, ge, hoe, na⟩ := mk_end0 (d2 := d2) (t2 := t2) I1 ha k un hok ho hb ea ed hd1
  exact ⟨a, _, _, ⟨G, g2, d2, t2, os2⟩, _, .ref C, some d, rfl, J, kG, ge, hoe, ⟨rfl, rfl, fun vs e => by cases e; rfl⟩, rfl, rfl, na, rfl, hb, T, q⟩
theorem pmk_oex {X : Cx} {e : Expr} {es : List Expr} {ta : TA} {p pos : Pos} {CX : CXT} {x : Str} {C fI : Addr} {k : Nat} {fd : FuncData} {ps : List Str} {sp : Sp} {ds : List Value} {dvs : List V} (T : OexC X.K C) (iC : PySem.W.findIn X.K (.ref C) "__init__" = some (some (.ref fI))) (tI : PySem.W.typeIn X.K (.ref fI) = some (.type "function"))
    (F1 : FnOk X.prog X.w X.K X.mg X.base CX k fI fd ps sp) (hr : Room (k + 1) X.A) (hb : Binds X.K fd ps ds) (hd : Vals dvs ds) (hx : Passes CX X (fun _ _ _ => False)) (hg : Gl X x) (hm : X.mg x = some (.ref C)) (ha : PA X (e :: es) ta)
    (hdb : (x == ("__debug__" : Str)) = false := by decide) (he : starEach (e :: es) X.env = (false, eval e X.env) :: starEach es X.env := by rfl) (hpl : (backTo pos (starEach es X.env)).any (·.1) = false := by rfl) :
    L2N.PMk X (.Call (.Name x p) (e :: es) [] pos) (tMkO C sp dvs ta) := by
  intro pins s σ H Q I h
  obtain ⟨nm, q, N, bs, bm, sn, sub, ab, col, dd, k0, k1, k2, k3, k5, hC, hbm⟩ := T.cls
  refine wpAny_Call_Name_kw (ld_glob I hg hm ?_ hdb)
  refine PySem.W.callWith_K (h₀ := X.base) I.ok.mod.kin T.kC (thn (ha.run pos pins s σ H _ I h) fun us s1 ⟨vs, H1, I1, r1, hz, q1⟩ => ⟨I1.kIn, ?_⟩) he hpl
  show wpAny _ _ (call (.ref C) us) _ _ _
  obtain ⟨hp, g, dr, tk, os⟩ := s1
  have hsz : hp.objs.size ≤ hp.objs.size + 1 := Nat.le_succ _
  have hn : H1 (hp.objs.size + 1) = none := I1.hok.fresh hsz
  have hq := q1 (hp.objs.size + 1) hn
  have kk : ∀ b o, hp.get? b = some o → ((hp.push (PySem.W.kdv_tup us)).push (PySem.HandSPX.excO C hp.objs.size)).get? b = some o := fun b o e => Heap.get?_push_of_some _ (Heap.get?_push_of_some _ e)
  have hget : ((hp.push (PySem.W.kdv_tup us)).push (PySem.HandSPX.excO C hp.objs.size)).get? (hp.objs.size + 1) = some (PySem.HandSPX.excO C hp.objs.size) := by heap_get
  have I2 : Inv X pins σ (upd H1 (hp.objs.size + 1) (exo (hp.objs.size + 1) C none)) ⟨(hp.push (PySem.W.kdv_tup us)).push (PySem.HandSPX.excO C hp.objs.size), g, dr, tk, os⟩ :=
    I1.laid (t' := tk) (a := hp.objs.size + 1) (o := exo (hp.objs.size + 1) C none) (h' := (hp.push (PySem.W.kdv_tup us)).push (PySem.HandSPX.excO C hp.objs.size)) kk hsz (exo_ok hget)
  have r2 : Vals (V.ref (hp.objs.size + 1) :: (vs ++ dvs)) (Value.ref (hp.objs.size + 1) :: (us ++ ds)) := .cons rfl (r1.append hd)
  have hl : (Value.ref (hp.objs.size + 1) :: us ++ ds).length = ps.length := by
    have e := r2.length
    rw [F1.len _ _ _ _ hq] at e
    exact e.symm
  have hus : us.length ≤ sizeLine := by
    rw [← Paired.length r1, sizeLine_eq]
    omega
  refine wpAny_call (PySem.HandSPX.call_own F.excBase_ValueError (fun Y => PySem.HandSPX.refsVE_contains Y bm hbm) (I1.kIn _ _ hC) (PySem.W.looks_findIn I1.kIn iC) (fun self => PySem.W.bind_fn I1.kIn self tI) hus
    (codeAny_mono (F1.run _ X.stack _ _ ⟨Value.ref (hp.objs.size + 1) :: us, []⟩ (Value.ref (hp.objs.size + 1) :: (us ++ ds)) _ _ (fun _ _ _ => False) (hr.make C us []) (I2.env0.make C us []) (hb _ (Value.ref (hp.objs.size + 1) :: us) I2.kIn hl) r2 hq) fun r s' hq' => ?_))
  cases r with
  | error er => exact hx pins σ _ _ er s' I2 hq'
  | ok fl =>
    cases fl with
    | ret u =>
      obtain ⟨v, H2, os2, bare2, un2, hok2, rv, ev, d, fs, ea, ed, hd1, q2⟩ := hq'
      subst ev
      obtain ⟨h2, g2, d2, t2, os'⟩ := s'
      exact ⟨rv, L2N.mk_end (raises_own T.exC T.tyC) I1 hsz kk un2 hok2 os2 bare2 ea ed hd1 q2⟩
    | next => exact False.elim hq'
    | brk => exact False.elim hq'
    | cont => exact False.elim hq'
end L2N
namespace L2N
open PySem PySem.Spec PyProof.Rows L2
theorem passL {X : Cx} : Passes (L2N.CX X.prog X.w) X E0 := fun _ _ _ _ _ _ _ h => by
  obtain ⟨_, _, _, _, _, _, _, _, _, _, _, _, z⟩ := h
  exact z.elim
theorem takes0 {X : Cx} : Takes X (fun _ _ _ _ => False) := fun _ _ x => by
  obtain ⟨_, _, _, _, _, _, _, _, _, _, _, _, _, _, _, _, z⟩ := x
  exact z.elim
end L2N
namespace L2
open PySem PySem.Spec PyProof.Rows
theorem Fun.okN {P : Program} {w : World} {K : PySem.W.Frag} {mg : Str → Option Value} {base : Heap} {x qual : Str} {st : Stmt} {f : Addr} {fd : FuncData} {N ps : List Str} {k : Nat} {sp : Sp} (F : Fun K x qual st f fd) (S : FnScope N ps (defScope st)) (len : ∀ vs H Q E, sp vs H Q E → vs.length = ps.length)
    (hbody : ∀ (cdv : Value) (A : Around) (outer : List Env) (s : Shared) (H : Hp) (vs : List V) (Q : VK) (E : XK), Room k (A.deeper (envOfC qual (defScope st) s.heap.objs.size f cdv)) → sp vs H Q E →
      ∃ t, PSs (cxOf (L2N.CX P w) P w K mg base N qual (defScope st) f cdv A outer s H E) (defBody st) t ∧ t { nx := fun _ H' => Q .non H', rt := Q } (start N vs) H) : FnOk P w K mg base (L2N.CX P w) (k + 1) f fd ps sp := by
  obtain ⟨oc, od, kV, doc, pm, an, cdv, ct, osl, rfl, lk, hcd⟩ := F.ex
  exact fn_of lk hcd S len fun A outer s H vs Q E hr hsp => hbody cdv A outer s H vs Q E hr hsp
end L2
namespace L2H
open PySem PySem.Spec PyProof.Rows L2
end L2H

/-! objects that change: dicts, fields, what stays -/
namespace Rd
open PySem PySem.Spec PyProof.Rows L2 Evl Dk
section
variable {X : Cx} {σ : L2.St} {H H' : Hp} {Q : VK} {td ty tv te : TE} {x y v : V} {a : Addr} {kvs : List (Key × V)} {i : Int} {z : Str} {D : Ends} {K : PySem.W.Frag} {o : Option V} {b : Bool}
def xDGet (x y : V) (H : Hp) (Q : VK) : Prop := ∃ a v, x = .ref a ∧ DGet H a y (some v) ∧ Q v H
theorem dget (h : td σ H fun x H1 => ty σ H1 fun y H2 => xDGet x y H2 Q) : tDGet td ty σ H Q := h
theorem dgetI (h : H a = some (.dK kvs)) : DGet H a (.int i) (valV kvs (.inl i)) := DGet.k (k := .inl i) h
theorem dgetS (h : H a = some (.dK kvs)) : DGet H a (.str z) (valV kvs (.inr z)) := DGet.k (k := .inr z) h
theorem xdget (h : H a = some (.dK kvs)) (e : valV kvs (.inl i) = some v) (q : Q v H) : xDGet (.ref a) (.int i) H Q := ⟨a, v, rfl, by have g := dgetI (i := i) h; rw [e] at g; exact g, q⟩
theorem xdgetS (h : H a = some (.dK kvs)) (e : valV kvs (.inr z) = some v) (q : Q v H) : xDGet (.ref a) (.str z) H Q := ⟨a, v, rfl, by have g := dgetS (z := z) h; rw [e] at g; exact g, q⟩
def xIsD (x : V) (H : Hp) (P : Addr → Prop) : Prop := ∃ a, x = .ref a ∧ IsD H a ∧ P a
def xDO (a : Addr) (y : V) (H : Hp) (Q : VK) : Prop := ∃ o, DGet H a y o ∧ Q (o.getD .non) H
theorem dget1 (h : td σ H fun x H1 => xIsD x H1 fun a => ty σ H1 fun y H2 => xDO a y H2 Q) : tDGet1 td ty σ H Q := h
theorem xisd {P : Addr → Prop} (h : H a = some (.dK kvs)) (p : P a) : xIsD (.ref a) H P := ⟨a, rfl, .inl ⟨kvs, .inl h⟩, p⟩
theorem xdo (h : H a = some (.dK kvs)) (e : valV kvs (.inl i) = o) (q : Q (o.getD .non) H) : xDO a (.int i) H Q := ⟨_, dgetI h, by rw [e]; exact q⟩
def xDIn (x y : V) (H : Hp) (Q : VK) : Prop := ∃ a o, x = .ref a ∧ DGet H a y o ∧ Q (.bl o.isSome) H
theorem din (h : ty σ H fun y H1 => td σ H1 fun x H2 => xDIn x y H2 Q) : tDIn ty td σ H Q := h
theorem xdin (h : H a = some (.dK kvs)) (e : (valV kvs (.inl i)).isSome = b) (q : Q (.bl b) H) : xDIn (.ref a) (.int i) H Q := ⟨a, _, rfl, dgetI h, by rw [e]; exact q⟩
def xDPut (x y v : V) (H : Hp) (N : Hp → Prop) : Prop := ∃ a H4, x = .ref a ∧ DPut H a y v H4 ∧ N H4
theorem dput (h : tv σ H fun v H1 => td σ H1 fun x H2 => ty σ H2 fun y H3 => xDPut x y v H3 fun H4 => D.nx σ H4) : sDPut td ty tv D σ H := h
theorem small {n : Nat} (h : n ≤ 10000) : n < sizeLine := Nat.lt_of_le_of_lt h (by decide)
theorem xdput {N : Hp → Prop} (h : H a = some (.dK kvs)) (l : kvs.length ≤ 10000) (q : N (upd H a (.dK (putK kvs (.inl i) v)))) : xDPut (.ref a) (.int i) v H N := ⟨a, _, rfl, DPut.k (k := .inl i) h (small l), q⟩
theorem xdputS {N : Hp → Prop} (h : H a = some (.dK kvs)) (l : kvs.length ≤ 10000) (q : N (upd H a (.dK (putK kvs (.inr z) v)))) : xDPut (.ref a) (.str z) v H N := ⟨a, _, rfl, DPut.k (k := .inr z) h (small l), q⟩
theorem dnewE (q : ∀ p H', H p = none → Ex H H' → H' p = some (.dK []) → Q (.ref p) H') : tDNewK σ H Q := fun p hp => q p _ hp (Ex.new hp) upd_same
theorem dnew (q : ∀ p, H p = none → Q (.ref p) (upd H p (.dK []))) : tDNewK σ H Q := q
def rLenD : List V → Hp → VK → Prop := fun xs H Q => ∃ a kvs, xs = [.ref a] ∧ H a = some (.dK kvs) ∧ Q (.int kvs.length) H
theorem c_lenD : CallR X (.builtin "len") rLenD := call_lenD
theorem lenD (h : H a = some (.dK kvs)) (q : Q (.int kvs.length) H) : rLenD [.ref a] H Q := ⟨a, kvs, rfl, h, q⟩
theorem isB {a b : Bool} (q : Q (.bl (decide (a = b))) H) : rIsB (.bl a) (.bl b) H Q := ⟨a, b, rfl, rfl, q⟩
theorem notB {a b : Bool} (q : Q (.bl (!decide (a = b))) H) : rNotB (.bl a) (.bl b) H Q := ⟨a, b, rfl, rfl, q⟩
def xFA (K : PySem.W.Frag) (f : Str) (x : V) (H : Hp) (N : V → Addr → Addr → Prop) : Prop := ∃ (a C : Addr) (dx : Addr) (fs : List (Str × V)) (v : V), x = .ref a ∧ H a = some (.ins C dx fs) ∧ Cls K C ∧ NoAttr K C f ∧ fs.lookup f = some v ∧ N v a C
def xFB (f : Str) (a C : Addr) (z : V) (H : Hp) (N : Hp → Prop) : Prop := ∃ dx' fs', H a = some (.ins C dx' fs') ∧ fs'.length < 1000 ∧ N (upd H a (.ins C dx' (putF f z fs')))
theorem fldaug {rd : V → V → Hp → VK → Prop} {f : Str} (h : te σ H fun x H1 => xFA K f x H1 fun v a C => tv σ H1 fun y H2 => rd v y H2 fun z H3 => xFB f a C z H3 fun H4 => D.nx σ H4) : sFldAug K te tv rd f D σ H := h
theorem xfa {N : V → Addr → Addr → Prop} {f : Str} {C dx : Addr} {fs : List (Str × V)} (h : H a = some (.ins C dx fs)) (c : Cls K C) (n : NoAttr K C f) (l : fs.lookup f = some v) (q : N v a C) : xFA K f (.ref a) H N := ⟨a, C, dx, fs, v, rfl, h, c, n, l, q⟩
theorem xfb {N : Hp → Prop} {f : Str} {C dx : Addr} {fs : List (Str × V)} (h : H a = some (.ins C dx fs)) (l : fs.length < 1000) (q : N (upd H a (.ins C dx (putF f v fs)))) : xFB f a C v H N := ⟨dx, fs, h, l, q⟩
theorem radd {j : Int} (q : Q (.int (i + j)) H) : rAdd (.int i) (.int j) H Q := ⟨i, j, rfl, rfl, q⟩
theorem whl {c : TT} {tb : TS} (h : ∃ W : Nat → L2.St → Hp → Prop, (∃ m, W m σ H) ∧ ∀ m σ H, W m σ H →
  c σ H fun b H1 => if b = true then ∃ N : L2.St → Hp → Prop, (∀ σ' H', N σ' H' → ∃ m', m' < m ∧ W m' σ' H') ∧ tb { D with nx := N, ct := N, bk := D.nx } σ H1 else D.nx σ H1) : tWhile c tb D σ H := h
theorem pe_or {e : Expr} {t1 t2 : TE} (h1 : PE X e t1) (h2 : PE X e t2) : PE X e (fun σ H Q => t1 σ H Q ∨ t2 σ H Q) := ⟨fun pins s σ H Q I h => h.elim (h1.run pins s σ H Q I) (h2.run pins s σ H Q I)⟩
end
end Rd


local macro_rules | `(tactic| walk_at "hp") => `(tactic| first
  | assumption | exact L2.upd_same | (refine (by assumption : Evl.Ex _ _) _ _ ?_; walk_at "hp")
  | (refine (L2.upd_ne (by assumption)).trans ?_; walk_at "hp") | (refine (L2.upd_ne (Ne.symm (by assumption))).trans ?_; walk_at "hp") | (refine (L2.upd_ne (L2.ne_of (by assumption) (by assumption) (by intro z; cases z))).trans ?_; walk_at "hp"))
local macro_rules | `(tactic| walk_at "sq") => `(tactic| first | assumption | exact L2.SqL.of (by walk_at "hp") | exact L2.SqT.of (by walk_at "hp"))
local macro_rules | `(tactic| walk_at "rd1") => `(tactic| with_reducible first
  | refine Rd.seq ?_ | refine Rd.asg ?_ | refine Rd.gnm ?_ | refine Rd.ifS ?_ | refine Rd.ret ?_ | refine Rd.retN ?_ | refine Rd.drop ?_ | refine Rd.nxt ?_ | refine Rd.brk ?_ | refine Rd.cnt ?_
  | refine Rd.var rfl ?_ | refine Rd.c ?_ | refine Rd.op ?_ | refine Rd.i0 ?_ | refine Rd.un ?_ | refine Rd.u0 ?_
  | refine Rd.test ?_ | refine Rd.tbv ?_ | refine Rd.xt ?_ | refine Rd.andT ?_ | refine Rd.orT ?_ | refine Rd.notT ?_ | refine Rd.andV ?_ | refine Rd.orV ?_ | refine Rd.notV ?_ | refine Rd.ifE ?_ | refine Rd.chain ?_
  | refine Rd.nil ?_ | refine Rd.cons ?_ | refine Rd.cb ?_ | refine Rd.call ?_ | refine Rd.tup ?_ | refine Rd.lst ?_ | refine Rd.fld ?_ | refine Rd.meth ?_ | refine Rd.bm ?_ | refine Rd.bm0 ?_
  | refine Rd.eqI ?_ | refine Rd.neI ?_ | refine Rd.eqS ?_ | refine Rd.neS ?_ | refine Rd.isN_non ?_ | refine Rd.isN_int ?_ | refine Rd.isN_ref ?_ | refine Rd.isN_str ?_ | refine Rd.notN_non ?_ | refine Rd.notN_int ?_ | refine Rd.notN_ref ?_ | refine Rd.notN_str ?_
  | refine Rd.mkO ?_ | refine Rd.jn ?_ | refine Rd.jsC ?_ | refine Rd.jsN ?_ | refine Rd.fmt ?_ | refine Rd.sl ?_ | refine Rd.poN ?_ | refine Rd.poS ?_ | refine Rd.xpart ?_ | refine Rd.ifTT ?_ | refine Rd.ifFF ?_ | refine Rd.ifNTT ?_ | refine Rd.ifNFF ?_
  | refine Rd.int ?_ | refine Rd.intB ?_ | refine Rd.abs ?_ | refine Rd.max2 ?_ | refine Rd.min2 ?_
  | refine Rd.sfld ?_ | refine Rd.forS ?_ | refine Rd.lcS ?_ | refine Rd.lcT ?_ | refine Rd.m1 ?_ | refine Rd.m0 ?_ | refine Rd.xiss ?_ | refine Rd.find ?_ | refine Rd.listRg1 ?_ | refine Rd.lcR1 ?_ | refine Rd.lcL ?_ | refine Rd.listRg2 ?_ | refine Rd.eqB ?_ | refine Rd.neB ?_ | refine Rd.xf ?_ | refine Rd.vei ?_ | refine Rd.ost ?_ | refine Rd.makeS ?_ | refine Rd.callS ?_ | refine Rd.make ?_ | refine Rd.forR1 ?_ | refine Rd.forR2 ?_ | refine Rd.forL ?_ | refine Rd.forT ?_ | refine Rd.par ?_ | refine Rd.par2 ?_ | refine Rd.gcons ?_ | refine Rd.gnil ?_ | refine Rd.gsub ?_ | refine Rd.ipi ?_ | refine Rd.aug rfl ?_)
local macro_rules | `(tactic| walk_at "rd2") => `(tactic| first
  | ((with_reducible refine' Rd.pw (m := 1000000) (i := 10) (j := 6) ?c1 ?e1 ?_); (case c1 => exact ⟨by decide, by decide, by decide⟩); (case e1 => decide)) | ((with_reducible refine' Rd.pw (m := 1000000000000) (i := 10) (j := 12) ?c1 ?e1 ?_); (case c1 => exact ⟨by decide, by decide, by decide⟩); (case e1 => decide)) | ((with_reducible refine' Rd.pw (m := 1000000000000000000000000000000) (i := 10) (j := 30) ?c1 ?e1 ?_); (case c1 => exact ⟨by decide, by decide, by decide⟩); (case e1 => decide))
  | ((with_reducible refine' Rd.pw (m := 10000000000000000000000000000000) (i := 10) (j := 31) ?c1 ?e1 ?_); (case c1 => exact ⟨by decide, by decide, by decide⟩); (case e1 => decide)) | ((with_reducible refine' Rd.pw (m := 10000000000000000000000000000000000000000) (i := 10) (j := 40) ?c1 ?e1 ?_); (case c1 => exact ⟨by decide, by decide, by decide⟩); (case e1 => decide)) | ((with_reducible refine' Rd.pw (m := 100000000000000000000) (i := 10) (j := 20) ?c1 ?e1 ?_); (case c1 => exact ⟨by decide, by decide, by decide⟩); (case e1 => decide)) | ((with_reducible refine' Rd.pw (m := 10000000000000000000000000000000000000000000000000000000000000000) (i := 10) (j := 64) ?c1 ?e1 ?_); (case c1 => exact ⟨by decide, by decide, by decide⟩); (case e1 => decide)) | ((with_reducible refine' Rd.pw (m := 10000) (i := 10) (j := 4) ?c1 ?e1 ?_); (case c1 => exact ⟨by decide, by decide, by decide⟩); (case e1 => decide)) | ((with_reducible refine' Rd.pw (m := 100) (i := 10) (j := 2) ?c1 ?e1 ?_); (case c1 => exact ⟨by decide, by decide, by decide⟩); (case e1 => decide))
  | (with_reducible refine' Rd.isiInt (b := true) ?k1 ?_); (case k1 => rfl)
  | (with_reducible refine' Rd.isiInt (b := false) ?k1 ?_); (case k1 => rfl)
  | (with_reducible refine' Rd.isiBl (b := true) ?k1 ?_); (case k1 => rfl)
  | (with_reducible refine' Rd.isiBl (b := false) ?k1 ?_); (case k1 => rfl)
  | (with_reducible refine' Rd.isiStr (b := true) ?k1 ?_); (case k1 => rfl)
  | (with_reducible refine' Rd.isiStr (b := false) ?k1 ?_); (case k1 => rfl)
  | (with_reducible refine' Rd.isiNon (b := true) ?k1 ?_); (case k1 => rfl)
  | (with_reducible refine' Rd.isiNon (b := false) ?k1 ?_); (case k1 => rfl)
  | (with_reducible refine' Rd.isiLst (b := true) ?h1 ?k1 ?_); (case h1 => walk_at "hp"); (case k1 => rfl)
  | (with_reducible refine' Rd.isiLst (b := false) ?h1 ?k1 ?_); (case h1 => walk_at "hp"); (case k1 => rfl)
  | (with_reducible refine' Rd.isiTup (b := true) ?h1 ?k1 ?_); (case h1 => walk_at "hp"); (case k1 => rfl)
  | (with_reducible refine' Rd.isiTup (b := false) ?h1 ?k1 ?_); (case h1 => walk_at "hp"); (case k1 => rfl)
  | (with_reducible refine' Rd.isiSqT (b := true) ?s1 ?k1 ?_); (case s1 => walk_at "sq"); (case k1 => rfl)
  | (with_reducible refine' Rd.isiSqT (b := false) ?s1 ?k1 ?_); (case s1 => walk_at "sq"); (case k1 => rfl)
  | (with_reducible refine' Rd.isiSqL (b := true) ?s1 ?k1 ?_); (case s1 => walk_at "sq"); (case k1 => rfl)
  | (with_reducible refine' Rd.isiSqL (b := false) ?s1 ?k1 ?_); (case s1 => walk_at "sq"); (case k1 => rfl)
  | (with_reducible refine' Rd.i1 ?c1 ?_); (case c1 => first | assumption | (show (0 : Int) < _; omega) | decide | exact .inl (by decide) | exact .inr (by decide) | exact .inr ⟨by omega, by omega⟩ | exact .inl ⟨by omega, by omega⟩ | exact ⟨by decide, by decide⟩)
  | (with_reducible refine' Rd.len ?s1 ?_); (case s1 => walk_at "sq")
  | (with_reducible refine' Rd.lenT ?s1 ?_); (case s1 => walk_at "sq")
  | (with_reducible refine' Rd.xtyL ?s1 ?_); (case s1 => walk_at "sq")
  | (with_reducible refine' Rd.ixL ?s1 ?a1 ?_); (case s1 => walk_at "sq"); (case a1 => rfl)
  | (with_reducible refine' Rd.ixT ?s1 ?a1 ?_); (case s1 => walk_at "sq"); (case a1 => rfl)
  | (with_reducible refine' Rd.gtup ?s1 ?n1 ?_); (case s1 => walk_at "sq"); (case n1 => rfl)
  | (with_reducible refine' Rd.rfld ?h1 ?c1 ?n1 ?l1 ?_); (case h1 => walk_at "hp"); (case c1 => assumption); (case n1 => assumption); (case l1 => walk_at "lk")
  | (with_reducible refine' Rd.xmeth ?h1 ?l1 ?_); (case h1 => walk_at "hp"); (case l1 => walk_at "lk")
  | (with_reducible refine' Rd.xst ?h1 ?c1 ?n1 ?l1 ?_); (case h1 => walk_at "hp"); (case c1 => assumption); (case n1 => assumption); (case l1 => rfl)
  | (with_reducible refine' Rd.take ?h1 ?m1 ?_); (case h1 => walk_at "hp"); (case m1 => omega)
  | ((with_reducible refine' Rd.tupOfL ?s1 ?_); (case s1 => walk_at "sq")) | ((with_reducible refine' Rd.tupOfT ?s1 ?_); (case s1 => walk_at "sq"))
  | (with_reducible refine Rd.ifT (by assumption) ?_) | (with_reducible refine Rd.ifF (by assumption) ?_) | (with_reducible refine Rd.ifNT (by assumption) ?_) | (with_reducible refine Rd.ifNF (by assumption) ?_)
  | (with_reducible refine Rd.ifT rfl ?_) | (with_reducible refine Rd.ifNF rfl ?_)
  | (with_reducible refine Rd.ifT (by omega) ?_) | (with_reducible refine Rd.ifF (by omega) ?_) | (with_reducible refine Rd.ifNT (by omega) ?_) | (with_reducible refine Rd.ifNF (by omega) ?_)
  | ((with_reducible refine Rd.ifT ?p1 ?_); (case p1 => decide +kernel)) | ((with_reducible refine Rd.ifF ?p1 ?_); (case p1 => decide +kernel)) | ((with_reducible refine Rd.ifNT ?p1 ?_); (case p1 => decide +kernel)) | ((with_reducible refine Rd.ifNF ?p1 ?_); (case p1 => decide +kernel)))
local macro_rules | `(tactic| walk_at "rd") => `(tactic| repeat (first | walk_at "rd1" | walk_at "rd2"))

local macro_rules | `(tactic| walk_at "rd1") => `(tactic| with_reducible first
  | refine Rd.dget ?_ | refine Rd.dget1 ?_ | refine Rd.din ?_ | refine Rd.dput ?_ | refine Rd.isB ?_ | refine Rd.notB ?_ | refine Rd.fldaug ?_ | refine Rd.radd ?_)
local macro_rules | `(tactic| walk_at "rd2") => `(tactic| first
  | ((with_reducible refine' Rd.lenD ?h1 ?_); (case h1 => walk_at "hp")) | ((with_reducible refine' Rd.xisd ?h1 ?_); (case h1 => walk_at "hp"))
  | ((with_reducible refine' Rd.xfa ?h1 ?c1 ?n1 ?l1 ?_); (case h1 => walk_at "hp"); (case c1 => assumption); (case n1 => assumption); (case l1 => walk_at "lk")))

namespace Toy
open PySem L2
def top (i : Nat) : Stmt := PySem.Challenge.pw_surebridge_k13_maps_refused.main.body.getD i (.Pass ⟨0, 0, 0, 0⟩)
abbrev s_law_take : Stmt := top 17
theorem sc_law_take : FnScope ["deck", "many"] ["deck", "many"] (defScope s_law_take) := ⟨rfl, rfl, rfl, by decide +kernel, rfl, by decide +kernel, by decide +kernel⟩
abbrev s_law_deck : Stmt := top 16
theorem sc_law_deck : FnScope ["script", "cells", "each", "deck", "seed", "k", "cell", "rest", "at"] ["script", "cells", "each"] (defScope s_law_deck) := ⟨rfl, rfl, rfl, by decide +kernel, rfl, by decide +kernel, by decide +kernel⟩
abbrev s_InvalidMap_init_ : Stmt := inClass (top 3) 0
theorem sc_InvalidMap_init_ : FnScope ["self", "what"] ["self", "what"] (defScope s_InvalidMap_init_) := ⟨rfl, rfl, rfl, by decide +kernel, rfl, by decide +kernel, by decide +kernel⟩
abbrev s_law_whole : Stmt := top 18
theorem sc_law_whole : FnScope ["deck", "digit", "small"] ["deck"] (defScope s_law_whole) := ⟨rfl, rfl, rfl, by decide +kernel, rfl, by decide +kernel, by decide +kernel⟩
abbrev s_law_parts : Stmt := top 19
theorem sc_law_parts : FnScope ["deck", "most", "period", "rows", "at", "row", "low", "wide"] ["deck", "most"] (defScope s_law_parts) := ⟨rfl, rfl, rfl, by decide +kernel, rfl, by decide +kernel, by decide +kernel⟩
abbrev s_law_word : Stmt := top 20
theorem sc_law_word : FnScope ["deck", "signs", "most", "word", "k"] ["deck", "signs", "most"] (defScope s_law_word) := ⟨rfl, rfl, rfl, by decide +kernel, rfl, by decide +kernel, by decide +kernel⟩
abbrev s_law_machine : Stmt := top 21
theorem sc_law_machine : FnScope ["deck", "letters", "signs", "most", "states", "rows", "ends", "state", "row", "letter", "step", "end"] ["deck", "letters", "signs", "most"] (defScope s_law_machine) := ⟨rfl, rfl, rfl, by decide +kernel, rfl, by decide +kernel, by decide +kernel⟩
abbrev s_NumberMap_init_ : Stmt := inClass (top 14) 0
theorem sc_NumberMap_init_ : FnScope ["self", "period", "rows", "row"] ["self", "period", "rows"] (defScope s_NumberMap_init_) := ⟨rfl, rfl, rfl, by decide +kernel, rfl, by decide +kernel, by decide +kernel⟩
abbrev s_check_machine : Stmt := top 9
theorem sc_check_machine : FnScope ["letters", "rows", "ends", "at", "row", "taken"] ["letters", "rows", "ends"] (defScope s_check_machine) := ⟨rfl, rfl, rfl, by decide +kernel, rfl, by decide +kernel, by decide +kernel⟩
abbrev s_TextMap_init_ : Stmt := inClass (top 10) 0
theorem sc_TextMap_init_ : FnScope ["self", "letters", "rows", "ends", "row"] ["self", "letters", "rows", "ends"] (defScope s_TextMap_init_) := ⟨rfl, rfl, rfl, by decide +kernel, rfl, by decide +kernel, by decide +kernel⟩
abbrev s_CodeMap_init_ : Stmt := inClass (top 12) 0
theorem sc_CodeMap_init_ : FnScope ["self", "images", "image"] ["self", "images"] (defScope s_CodeMap_init_) := ⟨rfl, rfl, rfl, by decide +kernel, rfl, by decide +kernel, by decide +kernel⟩
abbrev s_law_build : Stmt := top 22
theorem sc_law_build : FnScope ["kind", "parts"] ["kind", "parts"] (defScope s_law_build) := ⟨rfl, rfl, rfl, by decide +kernel, rfl, by decide +kernel, by decide +kernel⟩
abbrev s_law_copied : Stmt := top 26
theorem sc_law_copied : FnScope ["kind", "parts", "row"] ["kind", "parts"] (defScope s_law_copied) := ⟨rfl, rfl, rfl, by decide +kernel, rfl, by decide +kernel, by decide +kernel⟩
abbrev s_law_outcome : Stmt := top 23
theorem sc_law_outcome : FnScope ["kind", "parts", "e", "right", "other"] ["kind", "parts"] (defScope s_law_outcome) := ⟨rfl, rfl, rfl, by decide +kernel, rfl, by decide +kernel, by decide +kernel⟩
abbrev s_law_right : Stmt := top 27
theorem sc_law_right : FnScope ["kind", "parts", "expected", "handed"] ["kind", "parts", "expected"] (defScope s_law_right) := ⟨rfl, rfl, rfl, by decide +kernel, rfl, by decide +kernel, by decide +kernel⟩
abbrev s_law_spoilt_numbers : Stmt := top 24
theorem sc_law_spoilt_numbers : FnScope ["deck", "parts", "period", "rows", "digit", "at", "low"] ["deck", "parts"] (defScope s_law_spoilt_numbers) := ⟨rfl, rfl, rfl, by decide +kernel, rfl, by decide +kernel, by decide +kernel⟩
abbrev s_law_spoilt_texts : Stmt := top 25
theorem sc_law_spoilt_texts : FnScope ["deck", "parts", "letters", "rows", "ends", "row", "state", "at", "digit", "sign", "goal"] ["deck", "parts"] (defScope s_law_spoilt_texts) := ⟨rfl, rfl, rfl, by decide +kernel, rfl, by decide +kernel, by decide +kernel⟩
abbrev s_law : Stmt := top 28
theorem sc_law : FnScope ["script", "deck", "numbers", "letters", "texts", "codes", "k", "good", "bad", "at", "kind", "last", "letter", "row", "low"] ["script"] (defScope s_law) := ⟨rfl, rfl, rfl, by decide +kernel, rfl, by decide +kernel, by decide +kernel⟩
/-- where things stand -/
structure Ad where
  a_law_take : Addr
  d_law_take : FuncData
  a_law_deck : Addr
  d_law_deck : FuncData
  a_InvalidMap_init_ : Addr
  d_InvalidMap_init_ : FuncData
  a_law_whole : Addr
  d_law_whole : FuncData
  a_law_parts : Addr
  d_law_parts : FuncData
  a_law_word : Addr
  d_law_word : FuncData
  a_law_machine : Addr
  d_law_machine : FuncData
  a_NumberMap_init_ : Addr
  d_NumberMap_init_ : FuncData
  a_check_machine : Addr
  d_check_machine : FuncData
  a_TextMap_init_ : Addr
  d_TextMap_init_ : FuncData
  a_CodeMap_init_ : Addr
  d_CodeMap_init_ : FuncData
  a_law_build : Addr
  d_law_build : FuncData
  a_law_copied : Addr
  d_law_copied : FuncData
  a_law_outcome : Addr
  d_law_outcome : FuncData
  a_law_right : Addr
  d_law_right : FuncData
  a_law_spoilt_numbers : Addr
  d_law_spoilt_numbers : FuncData
  a_law_spoilt_texts : Addr
  d_law_spoilt_texts : FuncData
  a_law : Addr
  d_law : FuncData
  c_BridgeError : Addr
  c_CodeMap : Addr
  c_InvalidLanguage : Addr
  c_InvalidMap : Addr
  c_InvalidProgram : Addr
  c_InvalidRow : Addr
  c_InvalidTable : Addr
  c_NumberMap : Addr
  c_TextMap : Addr
/-- what the top has written -/
structure Txt (K : PySem.W.Frag) (mg : Str → Option Value) (ad : Ad) : Prop where
  F_law_take : Fun K "_law_take" "_law_take" s_law_take ad.a_law_take ad.d_law_take
  b_law_take : Binds K ad.d_law_take ["deck", "many"] []
  m_law_take : mg "_law_take" = some (.ref ad.a_law_take)
  F_law_deck : Fun K "_law_deck" "_law_deck" s_law_deck ad.a_law_deck ad.d_law_deck
  b_law_deck : Binds K ad.d_law_deck ["script", "cells", "each"] []
  m_law_deck : mg "_law_deck" = some (.ref ad.a_law_deck)
  F_InvalidMap_init_ : Fun K "__init__" "InvalidMap.__init__" s_InvalidMap_init_ ad.a_InvalidMap_init_ ad.d_InvalidMap_init_
  b_InvalidMap_init_ : Binds K ad.d_InvalidMap_init_ ["self", "what"] []
  F_law_whole : Fun K "_law_whole" "_law_whole" s_law_whole ad.a_law_whole ad.d_law_whole
  b_law_whole : Binds K ad.d_law_whole ["deck"] []
  m_law_whole : mg "_law_whole" = some (.ref ad.a_law_whole)
  F_law_parts : Fun K "_law_parts" "_law_parts" s_law_parts ad.a_law_parts ad.d_law_parts
  b_law_parts : Binds K ad.d_law_parts ["deck", "most"] []
  m_law_parts : mg "_law_parts" = some (.ref ad.a_law_parts)
  F_law_word : Fun K "_law_word" "_law_word" s_law_word ad.a_law_word ad.d_law_word
  b_law_word : Binds K ad.d_law_word ["deck", "signs", "most"] []
  m_law_word : mg "_law_word" = some (.ref ad.a_law_word)
  F_law_machine : Fun K "_law_machine" "_law_machine" s_law_machine ad.a_law_machine ad.d_law_machine
  b_law_machine : Binds K ad.d_law_machine ["deck", "letters", "signs", "most"] []
  m_law_machine : mg "_law_machine" = some (.ref ad.a_law_machine)
  F_NumberMap_init_ : Fun K "__init__" "NumberMap.__init__" s_NumberMap_init_ ad.a_NumberMap_init_ ad.d_NumberMap_init_
  b_NumberMap_init_ : Binds K ad.d_NumberMap_init_ ["self", "period", "rows"] []
  F_check_machine : Fun K "check_machine" "check_machine" s_check_machine ad.a_check_machine ad.d_check_machine
  b_check_machine : Binds K ad.d_check_machine ["letters", "rows", "ends"] []
  m_check_machine : mg "check_machine" = some (.ref ad.a_check_machine)
  F_TextMap_init_ : Fun K "__init__" "TextMap.__init__" s_TextMap_init_ ad.a_TextMap_init_ ad.d_TextMap_init_
  b_TextMap_init_ : Binds K ad.d_TextMap_init_ ["self", "letters", "rows", "ends"] []
  F_CodeMap_init_ : Fun K "__init__" "CodeMap.__init__" s_CodeMap_init_ ad.a_CodeMap_init_ ad.d_CodeMap_init_
  b_CodeMap_init_ : Binds K ad.d_CodeMap_init_ ["self", "images"] []
  F_law_build : Fun K "_law_build" "_law_build" s_law_build ad.a_law_build ad.d_law_build
  b_law_build : Binds K ad.d_law_build ["kind", "parts"] []
  m_law_build : mg "_law_build" = some (.ref ad.a_law_build)
  F_law_copied : Fun K "_law_copied" "_law_copied" s_law_copied ad.a_law_copied ad.d_law_copied
  b_law_copied : Binds K ad.d_law_copied ["kind", "parts"] []
  m_law_copied : mg "_law_copied" = some (.ref ad.a_law_copied)
  F_law_outcome : Fun K "_law_outcome" "_law_outcome" s_law_outcome ad.a_law_outcome ad.d_law_outcome
  b_law_outcome : Binds K ad.d_law_outcome ["kind", "parts"] []
  m_law_outcome : mg "_law_outcome" = some (.ref ad.a_law_outcome)
  F_law_right : Fun K "_law_right" "_law_right" s_law_right ad.a_law_right ad.d_law_right
  b_law_right : Binds K ad.d_law_right ["kind", "parts", "expected"] []
  m_law_right : mg "_law_right" = some (.ref ad.a_law_right)
  F_law_spoilt_numbers : Fun K "_law_spoilt_numbers" "_law_spoilt_numbers" s_law_spoilt_numbers ad.a_law_spoilt_numbers ad.d_law_spoilt_numbers
  b_law_spoilt_numbers : Binds K ad.d_law_spoilt_numbers ["deck", "parts"] []
  m_law_spoilt_numbers : mg "_law_spoilt_numbers" = some (.ref ad.a_law_spoilt_numbers)
  F_law_spoilt_texts : Fun K "_law_spoilt_texts" "_law_spoilt_texts" s_law_spoilt_texts ad.a_law_spoilt_texts ad.d_law_spoilt_texts
  b_law_spoilt_texts : Binds K ad.d_law_spoilt_texts ["deck", "parts"] []
  m_law_spoilt_texts : mg "_law_spoilt_texts" = some (.ref ad.a_law_spoilt_texts)
  F_law : Fun K "law" "law" s_law ad.a_law ad.d_law
  b_law : Binds K ad.d_law ["script"] []
  m_law : mg "law" = some (.ref ad.a_law)
  cl_CodeMap : Cls K ad.c_CodeMap
  mg_CodeMap : mg "CodeMap" = some (.ref ad.c_CodeMap)
  mk_CodeMap : Mk K ad.c_CodeMap ad.a_CodeMap_init_
  n_CodeMap_images : NoAttr K ad.c_CodeMap "images"
  cl_NumberMap : Cls K ad.c_NumberMap
  mg_NumberMap : mg "NumberMap" = some (.ref ad.c_NumberMap)
  mk_NumberMap : Mk K ad.c_NumberMap ad.a_NumberMap_init_
  n_NumberMap_period : NoAttr K ad.c_NumberMap "period"
  n_NumberMap_rows : NoAttr K ad.c_NumberMap "rows"
  cl_TextMap : Cls K ad.c_TextMap
  mg_TextMap : mg "TextMap" = some (.ref ad.c_TextMap)
  mk_TextMap : Mk K ad.c_TextMap ad.a_TextMap_init_
  n_TextMap_ends : NoAttr K ad.c_TextMap "ends"
  n_TextMap_letters : NoAttr K ad.c_TextMap "letters"
  n_TextMap_rows : NoAttr K ad.c_TextMap "rows"
  mg_BridgeError : mg "BridgeError" = some (.ref ad.c_BridgeError)
  ov_BridgeError : OvB K ad.c_BridgeError
  mg_InvalidLanguage : mg "InvalidLanguage" = some (.ref ad.c_InvalidLanguage)
  mg_InvalidMap : mg "InvalidMap" = some (.ref ad.c_InvalidMap)
  ox_InvalidMap : OexC K ad.c_InvalidMap
  ix_InvalidMap : PySem.W.findIn K (.ref ad.c_InvalidMap) "__init__" = some (some (.ref ad.a_InvalidMap_init_))
  tx_InvalidMap : PySem.W.typeIn K (.ref ad.a_InvalidMap_init_) = some (.type "function")
  xd_InvalidMap : ExD K ad.c_InvalidMap
  mg_InvalidProgram : mg "InvalidProgram" = some (.ref ad.c_InvalidProgram)
  mg_InvalidRow : mg "InvalidRow" = some (.ref ad.c_InvalidRow)
  mg_InvalidTable : mg "InvalidTable" = some (.ref ad.c_InvalidTable)
  nx_InvalidMap_what : PySem.W.findIn K (.ref ad.c_InvalidMap) "what" = some none
  em_InvalidMap_InvalidMap : PySem.W.exmOne K (.ref ad.c_InvalidMap) (.ref ad.c_InvalidMap) = some true
  kt_InvalidMap_BridgeError : PySem.W.kitOne K (.ref ad.c_InvalidMap) (.ref ad.c_BridgeError) = some true
  kt_InvalidMap_ValueError : PySem.W.kitOne K (.ref ad.c_InvalidMap) (.type "ValueError") = some true
  kt_InvalidMap_InvalidRow : PySem.W.kitOne K (.ref ad.c_InvalidMap) (.ref ad.c_InvalidRow) = some false
  kt_InvalidMap_InvalidLanguage : PySem.W.kitOne K (.ref ad.c_InvalidMap) (.ref ad.c_InvalidLanguage) = some false
  kt_InvalidMap_InvalidTable : PySem.W.kitOne K (.ref ad.c_InvalidMap) (.ref ad.c_InvalidTable) = some false
  kt_InvalidMap_InvalidProgram : PySem.W.kitOne K (.ref ad.c_InvalidMap) (.ref ad.c_InvalidProgram) = some false
  z_ValueError : mg "ValueError" = none
  z_abs : mg "abs" = none
  z_int : mg "int" = none
  z_isinstance : mg "isinstance" = none
  z_len : mg "len" = none
  z_list : mg "list" = none
  z_range : mg "range" = none
  z_str : mg "str" = none
/-- the fields of NumberMap, in order -/
def fs_NumberMap (v_period v_rows : V) : List (Str × V) := [("period", v_period), ("rows", v_rows)]
theorem lk_NumberMap_period (v_period v_rows : V) : (fs_NumberMap v_period v_rows).lookup ("period" : Str) = some v_period := by rfl
theorem lk_NumberMap_rows (v_period v_rows : V) : (fs_NumberMap v_period v_rows).lookup ("rows" : Str) = some v_rows := by rfl
theorem pf_NumberMap_period (v_period : V) : putF "period" v_period ([] : List (Str × V)) = [(("period" : Str), v_period)] := by rfl
theorem pf_NumberMap_rows (v_period v_rows : V) : putF "rows" v_rows ([(("period" : Str), v_period)] : List (Str × V)) = fs_NumberMap v_period v_rows := by rfl
theorem st_NumberMap_period (v_period v_rows w : V) : putF "period" w (fs_NumberMap v_period v_rows) = fs_NumberMap w v_rows := by rfl
theorem st_NumberMap_rows (v_period v_rows w : V) : putF "rows" w (fs_NumberMap v_period v_rows) = fs_NumberMap v_period w := by rfl
local macro_rules | `(tactic| walk_at "lk") => `(tactic| with_reducible first | exact Toy.lk_NumberMap_period _ _ | exact Toy.lk_NumberMap_rows _ _)
/-- the fields of TextMap, in order -/
def fs_TextMap (v_letters v_rows v_ends : V) : List (Str × V) := [("letters", v_letters), ("rows", v_rows), ("ends", v_ends)]
theorem lk_TextMap_letters (v_letters v_rows v_ends : V) : (fs_TextMap v_letters v_rows v_ends).lookup ("letters" : Str) = some v_letters := by rfl
theorem lk_TextMap_rows (v_letters v_rows v_ends : V) : (fs_TextMap v_letters v_rows v_ends).lookup ("rows" : Str) = some v_rows := by rfl
theorem lk_TextMap_ends (v_letters v_rows v_ends : V) : (fs_TextMap v_letters v_rows v_ends).lookup ("ends" : Str) = some v_ends := by rfl
theorem pf_TextMap_letters (v_letters : V) : putF "letters" v_letters ([] : List (Str × V)) = [(("letters" : Str), v_letters)] := by rfl
theorem pf_TextMap_rows (v_letters v_rows : V) : putF "rows" v_rows ([(("letters" : Str), v_letters)] : List (Str × V)) = [(("letters" : Str), v_letters), (("rows" : Str), v_rows)] := by rfl
theorem pf_TextMap_ends (v_letters v_rows v_ends : V) : putF "ends" v_ends ([(("letters" : Str), v_letters), (("rows" : Str), v_rows)] : List (Str × V)) = fs_TextMap v_letters v_rows v_ends := by rfl
theorem st_TextMap_letters (v_letters v_rows v_ends w : V) : putF "letters" w (fs_TextMap v_letters v_rows v_ends) = fs_TextMap w v_rows v_ends := by rfl
theorem st_TextMap_rows (v_letters v_rows v_ends w : V) : putF "rows" w (fs_TextMap v_letters v_rows v_ends) = fs_TextMap v_letters w v_ends := by rfl
theorem st_TextMap_ends (v_letters v_rows v_ends w : V) : putF "ends" w (fs_TextMap v_letters v_rows v_ends) = fs_TextMap v_letters v_rows w := by rfl
local macro_rules | `(tactic| walk_at "lk") => `(tactic| with_reducible first | exact Toy.lk_TextMap_letters _ _ _ | exact Toy.lk_TextMap_rows _ _ _ | exact Toy.lk_TextMap_ends _ _ _)
/-- the fields of CodeMap, in order -/
def fs_CodeMap (v_images : V) : List (Str × V) := [("images", v_images)]
theorem lk_CodeMap_images (v_images : V) : (fs_CodeMap v_images).lookup ("images" : Str) = some v_images := by rfl
theorem pf_CodeMap_images (v_images : V) : putF "images" v_images ([] : List (Str × V)) = fs_CodeMap v_images := by rfl
theorem st_CodeMap_images (v_images w : V) : putF "images" w (fs_CodeMap v_images) = fs_CodeMap w := by rfl
local macro_rules | `(tactic| walk_at "lk") => `(tactic| with_reducible first | exact Toy.lk_CodeMap_images _)
/-! ### number maps: rows as data, images -/
abbrev Row4 := Option (Int × Int × Int × Int)
def rowD : Row4 → PyData
  | none => .none
  | some (a, b, c, d) => .tuple [.int a, .int b, .int c, .int d]
def OkRow (r : Row4) : Prop := ∀ a b c d, r = some (a, b, c, d) → a.natAbs < 2 ^ 130 ∧ b.natAbs < 2 ^ 130 ∧ c.natAbs < 2 ^ 130 ∧ d.natAbs < 2 ^ 130 ∧ c ≤ d
def OkRows (rs : List Row4) : Prop := ∀ r ∈ rs, OkRow r
theorem okNil : OkRows [] := fun _ h => nomatch h
def optV : Option Int → V
  | none => .non
  | some i => .int i
def img (rs : List Row4) (x : Int) : Option Int := match rs[(x % rs.length).toNat]? with
  | some (some (a, b, c, d)) => if c ≤ x / rs.length ∧ x / rs.length ≤ d then some (a * (x / rs.length) + b) else none
  | _ => none
theorem noL_row (r : Row4) : Dt.noL (rowD r) = true := by
  cases r with
  | none => simp [rowD, Dt.noL]
  | some r => obtain ⟨a, b, c, d⟩ := r; simp [rowD, Dt.noL]
theorem rowsA_upd {K : PySem.W.Frag} {H : Hp} {l : Addr} {ws : List V} {o : HO} {vs : List V} {rs : List Row4} (h : H l = some (.lst ws)) (hd : DpAll K H vs (rs.map rowD)) : DpAll K (upd H l o) vs (rs.map rowD) :=
  Dt.updLA h _ _ (fun d hd => by obtain ⟨r, _, rfl⟩ := List.mem_map.mp hd; exact noL_row r) hd
theorem canLay_rows : ∀ rs : List Row4, PyData.canLayAll0 (rs.map rowD) = true
  | [] => rfl
  | none :: rs => by rw [List.map_cons]; show (true && PyData.canLayAll0 (rs.map rowD)) = true; rw [canLay_rows rs]; rfl
  | some (a, b, c, d) :: rs => by rw [List.map_cons]; show (true && PyData.canLayAll0 (rs.map rowD)) = true; rw [canLay_rows rs]; rfl
theorem depth_rows : ∀ rs : List Row4, PyData.depthAll (rs.map rowD) ≤ 3
  | [] => by decide
  | none :: rs => by
    have h := depth_rows rs
    rw [List.map_cons]
    simp [rowD, PyData.depthAll, PyData.depth] at h ⊢
    omega
  | some (a, b, c, d) :: rs => by
    have h := depth_rows rs
    rw [List.map_cons]
    simp [rowD, PyData.depthAll, PyData.depth] at h ⊢
    omega
theorem shaped_rows (rs : List Row4) : SeqAt.shaped (.list (rs.map rowD)) = true := by
  have h := depth_rows rs
  unfold SeqAt.shaped
  rw [show PyData.canLay0 (.list (rs.map rowD)) = PyData.canLayAll0 (rs.map rowD) from by simp [PyData.canLay0], canLay_rows]
  simp [PyData.depth]
  omega
theorem rows_get {K : PySem.W.Frag} {H : Hp} {vs : List V} {rs : List Row4} (h : DpAll K H vs (rs.map rowD)) {i : Nat} (hi : i < rs.length) : ∃ v, vs[i]? = some v ∧ Dp K H v (rowD rs[i]) :=
  Dt.getA2 h (by rw [List.getElem?_map, List.getElem?_eq_getElem hi]; rfl)
theorem row_some {K : PySem.W.Frag} {H : Hp} {v : V} {a b c d : Int} (h : Dp K H v (rowD (some (a, b, c, d)))) : ∃ p, v = .ref p ∧ SqT K H p [.int a, .int b, .int c, .int d] := by
  obtain ⟨p, xs, e, hs, hA⟩ := Dt.inv_t h
  refine ⟨p, e, ?_⟩
  cases hA with
  | cons h1 hA => cases h1; cases hA with
    | cons h1 hA => cases h1; cases hA with
      | cons h1 hA => cases h1; cases hA with
        | cons h1 hA => cases h1; cases hA; exact hs
theorem row_none {K : PySem.W.Frag} {H : Hp} {v : V} (h : Dp K H v (rowD none)) : v = .non := Dt.inv_n h
theorem emod_at {n i q : Int} (h0 : 0 ≤ i) (h1 : i < n) : (n * q + i) % n = i ∧ (n * q + i) / n = q := by
  have hn : n ≠ 0 := by omega
  constructor
  · rw [Int.add_comm, Int.add_mul_emod_self_left, Int.emod_eq_of_lt h0 h1]
  · rw [Int.add_comm, Int.add_mul_ediv_left _ _ hn, Int.ediv_eq_zero_of_lt h0 h1]; omega
theorem img_at {rs : List Row4} {i : Nat} (hi : i < rs.length) (q : Int) : img rs ((rs.length : Int) * q + i) = match rs[i]? with
    | some (some (a, b, c, d)) => if c ≤ q ∧ q ≤ d then some (a * q + b) else none
    | _ => none := by
  obtain ⟨e1, e2⟩ := emod_at (n := rs.length) (q := q) (Int.natCast_nonneg i) (by omega : (i : Int) < rs.length)
  unfold img
  rw [e1, e2]
  rfl
/-- a number map at s, with the rows rs -/
structure NumAt (K : PySem.W.Frag) (C : Addr) (H : Hp) (s : Addr) (rs : List Row4) : Prop where
  at_ : ∃ dx l vs, H s = some (.ins C dx (fs_NumberMap (.int rs.length) (.ref l))) ∧ H l = some (.lst vs) ∧ DpAll K H vs (rs.map rowD)
  pos : 1 ≤ rs.length
  top : rs.length ≤ 100000
  ok : OkRows rs
theorem NumAt.mono {K : PySem.W.Frag} {C : Addr} {H H' : Hp} {s : Addr} {rs : List Row4} (h : NumAt K C H s rs) (e : Evl.Ex H H') : NumAt K C H' s rs := by
  obtain ⟨⟨dx, l, vs, h1, h2, h3⟩, h4, h5, h6⟩ := h
  exact ⟨⟨dx, l, vs, e _ _ h1, e _ _ h2, Dt.mnA h3 e⟩, h4, h5, h6⟩

section
variable {P : Program} {w : World} {K : PySem.W.Frag} {mg : Str → Option Value} {base : Heap}
/-! ### the deck and its draws -/
theorem ok_law_takeC {ad : Ad} (T : Txt K mg ad) : FnOk P w K mg base CX0 1 ad.a_law_take ad.d_law_take ["deck", "many"] (Dk.spTakeC) := by
  refine T.F_law_take.ok sc_law_take (fun vs H Q E h => ?_) (fun cdv A outer s H vs Q E hr h => ?_)
  · obtain ⟨l, ns, m, rfl, h1, h2, h3, k⟩ := h
    rfl
  · obtain ⟨l, ns, m, rfl, h1, h2, h3, k⟩ := h
    refine ⟨_, (pss_cons (ps_if (pt_cmpR op_eq (pe_callB (id := "len") Rd.c_len (by rfl) T.z_len (by decide +kernel) (pa_cons (pv 0) pa_nil)) pe_int (nomark _)) (pss_one (ps_ret pe_int)) pss_nil)
      (pss_one (ps_ret (pe_op op_mod (pe_callTy (T := "int") Rd.c_int (by rfl) T.z_int (by decide +kernel) (pa_cons (pe_bm0 PySem.F.plainAttrs_list PySem.F.slot_list_pop PySem.F.type_list_pop mt_pop (pv 0)) pa_nil)) (pv 1))))), ?_⟩
    try dsimp only [L2.cxOf, L2.Cx.nox, L2.Cx.wish]
    change (_ : TS) _ ([some (.ref l), some (.int m)] : St) _
    have cl_CodeMap := T.cl_CodeMap
    have n_CodeMap_images := T.n_CodeMap_images
    have cl_NumberMap := T.cl_NumberMap
    have n_NumberMap_period := T.n_NumberMap_period
    have n_NumberMap_rows := T.n_NumberMap_rows
    have cl_TextMap := T.cl_TextMap
    have n_TextMap_ends := T.n_TextMap_ends
    have n_TextMap_letters := T.n_TextMap_letters
    have n_TextMap_rows := T.n_TextMap_rows
    have hd : L2.Same H H := Same.refl H
    walk_at "rd"
    refine Rd.ifd (fun c => ?_) (fun c => ?_)
    · walk_at "rd"
      have q := k 0 ns (by omega) h3 h2
      rw [Dk.upd_id h1] at q
      exact q
    · walk_at "rd"
      have hl : (ns.map V.int).length = ns.length := List.length_map ..
      have hp : 0 < ns.length := by
        rw [hl] at c
        omega
      have hz : (ns.map V.int)[(ns.map V.int).length - 1]? = some (V.int (ns[ns.length - 1]'(by omega))) := by
        rw [hl, List.getElem?_map, List.getElem?_eq_getElem (by omega)]
        rfl
      refine Rd.pop h1 hz ?_
      walk_at "rd"
      rw [← List.map_dropLast]
      exact k _ _ (Int.emod_nonneg _ (by omega)) (Int.emod_lt_of_pos _ h3) (by rw [List.length_dropLast]; omega)
theorem ok_law_take {ad : Ad} (T : Txt K mg ad) : FnOk P w K mg base CX0 1 ad.a_law_take ad.d_law_take ["deck", "many"] Dk.spTake := Dk.ok_take (ok_law_takeC T)
theorem ok_law_deckC {ad : Ad} (T : Txt K mg ad) : FnOk P w K mg base CX0 1 ad.a_law_deck ad.d_law_deck ["script", "cells", "each"] (Dk.spDeckC K) := by
  refine T.F_law_deck.ok sc_law_deck (fun vs H Q E h => ?_) (fun cdv A outer s H vs Q E hr h => ?_)
  · obtain ⟨a, ns, c, e, rfl, hS, hn, hc0, he0, hc1, he1, k⟩ := h
    rfl
  · obtain ⟨a, ns, c, e, rfl, hS, hn, hc0, he0, hc1, he1, k⟩ := h
    refine ⟨_, (pss_cons (ps_set (i := 3) sc_law_deck.nd rfl (Or.inl rfl) (pe_lst pa_nil))
      (pss_cons (ps_set (i := 4) sc_law_deck.nd rfl (Or.inl rfl) (pe_op op_add pe_int (pe_callB (id := "len") Rd.c_len (by rfl) T.z_len (by decide +kernel) (pa_cons (pv 0) pa_nil))))
      (pss_cons (ps_for PassesOwn.never rfl (pi_range1 rfl T.z_range (pa_cons (pv 1) pa_nil)) (pg_name (i := 5) sc_law_deck.nd rfl (Or.inl rfl)) (pss_cons (ps_set (i := 6) sc_law_deck.nd rfl (Or.inl rfl) pe_int)
      (Evl.pss_cut (ps_if (pt_cmpR op_lt (pv 5) (pe_callB (id := "len") Rd.c_len (by rfl) T.z_len (by decide +kernel) (pa_cons (pv 0) pa_nil)) (nomark _)) (pss_one (ps_set (i := 6) sc_law_deck.nd rfl (Or.inl rfl) (pe_ix ix_list (pv 0) (pv 5) (fun _ _ => rfl)))) pss_nil)
      (pss_cons (ps_set (i := 7) sc_law_deck.nd rfl (Or.inl rfl) (pe_callB (id := "abs") Rd.c_abs (by rfl) T.z_abs (by decide +kernel) (pa_cons (pv 6) pa_nil)))
      (pss_one (ps_if (pt_cmpR op_ge (pv 7) (pe_op op_pow pe_int pe_int) (nomark _)) (pss_one (ps_for PassesOwn.never rfl (pi_range1 rfl T.z_range (pa_cons (pv 2) pa_nil)) (pg_name (i := 8) sc_law_deck.nd rfl (Or.inl rfl)) (pss_cons (ps_expr (pe_bm PySem.F.plainAttrs_list PySem.F.slot_list_append PySem.F.type_list_append mt_append (pv 3) (pa_cons (pe_op op_mod (pe_callTy (T := "int") Rd.c_int (by rfl) T.z_int (by decide +kernel) (pa_cons (pv 7) pa_nil)) pe_int) pa_nil)))
      (pss_one (ps_set (i := 7) sc_law_deck.nd rfl (Or.inl rfl) (pe_op op_fdiv (pv 7) pe_int)))))) (pss_cons (ps_set (i := 4) sc_law_deck.nd rfl (Or.inl rfl) (pe_op op_mod (pe_callTy (T := "int") Rd.c_int (by rfl) T.z_int (by decide +kernel) (pa_cons (pe_op op_add (pe_op op_add (pe_op op_add (pe_op op_mul (pv 4) pe_int) (pe_op op_mul pe_int (pv 7))) (pe_callTy (T := "int") Rd.c_int (by rfl) T.z_int (by decide +kernel) (pa_cons (pe_cmpR op_lt (pv 6) pe_int (nomark _)) pa_nil))) (pv 5)) pa_nil)) pe_int))
      (pss_one (ps_for PassesOwn.never rfl (pi_range1 rfl T.z_range (pa_cons (pv 2) pa_nil)) (pg_name (i := 8) sc_law_deck.nd rfl (Or.inl rfl)) (pss_cons (ps_set (i := 4) sc_law_deck.nd rfl (Or.inl rfl) (pe_op op_mod (pe_callTy (T := "int") Rd.c_int (by rfl) T.z_int (by decide +kernel) (pa_cons (pe_op op_add (pe_op op_add (pe_op op_mul (pv 4) pe_int) (pv 8)) pe_int) pa_nil)) pe_int))
      (pss_one (ps_expr (pe_bm PySem.F.plainAttrs_list PySem.F.slot_list_append PySem.F.type_list_append mt_append (pv 3) (pa_cons (pe_op op_mod (pe_callTy (T := "int") Rd.c_int (by rfl) T.z_int (by decide +kernel) (pa_cons (pe_op op_fdiv (pv 4) pe_int) pa_nil)) pe_int) pa_nil))))))))))))))
      (pss_cons (ps_expr (pe_bm0 PySem.F.plainAttrs_list PySem.F.slot_list_reverse PySem.F.type_list_reverse mt_reverse (pv 3)))
      (pss_one (ps_ret (pv 3))))))), ?_⟩
    try dsimp only [L2.cxOf, L2.Cx.nox, L2.Cx.wish]
    change (_ : TS) _ ([some (.ref a), some (.int c), some (.int e), none, none, none, none, none, none] : St) _
    have cl_CodeMap := T.cl_CodeMap
    have n_CodeMap_images := T.n_CodeMap_images
    have cl_NumberMap := T.cl_NumberMap
    have n_NumberMap_period := T.n_NumberMap_period
    have n_NumberMap_rows := T.n_NumberMap_rows
    have cl_TextMap := T.cl_TextMap
    have n_TextMap_ends := T.n_TextMap_ends
    have n_TextMap_letters := T.n_TextMap_letters
    have n_TextMap_rows := T.n_TextMap_rows
    walk_at "rd"
    refine Rd.xlstU rfl fun l hl => ?_
    have hS1 : SqL K (upd H l (.lst [])) a (ns.map V.int) := Evl.ex_l (Evl.Ex.new hl) hS
    walk_at "rd"
    refine Rd.xfr1 ⟨by omega, by omega⟩ (fun i σ H' => ∃ (ms : List Int) (sd : Int) (v5 v6 v7 v8 : Option V), σ = [some (.ref a), some (.int c), some (.int e), some (.ref l), some (.int sd), v5, v6, v7, v8] ∧ H' = upd H l (.lst (ms.map V.int)) ∧ ms.length ≤ i * 64)
      ⟨[], _, none, none, none, none, rfl, rfl, Nat.zero_le _⟩ ?_ ?_
    · rintro i σ H' hi ⟨ms, sd, v5, v6, v7, v8, rfl, rfl, hm⟩
      have hS2 : SqL K (upd H l (.lst (ms.map V.int))) a (ns.map V.int) := Evl.ex_l (Evl.Ex.new hl) hS
      walk_at "rd"
      refine ⟨fun σ H' => ∃ cell : Int, σ = [some (.ref a), some (.int c), some (.int e), some (.ref l), some (.int sd), some (.int i), some (.int cell), v7, v8] ∧ H' = upd H l (.lst (ms.map V.int)), ?_, ?_⟩
      · walk_at "rd"
        refine Rd.ifd (fun h1 => ?_) (fun h1 => ?_)
        · walk_at "rd"
          rw [List.length_map] at h1
          refine Rd.ixL hS2 (atI_nat (j := i) (v := V.int (ns[i]'(by omega))) (by rw [List.getElem?_map, List.getElem?_eq_getElem (by omega)]; rfl)) ?_
          walk_at "rd"
          exact ⟨_, rfl, rfl⟩
        · walk_at "rd"
          exact ⟨_, rfl, rfl⟩
      · rintro σ H' ⟨cell, rfl, rfl⟩
        walk_at "rd"
        generalize hrest : (if cell < 0 then -cell else cell) = rest0
        refine Rd.ifd (fun h1 => ?_) (fun h1 => ?_)
        · walk_at "rd"
          refine Rd.xfr1 ⟨by omega, by omega⟩ (fun j σ H' => ∃ (ms' : List Int) (rest : Int) (v8 : Option V), σ = [some (.ref a), some (.int c), some (.int e), some (.ref l), some (.int sd), some (.int i), some (.int cell), some (.int rest), v8] ∧ H' = upd H l (.lst (ms'.map V.int)) ∧ ms'.length ≤ i * 64 + j)
            ⟨ms, _, _, rfl, rfl, hm⟩ ?_ ?_
          · rintro j σ H' hj ⟨ms', rest, v8, rfl, rfl, hm'⟩
            walk_at "rd"
            refine Rd.append upd_same (by rw [List.length_map]; omega) ?_
            walk_at "rd"
            exact ⟨ms' ++ [rest % 1000003], rest / 1000003, _, rfl, by rw [upd_upd, List.map_append]; rfl, by rw [List.length_append]; simp; omega⟩
          · rintro σ H' ⟨ms', rest, v8, rfl, rfl, hm'⟩
            exact ⟨ms', sd, _, _, _, _, rfl, rfl, by omega⟩
        · walk_at "rd"
          refine Rd.xfr1 ⟨by omega, by omega⟩ (fun j σ H' => ∃ (ms' : List Int) (sd : Int) (v8 : Option V), σ = [some (.ref a), some (.int c), some (.int e), some (.ref l), some (.int sd), some (.int i), some (.int cell), some (.int rest0), v8] ∧ H' = upd H l (.lst (ms'.map V.int)) ∧ ms'.length ≤ i * 64 + j)
            ⟨ms, _, _, rfl, rfl, hm⟩ ?_ ?_
          · rintro j σ H' hj ⟨ms', sd, v8, rfl, rfl, hm'⟩
            walk_at "rd"
            refine Rd.append upd_same (by rw [List.length_map]; omega) ?_
            walk_at "rd"
            exact ⟨ms' ++ [_], _, _, rfl, by rw [upd_upd, List.map_append]; rfl, by rw [List.length_append]; simp; omega⟩
          · rintro σ H' ⟨ms', sd, v8, rfl, rfl, hm'⟩
            exact ⟨ms', sd, _, _, _, _, rfl, rfl, by omega⟩
    · rintro σ H' ⟨ms, sd, v5, v6, v7, v8, rfl, rfl, hm⟩
      walk_at "rd"
      refine Rd.reverse upd_same ?_
      walk_at "rd"
      rw [upd_upd, ← List.map_reverse]
      exact k l ms.reverse _ hl rfl (by rw [List.length_reverse]; have := Int.toNat_of_nonneg hc0; omega)
theorem ok_law_deck {ad : Ad} (T : Txt K mg ad) : FnOk P w K mg base CX0 1 ad.a_law_deck ad.d_law_deck ["script", "cells", "each"] (Dk.spDeck K) := Dk.ok_deck (ok_law_deckC T)

theorem ok_InvalidMap_init_ {ad : Ad} (T : Txt K mg ad) : FnOk P w K mg base CX0 1 ad.a_InvalidMap_init_ ad.d_InvalidMap_init_ ["self", "what"] (Rd.spEx1 ad.c_InvalidMap "what") := by
  refine T.F_InvalidMap_init_.ok sc_InvalidMap_init_ (fun vs H Q E h => ?_) (fun cdv A outer s H vs Q E hr h => ?_)
  · obtain ⟨a, s1, rfl, hs, ha, k⟩ := h
    rfl
  · obtain ⟨a, s1, rfl, hs, ha, k⟩ := h
    refine ⟨_, (pss_cons (ps_expr (pe_ovinit rfl T.mg_BridgeError T.ov_BridgeError (pa_cons (pv 0) (pa_cons (pe_op Rd.op_addS pe_str (pv 1)) pa_nil))))
      (pss_one (ps_ost (pv 0) (pv 1)))), ?_⟩
    try dsimp only [L2.cxOf, L2.Cx.nox, L2.Cx.wish]
    change (_ : TS) _ ([some (.ref a), some (.str s1)] : St) _
    have cl_CodeMap := T.cl_CodeMap
    have n_CodeMap_images := T.n_CodeMap_images
    have cl_NumberMap := T.cl_NumberMap
    have n_NumberMap_period := T.n_NumberMap_period
    have n_NumberMap_rows := T.n_NumberMap_rows
    have cl_TextMap := T.cl_TextMap
    have n_TextMap_ends := T.n_TextMap_ends
    have n_TextMap_letters := T.n_TextMap_letters
    have n_TextMap_rows := T.n_TextMap_rows
    walk_at "rd"
    refine Rd.catS (by rw [show (PySem.Str.ofString "invalid map: ").length = 13 from by rfl]; omega) ?_
    walk_at "rd"
    refine Rd.xvei T.ox_InvalidMap ha rfl ?_
    walk_at "rd"
    refine Rd.xost T.ox_InvalidMap T.nx_InvalidMap_what ha fun dx nx ne => ?_
    walk_at "rd"
    exact k dx nx ne

/-! ### text machines, plain -/
abbrev Step := Option (Nat × Str)
def dS : Step → PyData
  | none => .none
  | some (n, w) => .tuple [.int n, .str w]
def dRow (r : List Step) : PyData := .list (r.map dS)
def dRows (R : List (List Step)) : PyData := .list (R.map dRow)
def dE : Option Str → PyData
  | none => .none
  | some w => .str w
def dEnds (E : List (Option Str)) : PyData := .list (E.map dE)
def eV : Option Str → V
  | none => .non
  | some w => .str w
section
variable {α : Type} {K : PySem.W.Frag} {H H' : Hp} {xs : List V} {as : List α} {f : α → PyData} {v y : V} {a : α} {i : Nat}
theorem itA1 (h : DpAll K H xs (as.map f)) (e : xs[i]? = some y) : ∃ a, as[i]? = some a ∧ Dp K H y (f a) := by
  obtain ⟨d, hd, hy⟩ := Dt.getA1 h e
  rw [List.getElem?_map] at hd
  obtain ⟨a, ha, rfl⟩ := Option.map_eq_some_iff.mp hd
  exact ⟨a, ha, hy⟩
theorem itA2 (h : DpAll K H xs (as.map f)) (e : as[i]? = some a) : ∃ y, xs[i]? = some y ∧ Dp K H y (f a) := Dt.getA2 h (by rw [List.getElem?_map, e]; rfl)
theorem itLen (h : DpAll K H xs (as.map f)) : xs.length = as.length := by rw [Dt.lenA h, List.length_map]
theorem dS_none (h : Dp K H v (dS none)) : v = .non := Dt.inv_n h
theorem dS_some {n : Nat} {w : Str} (h : Dp K H v (dS (some (n, w)))) : ∃ p, v = .ref p ∧ SqT K H p [.int n, .str w] := by
  obtain ⟨a, xs, rfl, hs, hA⟩ := Dt.inv_t h
  cases hA with
  | cons h1 h2 => cases h2 with
    | cons h2 h3 =>
      cases h3; cases h1; cases h2
      exact ⟨a, rfl, hs⟩
theorem dE_inv {o : Option Str} (h : Dp K H v (dE o)) : v = eV o := by
  cases o with
  | none => exact Dt.inv_n h
  | some w => exact Dt.inv_s h
theorem dE_mk (o : Option Str) : Dp K H (eV o) (dE o) := by
  cases o with
  | none => exact .non
  | some w => exact .str w
theorem endsA : ∀ (E : List (Option Str)), DpAll K H (E.map eV) (E.map dE)
  | [] => .nil
  | o :: E => .cons (dE_mk o) (endsA E)
end
/-- a machine's parts are in order: n letters -/
structure MachOk (n : Nat) (R : List (List Step)) (E : List (Option Str)) : Prop where
  pos : 0 < R.length
  len : R.length ≤ 1000
  ends : E.length = R.length
  wid : ∀ r ∈ R, r.length = n
  tgt : ∀ r ∈ R, ∀ q w, some (q, w) ∈ r → q < R.length ∧ w.length ≤ 1000 ∧ PyData.strOk w = true
  enw : ∀ w, some w ∈ E → w.length ≤ 1000 ∧ PyData.strOk w = true
/-- letters, none of them twice -/
structure Lts (L : Str) : Prop where
  len : L.length ≤ 100
  own : ∀ (i c : Nat), L.cps.toList[i]? = some c → Txt.find L ⟨#[c]⟩ = (i : Int)
theorem find_le (L : Str) (c : Nat) : Txt.find L ⟨#[c]⟩ < 0 ∨ ∃ k : Nat, Txt.find L ⟨#[c]⟩ = (k : Int) ∧ k < L.length := by
  rcases PyProof.Rows.fact_find L ⟨#[c]⟩ with h | ⟨h, g⟩
  · exact .inl (by omega)
  · have e : ((⟨#[c]⟩ : Str).length : Int) = 1 := rfl
    exact .inr ⟨(Txt.find L ⟨#[c]⟩).toNat, by omega, by omega⟩
def tstep (L : Str) (R : List (List Step)) (s c : Nat) : Step := if Txt.find L ⟨#[c]⟩ < 0 then none else (R.getD s []).getD (Txt.find L ⟨#[c]⟩).toNat none
theorem tstep_neg {L : Str} {R : List (List Step)} {s c : Nat} (h : Txt.find L ⟨#[c]⟩ < 0) : tstep L R s c = none := if_pos h
theorem tstep_at {L : Str} {R : List (List Step)} {E : List (Option Str)} {s c k : Nat} (ok : MachOk L.length R E) (hs : s < R.length) (e : Txt.find L ⟨#[c]⟩ = (k : Int)) (hk : k < L.length) : ∃ r, R[s]? = some r ∧ r[k]? = some (tstep L R s c) := by
  have h1 : R[s]? = some (R[s]'hs) := List.getElem?_eq_getElem _
  have h2 : (R[s]'hs).length = L.length := ok.wid _ (List.getElem_mem _)
  refine ⟨_, h1, ?_⟩
  unfold tstep
  have hd : R.getD s [] = R[s]'hs := by rw [List.getD_eq_getElem?_getD, h1]; rfl
  rw [e, if_neg (by omega), hd, Int.toNat_natCast, List.getD_eq_getElem?_getD, List.getElem?_eq_getElem (show k < (R[s]'hs).length by omega)]
  rfl
theorem tstep_ok {L : Str} {R : List (List Step)} {E : List (Option Str)} {s c q : Nat} {w : Str} (ok : MachOk L.length R E) (hs : s < R.length) (h : tstep L R s c = some (q, w)) : q < R.length ∧ w.length ≤ 1000 ∧ PyData.strOk w = true := by
  rcases find_le L c with e | ⟨k, e, hk⟩
  · rw [tstep_neg e] at h; cases h
  · obtain ⟨r, hr, hr2⟩ := tstep_at ok hs e hk
    rw [h] at hr2
    exact ok.tgt r (List.mem_of_getElem? hr) q w (List.mem_of_getElem? hr2)
/-- the steps along some letters: the state behind them and what was written -/
def tnext (L : Str) (R : List (List Step)) (acc : Option (Nat × List Str)) (c : Nat) : Option (Nat × List Str) := acc.bind fun p => (tstep L R p.1 c).map fun q => (q.1, p.2 ++ [q.2])
def trun (L : Str) (R : List (List Step)) (s : Nat) (l : List Nat) : Option (Nat × List Str) := l.foldl (tnext L R) (some (s, []))
theorem trun_nil (L : Str) (R : List (List Step)) (s : Nat) : trun L R s [] = some (s, []) := rfl
theorem trun_snoc (L : Str) (R : List (List Step)) (s : Nat) (l : List Nat) (c : Nat) : trun L R s (l ++ [c]) = tnext L R (trun L R s l) c := by
  unfold trun; rw [List.foldl_append]; rfl
theorem tnext_none (L : Str) (R : List (List Step)) : ∀ l : List Nat, l.foldl (tnext L R) none = none
  | [] => rfl
  | c :: l => tnext_none L R l
theorem trun_take {L : Str} {R : List (List Step)} {s : Nat} {l : List Nat} {i : Nat} (h : trun L R s (l.take i) = none) : trun L R s l = none := by
  have e : trun L R s (l.take i ++ l.drop i) = none := by
    unfold trun at *
    rw [List.foldl_append, h, tnext_none]
  rwa [List.take_append_drop] at e
theorem trun_step {L : Str} {R : List (List Step)} {s : Nat} {l : List Nat} {i c : Nat} (h : l[i]? = some c) : trun L R s (l.take (i + 1)) = tnext L R (trun L R s (l.take i)) c := by
  rw [List.take_add_one, h]
  exact trun_snoc ..
theorem trun_ok {L : Str} {R : List (List Step)} {E : List (Option Str)} {s : Nat} (ok : MachOk L.length R E) (hs : s < R.length) : ∀ (n : Nat) (l : List Nat), l.length = n → ∀ e ws, trun L R s l = some (e, ws) → e < R.length ∧ ws.length = l.length ∧ ∀ w ∈ ws, w.length ≤ 1000 ∧ PyData.strOk w = true
  | 0, l, hl, e, ws, h => by
    obtain rfl := List.length_eq_zero_iff.mp hl
    cases h
    exact ⟨hs, rfl, fun w hw => by cases hw⟩
  | n + 1, l, hl, e, ws, h => by
    have hne : l ≠ [] := fun z => by rw [z] at hl; cases hl
    rw [← List.dropLast_concat_getLast hne, trun_snoc] at h
    unfold tnext at h
    obtain ⟨p, hp, hq⟩ := Option.bind_eq_some_iff.mp h
    obtain ⟨q, hq1, hq2⟩ := Option.map_eq_some_iff.mp hq
    cases hq2
    have hdl : l.dropLast.length = n := by rw [List.length_dropLast, hl]; rfl
    obtain ⟨i1, i2, i3⟩ := trun_ok ok hs n l.dropLast hdl p.1 p.2 hp
    obtain ⟨j1, j2⟩ := tstep_ok (q := q.1) (w := q.2) ok i1 hq1
    refine ⟨j1, by rw [List.length_append, i2, hdl, hl]; rfl, fun w hw => ?_⟩
    rcases List.mem_append.mp hw with hw | hw
    · exact i3 w hw
    · cases List.mem_singleton.mp hw; exact j2
/-- texts joined -/
def jn (ws : List Str) : Str := ws.foldl (· ++ ·) ⟨#[]⟩
theorem jn_snoc (ws : List Str) (w : Str) : jn (ws ++ [w]) = jn ws ++ w := by unfold jn; rw [List.foldl_append]; rfl
theorem str_assoc (a b c : Str) : (a ++ b) ++ c = a ++ (b ++ c) := by
  show (⟨(a.cps ++ b.cps) ++ c.cps⟩ : Str) = ⟨a.cps ++ (b.cps ++ c.cps)⟩
  rw [Array.append_assoc]
theorem str_nil (a : Str) : (⟨#[]⟩ : Str) ++ a = a := by
  show (⟨#[] ++ a.cps⟩ : Str) = a
  rw [Array.empty_append]
theorem str_nilR (a : Str) : a ++ (⟨#[]⟩ : Str) = a := by
  show (⟨a.cps ++ #[]⟩ : Str) = a
  rw [Array.append_empty]
theorem len_app (a b : Str) : (a ++ b).length = a.length + b.length := by show (a.cps ++ b.cps).size = _; rw [Array.size_append]; rfl
theorem jn_from : ∀ (ws : List Str) (a : Str), ws.foldl (· ++ ·) a = a ++ jn ws
  | [], a => (str_nilR a).symm
  | w :: ws, a => by
    unfold jn
    rw [List.foldl_cons, List.foldl_cons, jn_from ws (a ++ w), jn_from ws (⟨#[]⟩ ++ w), str_nil, str_assoc]
theorem jn_cons (w : Str) (ws : List Str) : jn (w :: ws) = w ++ jn ws := by
  show ws.foldl (· ++ ·) (⟨#[]⟩ ++ w) = _
  rw [jn_from, str_nil]
theorem join_jn' : ∀ ws : List Str, Str.join ⟨#[]⟩ ws = jn ws
  | [] => rfl
  | [w] => (str_nil w).symm
  | w :: v :: ws => by
    have ih := join_jn' (v :: ws)
    rw [jn_cons, ← ih]
    show w ++ ⟨#[]⟩ ++ Str.join ⟨#[]⟩ (v :: ws) = _
    rw [str_nilR]
theorem join_jn (ws : List Str) : Txt.join ⟨#[]⟩ ws = jn ws := (eq_of_beq (PyProof.Rows.join_plain_closes _ _)).trans (join_jn' ws)
theorem jn_len {n : Nat} : ∀ ws : List Str, (∀ w ∈ ws, w.length ≤ n) → (jn ws).length ≤ n * ws.length
  | [], _ => Nat.zero_le _
  | w :: ws, h => by
    rw [jn_cons, len_app, List.length_cons, Nat.mul_succ]
    have h1 := h w List.mem_cons_self
    have h2 := jn_len ws fun x hx => h x (List.mem_cons_of_mem _ hx)
    omega
theorem ok_app {a b : Str} (h1 : PyData.strOk a = true) (h2 : PyData.strOk b = true) : PyData.strOk (a ++ b) = true := by
  show (a.cps ++ b.cps).all _ = true
  rw [Array.all_append]
  exact Bool.and_eq_true_iff.mpr ⟨h1, h2⟩
theorem jn_ok : ∀ ws : List Str, (∀ w ∈ ws, PyData.strOk w = true) → PyData.strOk (jn ws) = true
  | [], _ => by decide +kernel
  | w :: ws, h => by
    rw [jn_cons]
    exact ok_app (h w List.mem_cons_self) (jn_ok ws fun x hx => h x (List.mem_cons_of_mem _ hx))
def twalk (L : Str) (R : List (List Step)) (s : Nat) (z : Str) : Step := (trun L R s z.cps.toList).map fun p => (p.1, jn p.2)
theorem twalk_ok {L : Str} {R : List (List Step)} {E : List (Option Str)} {s e : Nat} {z w : Str} (ok : MachOk L.length R E) (hs : s < R.length) (h : twalk L R s z = some (e, w)) : e < R.length ∧ w.length ≤ 1000 * z.length ∧ PyData.strOk w = true := by
  unfold twalk at h
  obtain ⟨p, hp, he⟩ := Option.map_eq_some_iff.mp h
  cases he
  obtain ⟨h1, h2, h3⟩ := trun_ok ok hs _ _ rfl p.1 p.2 hp
  refine ⟨h1, ?_, jn_ok _ fun w hw => (h3 w hw).2⟩
  have h4 := jn_len p.2 fun w hw => (h3 w hw).1
  rw [h2] at h4
  simpa [Str.length] using h4
def timg (L : Str) (R : List (List Step)) (E : List (Option Str)) (z : Str) : Option Str := (twalk L R 0 z).bind fun p => (E.getD p.1 none).map fun w => p.2 ++ w
theorem shp_row {n : Nat} {R : List (List Step)} {E : List (Option Str)} (ok : MachOk n R E) : SeqAt.shaped (dRows R) = true := by
  have c1 : ∀ r ∈ R, ∀ st ∈ r, PyData.canLay0 (dS st) = true ∧ PyData.depth (dS st) ≤ 2 := fun r hr st hst => by
    cases st with
    | none => exact ⟨rfl, by decide⟩
    | some p =>
      obtain ⟨q, w⟩ := p
      have := (ok.tgt r hr q w hst).2.2
      exact ⟨by simp [dS, PyData.canLay0, PyData.canLayAll0, this], by simp [dS, PyData.depth, PyData.depthAll]⟩
  have c2 : ∀ r : List Step, (∀ st ∈ r, PyData.canLay0 (dS st) = true ∧ PyData.depth (dS st) ≤ 2) → PyData.canLayAll0 (r.map dS) = true ∧ PyData.depthAll (r.map dS) ≤ 2 := by
    intro r
    induction r with
    | nil => intro _; exact ⟨rfl, Nat.zero_le _⟩
    | cons st r ih =>
      intro h
      obtain ⟨a1, a2⟩ := h st List.mem_cons_self
      obtain ⟨b1, b2⟩ := ih fun x hx => h x (List.mem_cons_of_mem _ hx)
      exact ⟨by simp [PyData.canLayAll0, a1, b1], by simp [PyData.depthAll]; omega⟩
  have c3 : ∀ S : List (List Step), (∀ r ∈ S, ∀ st ∈ r, PyData.canLay0 (dS st) = true ∧ PyData.depth (dS st) ≤ 2) → PyData.canLayAll0 (S.map dRow) = true ∧ PyData.depthAll (S.map dRow) ≤ 3 := by
    intro S
    induction S with
    | nil => intro _; exact ⟨rfl, Nat.zero_le _⟩
    | cons r S ih =>
      intro h
      obtain ⟨a1, a2⟩ := c2 r (h r List.mem_cons_self)
      obtain ⟨b1, b2⟩ := ih fun x hx => h x (List.mem_cons_of_mem _ hx)
      exact ⟨by simp [dRow, PyData.canLayAll0, PyData.canLay0, a1, b1], by simp [dRow, PyData.depthAll, PyData.depth]; omega⟩
  obtain ⟨d1, d2⟩ := c3 R c1
  unfold SeqAt.shaped dRows
  rw [PyData.canLay0, d1, Bool.true_and]
  exact decide_eq_true (by rw [PyData.depth]; omega)
theorem shp_ends {n : Nat} {R : List (List Step)} {E : List (Option Str)} (ok : MachOk n R E) : SeqAt.shaped (dEnds E) = true := by
  have c2 : ∀ F : List (Option Str), (∀ w, some w ∈ F → PyData.strOk w = true) → PyData.canLayAll0 (F.map dE) = true ∧ PyData.depthAll (F.map dE) ≤ 1 := by
    intro F
    induction F with
    | nil => intro _; exact ⟨rfl, Nat.zero_le _⟩
    | cons o F ih =>
      intro h
      obtain ⟨b1, b2⟩ := ih fun x hx => h x (List.mem_cons_of_mem _ hx)
      cases o with
      | none => exact ⟨by simp [dE, PyData.canLayAll0, PyData.canLay0, b1], by simp [dE, PyData.depthAll, PyData.depth]; omega⟩
      | some w =>
        have := h w List.mem_cons_self
        exact ⟨by simp [dE, PyData.canLayAll0, PyData.canLay0, b1, this], by simp [dE, PyData.depthAll, PyData.depth]; omega⟩
  obtain ⟨d1, d2⟩ := c2 E fun w hw => (ok.enw w hw).2
  unfold SeqAt.shaped dEnds
  rw [PyData.canLay0, d1, Bool.true_and]
  exact decide_eq_true (by rw [PyData.depth]; omega)
theorem shp_dS {st : Step} (h : ∀ q w, st = some (q, w) → PyData.strOk w = true) : SeqAt.shaped (dS st) = true := by
  cases st with
  | none => decide
  | some p =>
    have := h p.1 p.2 rfl
    simp [dS, SeqAt.shaped, PyData.canLay0, PyData.canLayAll0, PyData.depth, PyData.depthAll, this]

/-! ### lists of lists of steps -/
section
variable {G H H' : Hp} {l a : Addr} {ws : List V} {o : HO} {vs : List V} {st : List Step} {as : List Addr} {R : List (List Step)}
theorem noL_dS (s : Step) : Dt.noL (dS s) = true := by
  cases s with
  | none => simp [dS, Dt.noL]
  | some p => simp [dS, Dt.noL]
theorem stA_upd (h : H l = some (.lst ws)) (d : DpAll K H vs (st.map dS)) : DpAll K (upd H l o) vs (st.map dS) := Dt.updLA h _ _ (fun d hd => by
  obtain ⟨s, _, rfl⟩ := List.mem_map.mp hd
  exact noL_dS s) d
/-- the lists of steps at as, none of them in G -/
structure Bld (K : PySem.W.Frag) (G H : Hp) (as : List Addr) (R : List (List Step)) : Prop where
  len : as.length = R.length
  rw : ∀ (k : Nat) (a : Addr) (st : List Step), as[k]? = some a → R[k]? = some st → G a = none ∧ ∃ vs, H a = some (.lst vs) ∧ DpAll K H vs (st.map dS)
theorem Bld.nil : Bld K G H [] [] := ⟨rfl, fun k a st h => by cases h⟩
theorem Bld.ex (b : Bld K G H as R) (e : Evl.Ex H H') : Bld K G H' as R := ⟨b.len, fun k a st h1 h2 => by
  obtain ⟨g, vs, h, d⟩ := b.rw k a st h1 h2
  exact ⟨g, vs, e _ _ h, Dt.mnA d e⟩⟩
theorem Bld.upd {u : HO} (b : Bld K G H as R) (g : G l = some u) (h : H l = some (.lst ws)) : Bld K G (upd H l o) as R := ⟨b.len, fun k a st h1 h2 => by
  obtain ⟨g2, vs, h2, d⟩ := b.rw k a st h1 h2
  have ne : a ≠ l := fun z => by rw [z, g] at g2; cases g2
  exact ⟨g2, vs, (upd_ne ne).trans h2, stA_upd h d⟩⟩
theorem Bld.updI {C dx : Addr} {fs : List (Str × V)} (b : Bld K G H as R) (g : G l ≠ none) (h : H l = some (.ins C dx fs)) : Bld K G (L2.upd H l o) as R := ⟨b.len, fun k a st h1 h2 => by
  obtain ⟨g2, vs, h2, d⟩ := b.rw k a st h1 h2
  have ne : a ≠ l := fun z => g (by rw [← z]; exact g2)
  exact ⟨g2, vs, (upd_ne ne).trans h2, Dt.updIA h _ _ d⟩⟩
theorem Bld.low {G' : Hp} (b : Bld K G H as R) (e : ∀ a, G a = none → G' a = none) : Bld K G' H as R := ⟨b.len, fun k a st h1 h2 => by
  obtain ⟨g, r⟩ := b.rw k a st h1 h2
  exact ⟨e a g, r⟩⟩
theorem Bld.snoc (b : Bld K G H as R) (g : G a = none) (h : H a = some (.lst vs)) (d : DpAll K H vs (st.map dS)) : Bld K G H (as ++ [a]) (R ++ [st]) := by
  refine ⟨by rw [List.length_append, List.length_append, b.len]; rfl, fun k x s h1 h2 => ?_⟩
  by_cases hk : k < as.length
  · rw [List.getElem?_append_left hk] at h1
    rw [List.getElem?_append_left (by rw [← b.len]; exact hk)] at h2
    exact b.rw k x s h1 h2
  · have hk2 : k = as.length := by
      have := (List.getElem?_eq_some_iff.mp h1).1
      rw [List.length_append] at this
      simp at this
      omega
    subst hk2
    rw [List.getElem?_append_right (Nat.le_refl _)] at h1
    rw [List.getElem?_append_right (by rw [b.len]; exact Nat.le_refl _), b.len] at h2
    simp at h1 h2
    subst h1; subst h2
    exact ⟨g, vs, h, d⟩
theorem dpA_as : ∀ (as : List Addr) (R : List (List Step)), as.length = R.length → (∀ (k : Nat) (a : Addr) (st : List Step), as[k]? = some a → R[k]? = some st → Dp K H (.ref a) (dRow st)) → DpAll K H (as.map V.ref) (R.map dRow)
  | [], [], _, _ => .nil
  | a :: as, st :: R, h, f => .cons (f 0 a st rfl rfl) (dpA_as as R (by simpa using h) fun k a st h1 h2 => f (k + 1) a st h1 h2)
  | [], _ :: _, h, _ => by cases h
  | _ :: _, [], h, _ => by cases h
theorem Bld.dp (b : Bld K G H as R) (h : H l = some (.lst (as.map V.ref))) : Dp K H (.ref l) (dRows R) := Dt.ofL h (dpA_as as R b.len fun k a st h1 h2 => by
  obtain ⟨_, vs, h, d⟩ := b.rw k a st h1 h2
  exact Dt.ofL h d)
theorem rows_of : ∀ (R : List (List Step)) (xs : List V), DpAll K H xs (R.map dRow) → ∃ vss : List (List V), vss.length = R.length ∧ ∀ (i : Nat) (x : V) (r : List V), xs[i]? = some x → vss[i]? = some r → ∃ (a : Addr) (st : List Step), x = .ref a ∧ SqL K H a r ∧ R[i]? = some st ∧ DpAll K H r (st.map dS)
  | [], xs, h => by
    cases h
    exact ⟨[], rfl, fun i x r h => by cases h⟩
  | st :: R, xs, h => by
    cases h with
    | cons h1 h2 =>
      obtain ⟨vss, hl, hv⟩ := rows_of R _ h2
      obtain ⟨a, r, rfl, hs, hd⟩ := Dt.inv_l h1
      refine ⟨r :: vss, by rw [List.length_cons, List.length_cons, hl], fun i x r' h3 h4 => ?_⟩
      cases i with
      | zero => cases h3; cases h4; exact ⟨a, st, rfl, hs, rfl, hd⟩
      | succ i => exact hv i x r' h3 h4
end
/-- [list(row) for row in rows] -/
theorem xlcCopy {σ : L2.St} {H : Hp} {Q : VK} {l : Addr} {j : Nat} {vs : List Nat} {xs : List V} {rows : List (List V)} (hx : SqL K H l xs) (hl : xs.length = rows.length) (hr : ∀ (i : Nat) (x : V) (r : List V), xs[i]? = some x → rows[i]? = some r → ∃ a, x = .ref a ∧ SqL K H a r)
    (hz : xs.length ≤ 40000) (hw : ∀ x, wipe ((wipe σ vs).set j (some x)) vs = wipe σ vs) (hj : ∀ x, ((wipe σ vs).set j (some x))[j]? = some (some x))
    (q : ∀ (p : Addr) (as : List Addr) (H' : Hp), H p = none → Evl.Ex H H' → H' p = some (.lst (as.map V.ref)) → as.length = rows.length → (∀ (k : Nat) (a : Addr) (r : List V), as[k]? = some a → rows[k]? = some r → H a = none ∧ a ≠ p ∧ H' a = some (.lst r)) → Q (.ref p) H') :
    Rd.xLcL K (gName j) tYes (tCB (Rd.rListOf K) (tCons (tVar j) tNil)) vs σ (.ref l) H Q := by
  let Cp : Addr → Nat → Hp → Prop := fun D i H' => H D = none ∧ Evl.Ex H H' ∧ ∃ as : List Addr, as.length = i ∧ H' D = some (.lst (as.map V.ref)) ∧ ∀ (k : Nat) (a : Addr) (r : List V), as[k]? = some a → rows[k]? = some r → H a = none ∧ a ≠ D ∧ H' a = some (.lst r)
  refine ⟨l, rfl, ⟨xs, hx⟩, fun D hD => lc_list (xs := xs) (Cp D) ⟨hD, Evl.Ex.new hD, [], rfl, upd_same, fun k a r h => by cases h⟩ (fun i H' _ p => Evl.ex_l p.2.1 hx) (fun i x H' hi p => ⟨hw x, iteT (B := Cp D (i + 1) H') ?_⟩) (fun H' p => ?_)⟩
  · obtain ⟨_, e, as, has, hDl, hk⟩ := p
    have hi2 : i < xs.length := (List.getElem?_eq_some_iff.mp hi).1
    have hi3 : rows[i]? = some (rows[i]'(by omega)) := List.getElem?_eq_getElem _
    obtain ⟨a, rfl, hs⟩ := hr i x _ hi hi3
    refine Rd.cb (Rd.cons (Rd.var (hj _) (Rd.nil (Rd.listOfU (Evl.ex_l e hs) fun p hp => ?_))))
    have hpD : D ≠ p := ne_of_none hDl hp
    have hp0 : H p = none := Evl.fresh_back e hp
    refine ⟨as.map V.ref, (upd_ne hpD).trans hDl, Evl.sz_lt (by rw [List.length_map, has]; omega), hD, Evl.Ex.mut (e.trans (Evl.Ex.new hp)) hD, as ++ [p], by rw [List.length_append, has]; rfl, by rw [List.map_append]; exact upd_same, fun k b r h1 h2 => ?_⟩
    by_cases hkl : k < as.length
    · rw [List.getElem?_append_left hkl] at h1
      obtain ⟨g1, g2, g3⟩ := hk k b r h1 h2
      exact ⟨g1, g2, by rw [upd_ne g2, upd_ne (ne_of_none g3 hp)]; exact g3⟩
    · have hk2 : k = i := by
        have := (List.getElem?_eq_some_iff.mp h1).1
        rw [List.length_append] at this
        simp at this
        omega
      subst hk2
      rw [List.getElem?_append_right (by omega), has, Nat.sub_self] at h1
      cases h1
      rw [hi3] at h2
      cases h2
      exact ⟨hp0, Ne.symm hpD, by rw [upd_ne (Ne.symm hpD)]; exact upd_same⟩
  · obtain ⟨_, e, as, has, hDl, hk⟩ := p
    exact q D as H' hD e hDl (by rw [has, hl]) hk

/-! split -/
def spWhole : Sp := fun vs H Q _ => ∃ l : Addr, vs = [.ref l] ∧ H l = some (Dk.DkO l) ∧ ∀ n : Int, n.natAbs < 2 ^ 120 → Q (.int n) H
theorem ok_law_whole {ad : Ad} (T : Txt K mg ad) : FnOk P w K mg base CX0 2 ad.a_law_whole ad.d_law_whole ["deck"] (spWhole) := by
  refine T.F_law_whole.ok sc_law_whole (fun vs H Q E h => ?_) (fun cdv A outer s H vs Q E hr h => ?_)
  · obtain ⟨l, rfl, h1, k⟩ := h
    rfl
  · obtain ⟨l, rfl, h1, k⟩ := h
    refine ⟨_, (pss_cons (ps_set (i := 1) sc_law_whole.nd rfl (Or.inl rfl) (pe_call (ok_law_take T) (hr.mono (by decide)) rfl T.m_law_take T.F_law_take.kp T.b_law_take .nil pass0 (pa_cons (pv 0) (pa_cons pe_int pa_nil))))
      (pss_cons (ps_set (i := 2) sc_law_whole.nd rfl (Or.inl rfl) (pe_op op_sub (pe_call (ok_law_take T) (hr.mono (by decide)) rfl T.m_law_take T.F_law_take.kp T.b_law_take .nil pass0 (pa_cons (pv 0) (pa_cons pe_int pa_nil))) pe_int))
      (pss_cons (ps_if (pt_cmpR op_lt (pv 1) pe_int (nomark _)) (pss_one (ps_ret (pv 2))) pss_nil)
      (pss_cons (ps_if (pt_cmpR op_eq (pv 1) pe_int (nomark _)) (pss_one (ps_ret (pe_op op_add (pe_op op_mul (pv 2) (pe_op op_pow pe_int pe_int)) (pe_call (ok_law_take T) (hr.mono (by decide)) rfl T.m_law_take T.F_law_take.kp T.b_law_take .nil pass0 (pa_cons (pv 0) (pa_cons pe_int pa_nil)))))) pss_nil)
      (pss_cons (ps_if (pt_cmpR op_eq (pv 1) pe_int (nomark _)) (pss_one (ps_ret (pe_op op_add (pe_op op_mul (pv 2) (pe_op op_pow pe_int pe_int)) (pe_call (ok_law_take T) (hr.mono (by decide)) rfl T.m_law_take T.F_law_take.kp T.b_law_take .nil pass0 (pa_cons (pv 0) (pa_cons pe_int pa_nil)))))) pss_nil)
      (pss_one (ps_ret (pe_op op_add (pe_op op_mul (pe_op op_sub (pe_call (ok_law_take T) (hr.mono (by decide)) rfl T.m_law_take T.F_law_take.kp T.b_law_take .nil pass0 (pa_cons (pv 0) (pa_cons pe_int pa_nil))) pe_int) (pe_op op_pow pe_int pe_int)) (pv 2))))))))), ?_⟩
    try dsimp only [L2.cxOf, L2.Cx.nox, L2.Cx.wish]
    change (_ : TS) _ ([some (.ref l), none, none] : St) _
    walk_at "rd"
    intro digit d0 d1
    walk_at "rd"
    intro small s0 s1
    walk_at "rd"
    refine Rd.ifd (fun c => ?_) (fun c => ?_)
    · walk_at "rd"
      exact k _ (by omega)
    · walk_at "rd"
      refine Rd.ifd (fun c2 => ?_) (fun c2 => ?_)
      · walk_at "rd"
        intro t t0 t1
        walk_at "rd"
        exact k _ (by omega)
      · walk_at "rd"
        refine Rd.ifd (fun c3 => ?_) (fun c3 => ?_)
        · walk_at "rd"
          intro t t0 t1
          walk_at "rd"
          exact k _ (by omega)
        · walk_at "rd"
          intro t t0 t1
          walk_at "rd"
          exact k _ (by omega)
theorem x_whole {H : Hp} {Q : VK} {E : XK} {l : Addr} (h : H l = some (Dk.DkO l)) (q : ∀ n : Int, n.natAbs < 2 ^ 120 → Q (.int n) H) : spWhole ([.ref l] ++ []) H Q E := ⟨l, rfl, h, q⟩
local macro_rules | `(tactic| walk_at "rd2") => `(tactic| ((with_reducible refine' Toy.x_whole ?h1 ?_); (case h1 => walk_at "hp")))
def spParts (K : PySem.W.Frag) : Sp := fun vs H Q _ => ∃ (l : Addr) (m : Int), vs = [.ref l, .int m] ∧ H l = some (Dk.DkO l) ∧ 1 ≤ m ∧ m ≤ 6 ∧
  ∀ (p lr : Addr) (ws : List V) (rs : List Row4) (H' : Hp), Evl.Ex H H' → H p = none → H lr = none → H' p = some (.tup [.int rs.length, .ref lr]) → H' lr = some (.lst ws) → DpAll K H' ws (rs.map rowD) → OkRows rs → 1 ≤ rs.length → rs.length ≤ 6 → Q (.ref p) H'
theorem wide_at {k : Int} (h0 : 0 ≤ k) (h1 : k < 6) : ∃ w : Int, atI [V.int 0, .int 1, .int 2, .int 5, .int 1000000, .int 10000000000000000000000000000000] k = some (.int w) ∧ 0 ≤ w ∧ w ≤ 10000000000000000000000000000000 := by
  rcases (by omega : k = 0 ∨ k = 1 ∨ k = 2 ∨ k = 3 ∨ k = 4 ∨ k = 5) with rfl | rfl | rfl | rfl | rfl | rfl <;> exact ⟨_, rfl, by decide, by decide⟩
theorem ok_law_parts {ad : Ad} (T : Txt K mg ad) : FnOk P w K mg base CX0 3 ad.a_law_parts ad.d_law_parts ["deck", "most"] (spParts K) := by
  refine T.F_law_parts.ok sc_law_parts (fun vs H Q E h => ?_) (fun cdv A outer s H vs Q E hr h => ?_)
  · obtain ⟨l, m, rfl, h1, hm1, hm6, k⟩ := h
    rfl
  · obtain ⟨l, m, rfl, h1, hm1, hm6, k⟩ := h
    refine ⟨_, (pss_cons (ps_set (i := 2) sc_law_parts.nd rfl (Or.inl rfl) (pe_op op_add pe_int (pe_call (ok_law_take T) (hr.mono (by decide)) rfl T.m_law_take T.F_law_take.kp T.b_law_take .nil pass0 (pa_cons (pv 0) (pa_cons (pv 1) pa_nil)))))
      (pss_cons (ps_set (i := 3) sc_law_parts.nd rfl (Or.inl rfl) (pe_lst pa_nil))
      (pss_cons (ps_for PassesOwn.never rfl (pi_range1 rfl T.z_range (pa_cons (pv 2) pa_nil)) (pg_name (i := 4) sc_law_parts.nd rfl (Or.inl rfl)) (pss_cons (ps_set (i := 5) sc_law_parts.nd rfl (Or.inl rfl) pe_non)
      (Evl.pss_cut (ps_if (pt_cmpR op_gt (pe_call (ok_law_take T) (hr.mono (by decide)) rfl T.m_law_take T.F_law_take.kp T.b_law_take .nil pass0 (pa_cons (pv 0) (pa_cons pe_int pa_nil))) pe_int (nomark _)) (pss_cons (ps_set (i := 6) sc_law_parts.nd rfl (Or.inl rfl) (pe_call (ok_law_whole T) (hr.mono (by decide)) rfl T.m_law_whole T.F_law_whole.kp T.b_law_whole .nil pass0 (pa_cons (pv 0) pa_nil)))
      (pss_cons (ps_set (i := 7) sc_law_parts.nd rfl (Or.inl rfl) (pe_ix ix_list (pe_lst (pa_cons pe_int (pa_cons pe_int (pa_cons pe_int (pa_cons pe_int (pa_cons (pe_op op_pow pe_int pe_int) (pa_cons (pe_op op_pow pe_int pe_int) pa_nil))))))) (pe_call (ok_law_take T) (hr.mono (by decide)) rfl T.m_law_take T.F_law_take.kp T.b_law_take .nil pass0 (pa_cons (pv 0) (pa_cons pe_int pa_nil))) (fun _ _ => rfl)))
      (pss_one (ps_set (i := 5) sc_law_parts.nd rfl (Or.inl rfl) (pe_tup (pa_cons (pe_call (ok_law_whole T) (hr.mono (by decide)) rfl T.m_law_whole T.F_law_whole.kp T.b_law_whole .nil pass0 (pa_cons (pv 0) pa_nil)) (pa_cons (pe_call (ok_law_whole T) (hr.mono (by decide)) rfl T.m_law_whole T.F_law_whole.kp T.b_law_whole .nil pass0 (pa_cons (pv 0) pa_nil)) (pa_cons (pv 6) (pa_cons (pe_op op_add (pv 6) (pv 7)) pa_nil))))))))) pss_nil)
      (pss_one (ps_expr (pe_bm PySem.F.plainAttrs_list PySem.F.slot_list_append PySem.F.type_list_append mt_append (pv 3) (pa_cons (pv 5) pa_nil)))))))
      (pss_one (ps_ret (pe_tup (pa_cons (pv 2) (pa_cons (pv 3) pa_nil)))))))), ?_⟩
    try dsimp only [L2.cxOf, L2.Cx.nox, L2.Cx.wish]
    change (_ : TS) _ ([some (.ref l), some (.int m), none, none, none, none, none, none] : St) _
    have cl_CodeMap := T.cl_CodeMap
    have n_CodeMap_images := T.n_CodeMap_images
    have cl_NumberMap := T.cl_NumberMap
    have n_NumberMap_period := T.n_NumberMap_period
    have n_NumberMap_rows := T.n_NumberMap_rows
    have cl_TextMap := T.cl_TextMap
    have n_TextMap_ends := T.n_TextMap_ends
    have n_TextMap_letters := T.n_TextMap_letters
    have n_TextMap_rows := T.n_TextMap_rows
    walk_at "rd"
    intro n0 hn0 hn1
    walk_at "rd"
    refine Rd.xlst rfl fun lr H1 nl e1 hl => ?_
    walk_at "rd"
    refine Rd.xfr1 ⟨by omega, by omega⟩ (fun i σ H' => ∃ (ws : List V) (rs : List Row4) (v4 v5 v6 v7 : Option V), σ = [some (.ref l), some (.int m), some (.int (1 + n0)), some (.ref lr), v4, v5, v6, v7] ∧ Evl.Ex H H' ∧ H' lr = some (.lst ws) ∧ DpAll K H' ws (rs.map rowD) ∧ OkRows rs ∧ rs.length = i)
      ⟨[], [], none, none, none, none, rfl, e1, hl, .nil, okNil, rfl⟩ ?_ ?_
    · rintro i σ H2 hi ⟨ws, rs, v4, v5, v6, v7, rfl, e2, hw, hd, ok, hlen⟩
      walk_at "rd"
      refine ⟨fun σ H' => ∃ (r : Row4) (v : V) (v6 v7 : Option V), σ = [some (.ref l), some (.int m), some (.int (1 + n0)), some (.ref lr), some (.int i), some v, v6, v7] ∧ Evl.Ex H2 H' ∧ Dp K H' v (rowD r) ∧ OkRow r, ?_, ?_⟩
      · walk_at "rd"
        intro c hc0 hc1
        walk_at "rd"
        refine Rd.ifd (fun h5 => ?_) (fun h5 => ?_)
        · walk_at "rd"
          intro low hlow
          walk_at "rd"
          refine Rd.xlst rfl fun p3 H3 n3 e3 h3 => ?_
          walk_at "rd"
          intro k6 k60 k61
          obtain ⟨wd, hwd, hwd0, hwd1⟩ := wide_at k60 k61
          refine Rd.ixL (SqL.of h3) hwd ?_
          walk_at "rd"
          intro a ha
          walk_at "rd"
          intro b hb
          walk_at "rd"
          refine Rd.xtup rfl fun p4 H4 n4 e4 h4 => ?_
          walk_at "rd"
          refine ⟨some (a, b, low, low + wd), _, _, _, rfl, e3.trans e4, Dt.ofT h4 (.cons (.int _) (.cons (.int _) (.cons (.int _) (.cons (.int _) .nil)))), ?_⟩
          intro a' b' c' d' e
          cases e
          refine ⟨by omega, by omega, by omega, ?_, by omega⟩
          omega
        · walk_at "rd"
          exact ⟨none, _, _, _, rfl, Evl.Ex.refl _, .non, fun _ _ _ _ e => by cases e⟩
      · rintro σ H3 ⟨r, v, v6, v7, rfl, e3, hv, hr⟩
        have hws : ws.length = i := by rw [Dt.lenA hd, List.length_map, hlen]
        have hw3 := e3 _ _ hw
        walk_at "rd"
        refine Rd.append hw3 (by omega) ?_
        walk_at "rd"
        have hnl : H lr = none := nl
        refine ⟨ws ++ [v], rs ++ [r], _, _, _, _, rfl, Evl.Ex.mut (e2.trans e3) hnl, upd_same, ?_, ?_, by rw [List.length_append, hlen]; rfl⟩
        · have hall : DpAll K H3 (ws ++ [v]) ((rs ++ [r]).map rowD) := by
            rw [List.map_append]
            exact Dt.snocA (Dt.mnA hd e3) hv
          exact rowsA_upd hw3 hall
        · intro r' hr'
          rcases List.mem_append.mp hr' with h | h
          · exact ok r' h
          · rw [List.mem_singleton.mp h]; exact hr
    · rintro σ H2 ⟨ws, rs, v4, v5, v6, v7, rfl, e2, hw, hd, ok, hlen⟩
      have hlen' : (1 + n0 : Int) = (rs.length : Int) := by omega
      walk_at "rd"
      refine Rd.xtup rfl fun p H3 n3 e3 h3 => ?_
      walk_at "rd"
      rw [hlen'] at h3
      exact k p lr ws rs H3 (e2.trans e3) (Evl.fresh_back e2 n3) nl h3 (e3 _ _ hw) (Dt.mnA hd e3) ok (by omega) (by omega)

/-! ### the law's own machines -/
theorem ok_one {z : Str} {k c : Nat} (h : PyData.strOk z = true) (e : z.cps.toList[k]? = some c) : PyData.strOk ⟨#[c]⟩ = true := by
  have h2 : z.cps.all (· < 0x110000) = true := h
  have h3 := Array.all_eq_true'.mp h2 c (by rw [← Array.mem_toList_iff]; exact List.mem_of_getElem? e)
  show (#[c] : Array Nat).all (· < 0x110000) = true
  simp only [Array.all_eq_true', List.mem_toArray, List.mem_singleton]
  intro x hx
  have hx2 : x = c := by simpa using hx
  rw [hx2]; exact h3
def spWord : Sp := fun vs H Q _ => ∃ (dk : Addr) (sg : Str) (m : Int), vs = [.ref dk, .str sg, .int m] ∧ H dk = some (Dk.DkO dk) ∧ 0 ≤ m ∧ m ≤ 10 ∧ 1 ≤ sg.length ∧ sg.length ≤ 100 ∧ PyData.strOk sg = true ∧ ∀ w : Str, (w.length : Int) ≤ m → PyData.strOk w = true → Q (.str w) H
theorem ok_law_word {ad : Ad} (T : Txt K mg ad) : FnOk P w K mg base CX0 2 ad.a_law_word ad.d_law_word ["deck", "signs", "most"] (spWord) := by
  refine T.F_law_word.ok sc_law_word (fun vs H Q E h => ?_) (fun cdv A outer s H vs Q E hr h => ?_)
  · obtain ⟨dk, sg, m, rfl, hD, hm0, hm1, hs1, hs2, hso, k⟩ := h
    rfl
  · obtain ⟨dk, sg, m, rfl, hD, hm0, hm1, hs1, hs2, hso, k⟩ := h
    refine ⟨_, (pss_cons (ps_set (i := 3) sc_law_word.nd rfl (Or.inl rfl) pe_str)
      (pss_cons (ps_for PassesOwn.never rfl (pi_range1 rfl T.z_range (pa_cons (pe_call (ok_law_take T) (hr.mono (by decide)) rfl T.m_law_take T.F_law_take.kp T.b_law_take .nil pass0 (pa_cons (pv 0) (pa_cons (pe_op op_add (pv 2) pe_int) pa_nil))) pa_nil)) (pg_name (i := 4) sc_law_word.nd rfl (Or.inl rfl)) (pss_one (ps_set (i := 3) sc_law_word.nd rfl (Or.inl rfl) (pe_op Rd.op_addS (pv 3) (pe_ix ix_str (pv 1) (pe_call (ok_law_take T) (hr.mono (by decide)) rfl T.m_law_take T.F_law_take.kp T.b_law_take .nil pass0 (pa_cons (pv 0) (pa_cons (pe_callB (id := "len") Rd.c_lenS (by rfl) T.z_len (by decide +kernel) (pa_cons (pv 1) pa_nil)) pa_nil))) (fun _ _ => rfl))))))
      (pss_one (ps_ret (pv 3))))), ?_⟩
    try dsimp only [L2.cxOf, L2.Cx.nox, L2.Cx.wish]
    change (_ : TS) _ ([some (.ref dk), some (.str sg), some (.int m), none, none] : St) _
    walk_at "rd"
    intro n n0 n1
    walk_at "rd"
    refine Rd.xfr1 ⟨by omega, by omega⟩ (fun i σ H' => ∃ (w : Str) (v4 : Option V), w.length ≤ i ∧ PyData.strOk w = true ∧ σ = [some (.ref dk), some (.str sg), some (.int m), some (.str w), v4] ∧ H = H')
      ⟨_, _, Nat.le_refl _, by decide +kernel, rfl, rfl⟩ ?_ ?_
    · rintro i σ H' hi ⟨w, v4, hwl, hwo, rfl, rfl⟩
      walk_at "rd"
      refine Rd.lenS (by omega) ?_
      walk_at "rd"
      intro t t0 t1
      have hc : sg.cps.toList[t.toNat]? = some (sg.cps.toList[t.toNat]'(by have : sg.cps.toList.length = sg.length := rfl; omega)) := List.getElem?_eq_getElem _
      generalize sg.cps.toList[t.toNat]'(by have : sg.cps.toList.length = sg.length := rfl; omega) = c at hc
      refine Rd.ixS (by omega) (Rd.atI_i t0 hc) ?_
      have e1 : (⟨#[c]⟩ : Str).length = 1 := rfl
      refine Rd.catS (by omega) ?_
      walk_at "rd"
      exact ⟨w ++ ⟨#[c]⟩, _, by rw [len_app]; omega, ok_app hwo (ok_one hso hc), rfl, rfl⟩
    · rintro σ H' ⟨w, v4, hwl, hwo, rfl, rfl⟩
      walk_at "rd"
      exact k w (by omega) hwo
/-- letters, lists of steps and ends in a tuple -/
def PartsAt (K : PySem.W.Frag) (H : Hp) (p : Addr) (L : Str) (R : List (List Step)) (E : List (Option Str)) : Prop := ∃ r e : Addr, SqT K H p [.str L, .ref r, .ref e] ∧ Dp K H (.ref r) (dRows R) ∧ Dp K H (.ref e) (dEnds E)
theorem PartsAt.mono {H H' : Hp} {p : Addr} {L : Str} {R : List (List Step)} {E : List (Option Str)} (h : PartsAt K H p L R E) (e : Evl.Ex H H') : PartsAt K H' p L R E := by
  obtain ⟨r, a, h1, h2, h3⟩ := h
  exact ⟨r, a, Evl.ex_t e h1, Dt.mn h2 e, Dt.mn h3 e⟩
/-- rows and ends under way -/
structure MkM (K : PySem.W.Frag) (G H : Hp) (rl el : Addr) (n S i : Nat) (as : List Addr) (R : List (List Step)) (E : List (Option Str)) : Prop where
  bl : Bld K G H as R
  at_r : H rl = some (.lst (as.map V.ref))
  at_e : H el = some (.lst (E.map eV))
  g_r : ∃ u, G rl = some u
  g_e : ∃ u, G el = some u
  low : ∀ b, H b = none → G b = none
  lr : R.length = i
  le : E.length = i
  wid : ∀ r ∈ R, r.length = n
  tgt : ∀ r ∈ R, ∀ q w, some (q, w) ∈ r → q < S ∧ w.length ≤ 3 ∧ PyData.strOk w = true
  enw : ∀ w, some w ∈ E → w.length ≤ 2 ∧ PyData.strOk w = true
/-- a row under way -/
structure MkR (K : PySem.W.Frag) (G H4 H : Hp) (ro : Addr) (S j : Nat) (vs : List V) (st : List Step) : Prop where
  at_ : H ro = some (.lst vs)
  dp : DpAll K H vs (st.map dS)
  len : st.length = j
  tgt : ∀ q w, some (q, w) ∈ st → q < S ∧ w.length ≤ 3 ∧ PyData.strOk w = true
  kp : ∀ b o, b ≠ ro → H4 b = some o → H b = some o
  low : ∀ b, H b = none → G b = none
theorem noL_all (st : List Step) : ∀ d ∈ st.map dS, Dt.noL d = true := fun d hd => by
  obtain ⟨s, _, rfl⟩ := List.mem_map.mp hd
  exact noL_dS s
theorem Bld.but {G H4 H : Hp} {ro : Addr} {vs0 vs : List V} {as : List Addr} {R : List (List Step)} (b : Bld K G H4 as R) (h4 : H4 ro = some (.lst vs0)) (h : H ro = some (.lst vs)) (g : G ro = none) (ne : ∀ a ∈ as, a ≠ ro) (kp : ∀ b o, b ≠ ro → H4 b = some o → H b = some o) : Bld K G H as R := ⟨b.len, fun k a s h1 h2 => by
  obtain ⟨g, ws, h3, d⟩ := b.rw k a s h1 h2
  refine ⟨g, ws, kp _ _ (ne a (List.mem_of_getElem? h1)) h3, ?_⟩
  have z := Dt.updLA (K := K) (o := .lst vs) h4 _ ws (noL_all s) d
  refine Dt.mnA z fun b o hb => ?_
  by_cases hbr : b = ro
  · rw [hbr, upd_same] at hb; rw [hbr, h]; exact hb
  · rw [upd_ne hbr] at hb; exact kp b o hbr hb⟩
theorem Bld.neq {G H H' : Hp} {ro : Addr} {as : List Addr} {R : List (List Step)} (b : Bld K G H as R) (n : H ro = none) : ∀ a ∈ as, a ≠ ro := fun a ha => by
  obtain ⟨k, hk⟩ := List.getElem?_of_mem ha
  obtain ⟨st, hst⟩ : ∃ st, R[k]? = some st := ⟨_, List.getElem?_eq_getElem (by rw [← b.len]; exact (List.getElem?_eq_some_iff.mp hk).1)⟩
  obtain ⟨_, vs, h, _⟩ := b.rw k a st hk hst
  exact ne_of_none h n
def spMachine (K : PySem.W.Frag) : Sp := fun vs H Q _ => ∃ (dk : Addr) (L sg : Str) (m : Int), vs = [.ref dk, .str L, .str sg, .int m] ∧ H dk = some (Dk.DkO dk) ∧ L.length ≤ 100 ∧ 1 ≤ m ∧ m ≤ 10 ∧ 1 ≤ sg.length ∧ sg.length ≤ 100 ∧ PyData.strOk sg = true ∧
  ∀ p R E H', Evl.Ex H H' → MachOk L.length R E → (∀ r ∈ R, ∀ q w, some (q, w) ∈ r → w.length ≤ 3) → (∀ w, some w ∈ E → w.length ≤ 2) → R.length ≤ m.toNat → PartsAt K H' p L R E → Q (.ref p) H'
theorem ok_law_machine {ad : Ad} (T : Txt K mg ad) : FnOk P w K mg base CX0 3 ad.a_law_machine ad.d_law_machine ["deck", "letters", "signs", "most"] (spMachine K) := by
  refine T.F_law_machine.ok sc_law_machine (fun vs H Q E h => ?_) (fun cdv A outer s H vs Q E hr h => ?_)
  · obtain ⟨dk, L, sg, m, rfl, hD, hL, hm0, hm1, hs1, hs2, hso, k⟩ := h
    rfl
  · obtain ⟨dk, L, sg, m, rfl, hD, hL, hm0, hm1, hs1, hs2, hso, k⟩ := h
    refine ⟨_, (pss_cons (ps_set (i := 4) sc_law_machine.nd rfl (Or.inl rfl) (pe_op op_add pe_int (pe_call (ok_law_take T) (hr.mono (by decide)) rfl T.m_law_take T.F_law_take.kp T.b_law_take .nil pass0 (pa_cons (pv 0) (pa_cons (pv 3) pa_nil)))))
      (pss_cons (ps_set (i := 5) sc_law_machine.nd rfl (Or.inl rfl) (pe_lst pa_nil))
      (pss_cons (ps_set (i := 6) sc_law_machine.nd rfl (Or.inl rfl) (pe_lst pa_nil))
      (pss_cons (ps_for PassesOwn.never rfl (pi_range1 rfl T.z_range (pa_cons (pv 4) pa_nil)) (pg_name (i := 7) sc_law_machine.nd rfl (Or.inl rfl)) (pss_cons (ps_set (i := 8) sc_law_machine.nd rfl (Or.inl rfl) (pe_lst pa_nil))
      (pss_cons (ps_for PassesOwn.never rfl (pi_str (pv 1)) (pg_name (i := 9) sc_law_machine.nd rfl (Or.inl rfl)) (pss_cons (ps_set (i := 10) sc_law_machine.nd rfl (Or.inl rfl) pe_non)
      (Evl.pss_cut (ps_if (pt_cmpR op_gt (pe_call (ok_law_take T) (hr.mono (by decide)) rfl T.m_law_take T.F_law_take.kp T.b_law_take .nil pass0 (pa_cons (pv 0) (pa_cons pe_int pa_nil))) pe_int (nomark _)) (pss_one (ps_set (i := 10) sc_law_machine.nd rfl (Or.inl rfl) (pe_tup (pa_cons (pe_call (ok_law_take T) (hr.mono (by decide)) rfl T.m_law_take T.F_law_take.kp T.b_law_take .nil pass0 (pa_cons (pv 0) (pa_cons (pv 4) pa_nil))) (pa_cons (pe_call (ok_law_word T) (hr.mono (by decide)) rfl T.m_law_word T.F_law_word.kp T.b_law_word .nil pass0 (pa_cons (pv 0) (pa_cons (pv 2) (pa_cons pe_int pa_nil)))) pa_nil))))) pss_nil)
      (pss_one (ps_expr (pe_bm PySem.F.plainAttrs_list PySem.F.slot_list_append PySem.F.type_list_append mt_append (pv 8) (pa_cons (pv 10) pa_nil)))))))
      (pss_cons (ps_expr (pe_bm PySem.F.plainAttrs_list PySem.F.slot_list_append PySem.F.type_list_append mt_append (pv 5) (pa_cons (pv 8) pa_nil)))
      (pss_cons (ps_set (i := 11) sc_law_machine.nd rfl (Or.inl rfl) pe_non)
      (Evl.pss_cut (ps_if (pt_cmpR op_gt (pe_call (ok_law_take T) (hr.mono (by decide)) rfl T.m_law_take T.F_law_take.kp T.b_law_take .nil pass0 (pa_cons (pv 0) (pa_cons pe_int pa_nil))) pe_int (nomark _)) (pss_one (ps_set (i := 11) sc_law_machine.nd rfl (Or.inl rfl) (pe_call (ok_law_word T) (hr.mono (by decide)) rfl T.m_law_word T.F_law_word.kp T.b_law_word .nil pass0 (pa_cons (pv 0) (pa_cons (pv 2) (pa_cons pe_int pa_nil)))))) pss_nil)
      (pss_one (ps_expr (pe_bm PySem.F.plainAttrs_list PySem.F.slot_list_append PySem.F.type_list_append mt_append (pv 6) (pa_cons (pv 11) pa_nil))))))))))
      (pss_one (ps_ret (pe_tup (pa_cons (pv 1) (pa_cons (pv 5) (pa_cons (pv 6) pa_nil)))))))))), ?_⟩
    try dsimp only [L2.cxOf, L2.Cx.nox, L2.Cx.wish]
    change (_ : TS) _ ([some (.ref dk), some (.str L), some (.str sg), some (.int m), none, none, none, none, none, none, none, none] : St) _
    have cl_CodeMap := T.cl_CodeMap
    have n_CodeMap_images := T.n_CodeMap_images
    have cl_NumberMap := T.cl_NumberMap
    have n_NumberMap_period := T.n_NumberMap_period
    have n_NumberMap_rows := T.n_NumberMap_rows
    have cl_TextMap := T.cl_TextMap
    have n_TextMap_ends := T.n_TextMap_ends
    have n_TextMap_letters := T.n_TextMap_letters
    have n_TextMap_rows := T.n_TextMap_rows
    walk_at "rd"
    intro s0 s00 s01
    obtain ⟨S, hS⟩ : ∃ S : Nat, (1 + s0 : Int) = (S : Int) := ⟨(1 + s0).toNat, by omega⟩
    have hSm : S ≤ m.toNat := by omega
    have hS1 : 1 ≤ S := by omega
    walk_at "rd"
    rw [hS]
    refine Rd.xlst rfl fun rl H1 n1 e1 hrl => ?_
    walk_at "rd"
    refine Rd.xlst rfl fun el H2 n2 e2 hel => ?_
    have hrl2 := e2 _ _ hrl
    have e02 := e1.trans e2
    have nel0 : H el = none := Evl.fresh_back e1 n2
    clear hS s00 s01
    walk_at "rd"
    refine Rd.xfr1 ⟨by omega, by omega⟩ (fun i σ H' => ∃ (as : List Addr) (R : List (List Step)) (E : List (Option Str)) (v7 v8 v9 v10 v11 : Option V), σ = [some (.ref dk), some (.str L), some (.str sg), some (.int m), some (.int S), some (.ref rl), some (.ref el), v7, v8, v9, v10, v11] ∧
        MkM K H2 H' rl el L.length S i as R E ∧ Evl.Ex H H')
      ⟨[], [], [], _, _, _, _, _, rfl, ⟨.nil, hrl2, hel, ⟨_, hrl2⟩, ⟨_, hel⟩, fun b h => h, rfl, rfl, fun r h => (by cases h), fun r h => (by cases h), fun w h => (by cases h)⟩, e02⟩ ?_ ?_
    · rintro i σ H3 hi ⟨as, R, E, v7, v8, v9, v10, v11, rfl, hM, e3⟩
      have hD3 := e3 _ _ hD
      walk_at "rd"
      refine Rd.xlst rfl fun ro H4 n4 e4 hro => ?_
      have hB4 := hM.bl.ex e4
      have hrl4 := e4 _ _ hM.at_r
      have hel4 := e4 _ _ hM.at_e
      have nr0 : H ro = none := Evl.fresh_back e3 n4
      have nr2 : ro ≠ rl := Ne.symm (ne_of_none hM.at_r n4)
      have nr3 : ro ≠ el := Ne.symm (ne_of_none hM.at_e n4)
      have nr4 := hM.bl.neq (H' := H4) n4
      have g20 := hM.low _ n4
      walk_at "rd"
      refine Rd.xfs (fun j σ H' => ∃ (vs : List V) (st : List Step) (v9 v10 v11 : Option V), σ = [some (.ref dk), some (.str L), some (.str sg), some (.int m), some (.int S), some (.ref rl), some (.ref el), some (.int (i : Int)), some (.ref ro), v9, v10, v11] ∧
          MkR K H2 H4 H' ro S j vs st ∧ Evl.Ex H H')
        ⟨[], [], _, _, _, rfl, ⟨hro, .nil, rfl, fun q w h => (by cases h), fun b o _ h => h, fun b h => hM.low b (Evl.fresh_back e4 h)⟩, e3.trans e4⟩ ?_ ?_
      · rintro j c σ H5 hc ⟨vs, st, v9, v10, v11, rfl, hR, e5⟩
        have hD5 := e5 _ _ hD
        have hj : j < 100 := by
          have : j < L.cps.size := (Array.getElem?_eq_some_iff.mp hc).1
          have : L.cps.size = L.length := rfl
          omega
        walk_at "rd"
        refine ⟨fun σ H' => ∃ (y : V) (s : Step) (v9 : Option V), σ = [some (.ref dk), some (.str L), some (.str sg), some (.int m), some (.int S), some (.ref rl), some (.ref el), some (.int (i : Int)), some (.ref ro), v9, some y, v11] ∧ Evl.Ex H5 H' ∧ Dp K H' y (dS s) ∧ (∀ q w, s = some (q, w) → q < S ∧ w.length ≤ 3 ∧ PyData.strOk w = true), ?_, ?_⟩
        · walk_at "rd"
          intro t t0 t1
          walk_at "rd"
          refine Rd.ifd (fun c0 => ?_) (fun c0 => ?_)
          · walk_at "rd"
            intro u u0 u1
            walk_at "rd"
            refine ⟨dk, sg, 3, rfl, hD5, by decide, by decide, hs1, hs2, hso, fun w hw hwo => ?_⟩
            walk_at "rd"
            refine Rd.xtup rfl fun tp H6 n6 e6 htp => ?_
            walk_at "rd"
            have hu : (u.toNat : Int) = u := Int.toNat_of_nonneg u0
            exact ⟨_, some (u.toNat, w), _, rfl, e6, Dt.ofT htp (.cons (by rw [hu]; exact .int _) (.cons (.str _) .nil)), fun q w' h => by cases h; exact ⟨by omega, by omega, hwo⟩⟩
          · walk_at "rd"
            exact ⟨_, none, _, rfl, Evl.Ex.refl _, .non, fun q w h => by cases h⟩
        · rintro σ H6 ⟨y, s, v9', rfl, e6, hy, hsok⟩
          have hro6 := e6 _ _ hR.at_
          walk_at "rd"
          refine Rd.append hro6 (by rw [itLen hR.dp, hR.len]; omega) ?_
          walk_at "rd"
          refine ⟨vs ++ [y], st ++ [s], _, _, _, rfl, ⟨upd_same, ?_, by rw [List.length_append, hR.len]; rfl, fun q w h => ?_, fun b o hb hbo => (upd_ne hb).trans (e6 _ _ (hR.kp b o hb hbo)), fun b h => ?_⟩, Evl.Ex.mut (e5.trans e6) nr0⟩
          · rw [List.map_append]
            exact Dt.appA (stA_upd hro6 (Dt.mnA hR.dp e6)) (stA_upd (st := [s]) hro6 (Dt.oneA hy))
          · rcases List.mem_append.mp h with h | h
            · exact hR.tgt q w h
            · exact hsok q w (List.mem_singleton.mp h).symm
          · have hb : b ≠ ro := fun z => by rw [z, upd_same] at h; cases h
            rw [upd_ne hb] at h
            exact hR.low b (Evl.fresh_back e6 h)
      · rintro σ H5 ⟨vs, st, v9', v10', v11', rfl, hR, e5⟩
        have hrl5 := hR.kp _ _ (Ne.symm nr2) hrl4
        have hel5 := hR.kp _ _ (Ne.symm nr3) hel4
        have hB5 := hB4.but hro hR.at_ g20 nr4 hR.kp
        obtain ⟨ur, gr⟩ := hM.g_r
        obtain ⟨ue, ge⟩ := hM.g_e
        have nre : rl ≠ el := fun z => by rw [z, n2] at hrl; cases hrl
        have hD5 := e5 _ _ hD
        have hasl := hB5.len
        have hRl := hM.lr
        walk_at "rd"
        refine Rd.append hrl5 (by rw [List.length_map, hasl, hRl]; omega) ?_
        have hB6 := (hB5.snoc g20 hR.at_ hR.dp).upd (o := .lst (as.map V.ref ++ [V.ref ro])) gr hrl5
        have hel6 : (upd H5 rl (.lst (as.map V.ref ++ [V.ref ro]))) el = some (.lst (E.map eV)) := (upd_ne (Ne.symm nre)).trans hel5
        have hrl6 : (upd H5 rl (.lst (as.map V.ref ++ [V.ref ro]))) rl = some (.lst ((as ++ [ro]).map V.ref)) := by rw [List.map_append]; exact upd_same
        have hD6 : (upd H5 rl (.lst (as.map V.ref ++ [V.ref ro]))) dk = some (Dk.DkO dk) := (upd_ne (fun z => by rw [z, n1] at hD; cases hD)).trans hD5
        have low6 : ∀ b, (upd H5 rl (.lst (as.map V.ref ++ [V.ref ro]))) b = none → H2 b = none := fun b h => by
          have hb : b ≠ rl := fun z => by rw [z, upd_same] at h; cases h
          rw [upd_ne hb] at h
          exact hR.low b h
        have e6 : Evl.Ex H (upd H5 rl (.lst (as.map V.ref ++ [V.ref ro]))) := Evl.Ex.mut e5 n1
        have hwid := hR.len
        have hLs : st.length = L.length := hwid.trans rfl
        generalize upd H5 rl (.lst (as.map V.ref ++ [V.ref ro])) = H6 at *
        walk_at "rd"
        refine ⟨fun σ H' => ∃ (o : Option Str), σ = [some (.ref dk), some (.str L), some (.str sg), some (.int m), some (.int S), some (.ref rl), some (.ref el), some (.int (i : Int)), some (.ref ro), v9', v10', some (eV o)] ∧ H6 = H' ∧ (∀ w, o = some w → w.length ≤ 2 ∧ PyData.strOk w = true), ?_, ?_⟩
        · walk_at "rd"
          intro t t0 t1
          walk_at "rd"
          refine Rd.ifd (fun c0 => ?_) (fun c0 => ?_)
          · walk_at "rd"
            refine ⟨dk, sg, 2, rfl, hD6, by decide, by decide, hs1, hs2, hso, fun w hw hwo => ?_⟩
            walk_at "rd"
            exact ⟨some w, rfl, rfl, fun w' h => by cases h; exact ⟨by omega, hwo⟩⟩
          · walk_at "rd"
            exact ⟨none, rfl, rfl, fun w h => by cases h⟩
        · rintro σ H7 ⟨o, rfl, rfl, ho⟩
          walk_at "rd"
          refine Rd.append hel6 (by rw [List.length_map, hM.le]; omega) ?_
          walk_at "rd"
          refine ⟨as ++ [ro], R ++ [st], E ++ [o], _, _, _, _, _, rfl, ⟨hB6.upd ge hel6, (upd_ne nre).trans hrl6, by rw [List.map_append]; exact upd_same, ⟨_, gr⟩, ⟨_, ge⟩, fun b h => ?_, by rw [List.length_append, hRl]; rfl, by rw [List.length_append, hM.le]; rfl, fun r h => ?_, fun r h => ?_, fun w h => ?_⟩, Evl.Ex.mut e6 nel0⟩
          · have hb : b ≠ el := fun z => by rw [z, upd_same] at h; cases h
            rw [upd_ne hb] at h
            exact low6 b h
          · rcases List.mem_append.mp h with h | h
            · exact hM.wid r h
            · cases List.mem_singleton.mp h; exact hLs
          · rcases List.mem_append.mp h with h | h
            · exact hM.tgt r h
            · cases List.mem_singleton.mp h; exact hR.tgt
          · rcases List.mem_append.mp h with h | h
            · exact hM.enw w h
            · exact ho w (List.mem_singleton.mp h).symm
    · rintro σ H3 ⟨as, R, E, v7, v8, v9, v10, v11, rfl, hM, e3⟩
      walk_at "rd"
      refine Rd.xtup rfl fun p H4 np e4 hp => ?_
      have hRl : R.length = S := hM.lr
      have hEl : E.length = S := hM.le
      refine k p R E H4 (e3.trans e4) ⟨by omega, by omega, by omega, hM.wid, fun r hr q w h => ?_, fun w h => ?_⟩ (fun r hr q w h => (hM.tgt r hr q w h).2.1) (fun w h => (hM.enw w h).1) (by omega) ⟨rl, el, SqT.of hp, Dt.mn (hM.bl.dp hM.at_r) e4, Dt.mn (Dt.ofL hM.at_e (endsA E)) e4⟩
      · obtain ⟨a, b, c⟩ := hM.tgt r hr q w h
        exact ⟨by omega, by omega, c⟩
      · obtain ⟨a, b⟩ := hM.enw w h
        exact ⟨by omega, b⟩

/-! split -/
/-! ### what the maps take, plain -/
abbrev StI := Option (Int × Str)
def dI : StI → PyData
  | none => .none
  | some (n, w) => .tuple [.int n, .str w]
def dRI (r : List StI) : PyData := .list (r.map dI)
def dRsI (R : List (List StI)) : PyData := .list (R.map dRI)
def oI : Option Int → PyData
  | none => .none
  | some n => .int n
theorem dI_none {K : PySem.W.Frag} {H : Hp} {v : V} (h : Dp K H v (dI none)) : v = .non := Dt.inv_n h
theorem dI_some {K : PySem.W.Frag} {H : Hp} {v : V} {n : Int} {w : Str} (h : Dp K H v (dI (some (n, w)))) : ∃ p, v = .ref p ∧ SqT K H p [.int n, .str w] := by
  obtain ⟨a, xs, rfl, hs, hA⟩ := Dt.inv_t h
  cases hA with
  | cons h1 h2 => cases h2 with
    | cons h2 h3 =>
      cases h3; cases h1; cases h2
      exact ⟨a, rfl, hs⟩
def NOk (p : Int) (rs : List Row4) : Prop := 1 ≤ p ∧ (rs.length : Int) = p ∧ ∀ a b c d, some (a, b, c, d) ∈ rs → c ≤ d
structure MOk (L : Str) (R : List (List StI)) (E : List (Option Str)) : Prop where
  own : ∀ (i c : Nat), L.cps.toList[i]? = some c → Txt.find L ⟨#[c]⟩ = (i : Int)
  pos : R.length ≠ 0
  ends : E.length = R.length
  wid : ∀ r ∈ R, r.length = L.length
  tgt : ∀ r ∈ R, ∀ q w, some (q, w) ∈ r → 0 ≤ q ∧ q < (R.length : Int)
def COk (os : List (Option Int)) : Prop := ∀ n : Int, some n ∈ os → 0 ≤ n
def RaiseI (X : Addr) (H : Hp) (E : XK) : Prop := ∀ (s : Str) (d : Addr) (H' : Hp), Evl.Ex H H' → H' d = some (.xd [("what", .str s)]) → E (.ref X) (some d) H'
theorem RaiseI.mono {X : Addr} {H H1 : Hp} {E : XK} (h : RaiseI X H E) (e : Evl.Ex H H1) : RaiseI X H1 E := fun s d H' e' hd => h s d H' (e.trans e') hd
/-! ### the makings -/
def spNMx (C X : Addr) (K : PySem.W.Frag) : Sp := fun vs H Q E => ∃ (x dx lr : Addr) (p : Int) (ws : List V) (rs : List Row4), vs = [.ref x, .int p, .ref lr] ∧ H x = some (.ins C dx []) ∧ SqL K H lr ws ∧ DpAll K H ws (rs.map rowD) ∧ rs.length ≤ 1000 ∧
  (¬ NOk p rs → RaiseI X H E) ∧ (NOk p rs → ∀ H', (∀ b o, b ≠ x → H b = some o → H' b = some o) → Q .non H')
theorem ok_NumberMap_init_ {ad : Ad} (T : Txt K mg ad) : FnOk P w K mg base (L2N.CX P w) 3 ad.a_NumberMap_init_ ad.d_NumberMap_init_ ["self", "period", "rows"] (spNMx ad.c_NumberMap ad.c_InvalidMap K) := by
  refine T.F_NumberMap_init_.okN sc_NumberMap_init_ (fun vs H Q E h => ?_) (fun cdv A outer s H vs Q E hr h => ?_)
  · obtain ⟨x, dx, lr, p, ws, rs, rfl, hx, hl, hd, hz, kB, kG⟩ := h
    rfl
  · obtain ⟨x, dx, lr, p, ws, rs, rfl, hx, hl, hd, hz, kB, kG⟩ := h
    refine ⟨_, (pss_cons (ps_if (pt_cmpR op_lt (pv 1) pe_int (nomark _)) (pss_one (L2N.ps_raise rfl (L2N.takes_of rfl rfl rfl rfl) (L2N.pmk_oex T.ox_InvalidMap T.ix_InvalidMap T.tx_InvalidMap (ok_InvalidMap_init_ T) (hr.mono (by decide)) T.b_InvalidMap_init_ .nil pass0 rfl T.mg_InvalidMap (pa_cons pe_str pa_nil)))) pss_nil)
      (pss_cons (ps_if (pt_cmpR op_ne (pe_callB (id := "len") Rd.c_len (by rfl) T.z_len (by decide +kernel) (pa_cons (pv 2) pa_nil)) (pv 1) (nomark _)) (pss_one (L2N.ps_raise rfl (L2N.takes_of rfl rfl rfl rfl) (L2N.pmk_oex T.ox_InvalidMap T.ix_InvalidMap T.tx_InvalidMap (ok_InvalidMap_init_ T) (hr.mono (by decide)) T.b_InvalidMap_init_ .nil pass0 rfl T.mg_InvalidMap (pa_cons pe_str pa_nil)))) pss_nil)
      (pss_cons (ps_for (passes_of rfl) rfl (pi_list (pv 2)) (pg_name (i := 3) sc_NumberMap_init_.nd rfl (Or.inl rfl)) (pss_one (ps_if (PW.pt (pw_and (pt_cmpR op_notN1 (pv 3) pe_non (nomark _)) (pw_and1 (pt_cmpR op_gt (pe_ix ix_tup (pv 3) pe_int (fun _ _ => rfl)) (pe_ix ix_tup (pv 3) pe_int (fun _ _ => rfl)) (nomark _))))) (pss_one (L2N.ps_raise rfl (L2N.takes_of rfl rfl rfl rfl) (L2N.pmk_oex T.ox_InvalidMap T.ix_InvalidMap T.tx_InvalidMap (ok_InvalidMap_init_ T) (hr.mono (by decide)) T.b_InvalidMap_init_ .nil pass0 rfl T.mg_InvalidMap (pa_cons pe_str pa_nil)))) pss_nil)))
      (pss_cons (ps_fld (pv 0) (pv 1) rfl)
      (pss_one (ps_fld (pv 0) (pe_callTy (T := "list") Rd.c_list (by rfl) T.z_list (by decide +kernel) (pa_cons (pv 2) pa_nil)) rfl)))))), ?_⟩
    try dsimp only [L2.cxOf, L2.Cx.nox, L2.Cx.wish]
    change (_ : TS) _ ([some (.ref x), some (.int p), some (.ref lr), none] : St) _
    have cl_CodeMap := T.cl_CodeMap
    have n_CodeMap_images := T.n_CodeMap_images
    have cl_NumberMap := T.cl_NumberMap
    have n_NumberMap_period := T.n_NumberMap_period
    have n_NumberMap_rows := T.n_NumberMap_rows
    have cl_TextMap := T.cl_TextMap
    have n_TextMap_ends := T.n_TextMap_ends
    have n_TextMap_letters := T.n_TextMap_letters
    have n_TextMap_rows := T.n_TextMap_rows
    have hlen : ws.length = rs.length := by rw [Dt.lenA hd, List.length_map]
    walk_at "rd"
    refine Rd.ifd (fun c1 => ?_) (fun c1 => ?_)
    · walk_at "rd"
      refine Rd.xmko1 (by decide) fun d H' nd e hd' => ?_
      exact kB (fun h => by have := h.1; omega) _ d H' e hd'
    · walk_at "rd"
      refine Rd.ifNd (fun c2 => ?_) (fun c2 => ?_)
      · walk_at "rd"
        refine Rd.xmko1 (by decide) fun d H' nd e hd' => ?_
        exact kB (fun h => c2 (by rw [hlen]; exact h.2.1)) _ d H' e hd'
      · walk_at "rd"
        refine Rd.xfl hl (fun i σ H' => ∃ v, σ = [some (.ref x), some (.int p), some (.ref lr), v] ∧ H' = H ∧ ∀ (j : Nat) (a b c d : Int), j < i → rs[j]? = some (some (a, b, c, d)) → c ≤ d) ⟨none, rfl, rfl, fun j a b c d hj => by omega⟩ (fun i σ H' _ ⟨_, _, e, _⟩ => by rw [e]; exact hl) ?_ ?_
        · rintro i y σ H' hi ⟨v, rfl, rfl, hno⟩
          obtain ⟨d, hd1, hd2⟩ := Dt.getA1 hd hi
          rw [List.getElem?_map] at hd1
          cases hr : rs[i]? with
          | none => rw [hr] at hd1; cases hd1
          | some r =>
            rw [hr] at hd1
            cases hd1
            have hstep : (∀ a b c d : Int, r = some (a, b, c, d) → c ≤ d) → ∀ (j : Nat) (a b c d : Int), j < i + 1 → rs[j]? = some (some (a, b, c, d)) → c ≤ d := fun h j a b c d hj hjr => by
              by_cases e : j = i
              · rw [e, hr] at hjr
                exact h a b c d (Option.some.inj hjr)
              · exact hno j a b c d (by omega) hjr
            cases r with
            | none =>
              cases row_none hd2
              walk_at "rd"
              exact ⟨_, rfl, rfl, hstep fun a b c d e => by cases e⟩
            | some r =>
              obtain ⟨a, b, c, d⟩ := r
              obtain ⟨pr, rfl, hp⟩ := row_some hd2
              walk_at "rd"
              refine Rd.ifd (fun c3 => ?_) (fun c3 => ?_)
              · walk_at "rd"
                refine Rd.xmko1 (by decide) fun d' H' nd e hd' => ?_
                exact kB (fun h => by have := h.2.2 a b c d (List.mem_of_getElem? hr); omega) _ d' H' e hd'
              · walk_at "rd"
                exact ⟨_, rfl, rfl, hstep fun a b c d e => by cases e; omega⟩
        · rintro σ H' ⟨v, rfl, rfl, hno⟩
          walk_at "rd"
          rw [pf_NumberMap_period]
          refine Rd.listOf (Dt.sql_ins hx hl) fun l2 H2 n2 e2 h2 => ?_
          walk_at "rd"
          rw [pf_NumberMap_rows]
          refine kG ⟨by omega, by rw [← hlen]; exact c2, fun a b c d hm => ?_⟩ _ fun b o hb hbo => ?_
          · obtain ⟨j, hj⟩ := List.getElem?_of_mem hm
            exact hno j a b c d (by rw [hlen]; exact (List.getElem?_eq_some_iff.mp hj).1) hj
          · rw [upd_ne hb]
            exact e2 _ _ (by rw [upd_ne hb]; exact hbo)
def spCheckX (X : Addr) (K : PySem.W.Frag) : Sp := fun vs H Q E' => ∃ (L : Str) (r e : Addr) (R : List (List StI)) (E : List (Option Str)), vs = [.str L, .ref r, .ref e] ∧ Dp K H (.ref r) (dRsI R) ∧ Dp K H (.ref e) (dEnds E) ∧ L.length ≤ 100 ∧ R.length ≤ 1000 ∧ E.length ≤ 1000 ∧
  (¬ MOk L R E → RaiseI X H E') ∧ (MOk L R E → Q .non H)
theorem ok_check_machine {ad : Ad} (T : Txt K mg ad) : FnOk P w K mg base (L2N.CX P w) 3 ad.a_check_machine ad.d_check_machine ["letters", "rows", "ends"] (spCheckX ad.c_InvalidMap K) := by
  refine T.F_check_machine.okN sc_check_machine (fun vs H Q E h => ?_) (fun cdv A outer s H vs Q E hr h => ?_)
  · obtain ⟨L, r, e, R, E9, rfl, hr0, he, hLl, hR1, hE1, kB, kG⟩ := h
    rfl
  · obtain ⟨L, r, e, R, E9, rfl, hr0, he, hLl, hR1, hE1, kB, kG⟩ := h
    refine ⟨_, (pss_cons (ps_for (passes_of rfl) rfl (pi_range1 rfl T.z_range (pa_cons (pe_callB (id := "len") Rd.c_lenS (by rfl) T.z_len (by decide +kernel) (pa_cons (pv 0) pa_nil)) pa_nil)) (pg_name (i := 3) sc_check_machine.nd rfl (Or.inl rfl)) (pss_one (ps_if (pt_cmpR op_ne (pe_m1 PySem.F.slot_str_find PySem.F.type_str_find Rd.mt_fd (pv 0) (pe_ix ix_str (pv 0) (pv 3) (fun _ _ => rfl))) (pv 3) (nomark _)) (pss_one (L2N.ps_raise rfl (L2N.takes_of rfl rfl rfl rfl) (L2N.pmk_oex T.ox_InvalidMap T.ix_InvalidMap T.tx_InvalidMap (ok_InvalidMap_init_ T) (hr.mono (by decide)) T.b_InvalidMap_init_ .nil pass0 rfl T.mg_InvalidMap (pa_cons pe_str pa_nil)))) pss_nil)))
      (pss_cons (ps_if (PW.pt (pw_or (pt_cmpR op_eq (pe_callB (id := "len") Rd.c_len (by rfl) T.z_len (by decide +kernel) (pa_cons (pv 1) pa_nil)) pe_int (nomark _)) (pw_or1 (pt_cmpR op_ne (pe_callB (id := "len") Rd.c_len (by rfl) T.z_len (by decide +kernel) (pa_cons (pv 2) pa_nil)) (pe_callB (id := "len") Rd.c_len (by rfl) T.z_len (by decide +kernel) (pa_cons (pv 1) pa_nil)) (nomark _))))) (pss_one (L2N.ps_raise rfl (L2N.takes_of rfl rfl rfl rfl) (L2N.pmk_oex T.ox_InvalidMap T.ix_InvalidMap T.tx_InvalidMap (ok_InvalidMap_init_ T) (hr.mono (by decide)) T.b_InvalidMap_init_ .nil pass0 rfl T.mg_InvalidMap (pa_cons pe_str pa_nil)))) pss_nil)
      (pss_one (ps_for (passes_of rfl) rfl (pi_list (pv 1)) (pg_name (i := 4) sc_check_machine.nd rfl (Or.inl rfl)) (pss_cons (ps_if (pt_cmpR op_ne (pe_callB (id := "len") Rd.c_len (by rfl) T.z_len (by decide +kernel) (pa_cons (pv 4) pa_nil)) (pe_callB (id := "len") Rd.c_lenS (by rfl) T.z_len (by decide +kernel) (pa_cons (pv 0) pa_nil)) (nomark _)) (pss_one (L2N.ps_raise rfl (L2N.takes_of rfl rfl rfl rfl) (L2N.pmk_oex T.ox_InvalidMap T.ix_InvalidMap T.tx_InvalidMap (ok_InvalidMap_init_ T) (hr.mono (by decide)) T.b_InvalidMap_init_ .nil pass0 rfl T.mg_InvalidMap (pa_cons pe_str pa_nil)))) pss_nil)
      (pss_one (ps_for (passes_of rfl) rfl (pi_list (pv 4)) (pg_name (i := 5) sc_check_machine.nd rfl (Or.inl rfl)) (pss_one (ps_if (PW.pt (pw_and (pt_cmpR op_notN1 (pv 5) pe_non (nomark _)) (pw_and1 (pt_not (pt_chain op_le op_lt pe_int (pe_ix ix_tup (pv 5) pe_int (fun _ _ => rfl)) (pe_callB (id := "len") Rd.c_len (by rfl) T.z_len (by decide +kernel) (pa_cons (pv 1) pa_nil))))))) (pss_one (L2N.ps_raise rfl (L2N.takes_of rfl rfl rfl rfl) (L2N.pmk_oex T.ox_InvalidMap T.ix_InvalidMap T.tx_InvalidMap (ok_InvalidMap_init_ T) (hr.mono (by decide)) T.b_InvalidMap_init_ .nil pass0 rfl T.mg_InvalidMap (pa_cons pe_str pa_nil)))) pss_nil))))))))), ?_⟩
    try dsimp only [L2.cxOf, L2.Cx.nox, L2.Cx.wish]
    change (_ : TS) _ ([some (.str L), some (.ref r), some (.ref e), none, none, none] : St) _
    have cl_CodeMap := T.cl_CodeMap
    have n_CodeMap_images := T.n_CodeMap_images
    have cl_NumberMap := T.cl_NumberMap
    have n_NumberMap_period := T.n_NumberMap_period
    have n_NumberMap_rows := T.n_NumberMap_rows
    have cl_TextMap := T.cl_TextMap
    have n_TextMap_ends := T.n_TextMap_ends
    have n_TextMap_letters := T.n_TextMap_letters
    have n_TextMap_rows := T.n_TextMap_rows
    obtain ⟨r', xs, e0, hs, hA⟩ := Dt.inv_l hr0
    cases e0
    obtain ⟨e', es, e0, hes, hEA⟩ := Dt.inv_l he
    cases e0
    have hxl := itLen hA
    have hel := itLen hEA
    have hLL : L.cps.toList.length = L.length := rfl
    walk_at "rd"
    refine Rd.lenS (by omega) ?_
    walk_at "rd"
    refine Rd.xfr1 ⟨by omega, by omega⟩ (fun i σ H' => ∃ v3 v4 v5, σ = [some (.str L), some (.ref r), some (.ref e), v3, v4, v5] ∧ H = H' ∧ ∀ j c : Nat, j < i → L.cps.toList[j]? = some c → Txt.find L ⟨#[c]⟩ = (j : Int)) ⟨_, _, _, rfl, rfl, fun j c hj => by omega⟩ ?_ ?_
    · rintro i σ H' hi ⟨v3, v4, v5, rfl, rfl, hno⟩
      have hc : L.cps.toList[i]? = some (L.cps.toList[i]'(by omega)) := List.getElem?_eq_getElem _
      generalize L.cps.toList[i]'(by omega) = c at hc
      walk_at "rd"
      refine Rd.ixS (by omega) (atI_nat hc) ?_
      walk_at "rd"
      refine Rd.ifNd (fun c1 => ?_) (fun c1 => ?_)
      · walk_at "rd"
        refine Rd.xmko1 (by decide) fun d H' nd e hd' => ?_
        exact kB (fun h => c1 (h.own i c hc)) _ d H' e hd'
      · walk_at "rd"
        refine ⟨_, _, _, rfl, rfl, fun j c' hj hjc => ?_⟩
        by_cases ej : j = i
        · subst ej
          rw [hc] at hjc
          cases hjc
          exact c1
        · exact hno j c' (by omega) hjc
    · rintro σ H' ⟨v3, v4, v5, rfl, rfl, hown⟩
      walk_at "rd"
      refine Rd.ifd (fun c1 => ?_) (fun c1 => ?_)
      · walk_at "rd"
        refine Rd.xmko1 (by decide) fun d H' nd e hd' => ?_
        exact kB (fun h => h.pos (by omega)) _ d H' e hd'
      · walk_at "rd"
        refine Rd.ifNd (fun c2 => ?_) (fun c2 => ?_)
        · walk_at "rd"
          refine Rd.xmko1 (by decide) fun d H' nd e hd' => ?_
          exact kB (fun h => c2 (by have := h.ends; omega)) _ d H' e hd'
        · walk_at "rd"
          refine Rd.xfl hs (fun i σ H' => ∃ v3 v4 v5, σ = [some (.str L), some (.ref r), some (.ref e), v3, v4, v5] ∧ H = H' ∧ ∀ (j : Nat) (rw : List StI), j < i → R[j]? = some rw → rw.length = L.length ∧ ∀ q w, some (q, w) ∈ rw → 0 ≤ q ∧ q < (R.length : Int)) ⟨_, _, _, rfl, rfl, fun j rw hj => by omega⟩ (fun i σ H' _ ⟨_, _, _, _, e, _⟩ => by rw [← e]; exact hs) ?_ ?_
          · rintro i x σ H' hx ⟨v3, v4, v5, rfl, rfl, hno⟩
            obtain ⟨row, hrow, hd⟩ := itA1 hA hx
            have hrm := List.mem_of_getElem? hrow
            obtain ⟨ra, ys, rfl, hys, hyA⟩ := Dt.inv_l hd
            have hyl := itLen hyA
            walk_at "rd"
            refine Rd.lenS (by omega) ?_
            walk_at "rd"
            refine Rd.ifNd (fun c3 => ?_) (fun c3 => ?_)
            · walk_at "rd"
              refine Rd.xmko1 (by decide) fun d H' nd e hd' => ?_
              exact kB (fun h => c3 (by rw [hyl, h.wid row hrm])) _ d H' e hd'
            · walk_at "rd"
              refine Rd.xfl hys (fun j σ H' => ∃ v3 v5, σ = [some (.str L), some (.ref r), some (.ref e), v3, some (.ref ra), v5] ∧ H = H' ∧ ∀ (k : Nat) (q : Int) (w : Str), k < j → row[k]? = some (some (q, w)) → 0 ≤ q ∧ q < (R.length : Int)) ⟨_, _, rfl, rfl, fun k q w hk => by omega⟩ (fun i σ H' _ ⟨_, _, _, e, _⟩ => by rw [← e]; exact hys) ?_ ?_
              · rintro j y σ H' hy ⟨v3, v5, rfl, rfl, hno2⟩
                obtain ⟨st, hst, hyd⟩ := itA1 hyA hy
                have hstep : (∀ q w, st = some (q, w) → 0 ≤ q ∧ q < (R.length : Int)) → ∀ (k : Nat) (q : Int) (w : Str), k < j + 1 → row[k]? = some (some (q, w)) → 0 ≤ q ∧ q < (R.length : Int) := fun h k q w hk hkr => by
                  by_cases e : k = j
                  · rw [e, hst] at hkr
                    exact h q w (Option.some.inj hkr)
                  · exact hno2 k q w (by omega) hkr
                cases st with
                | none =>
                  obtain rfl := dI_none hyd
                  walk_at "rd"
                  exact ⟨_, _, rfl, rfl, hstep fun q w e => by cases e⟩
                | some p =>
                  obtain ⟨q, w⟩ := p
                  obtain ⟨pa, rfl, hpa⟩ := dI_some hyd
                  have hbad : ¬ (0 ≤ q ∧ q < (R.length : Int)) → Rd.xMkO ad.c_InvalidMap (Rd.spEx1 ad.c_InvalidMap "what") [] [.str "a step must lead to a state"] H (fun cls d H' => E cls d H') := fun hn => Rd.xmko1 (by decide) fun d H' nd e hd' => kB (fun h => hn (h.tgt row hrm q w (List.mem_of_getElem? hst))) _ d H' e hd'
                  by_cases q0 : 0 ≤ q
                  · by_cases q1 : q < (xs.length : Int)
                    · walk_at "rd"
                      exact ⟨_, _, rfl, rfl, hstep fun q w e => by cases e; exact ⟨q0, by omega⟩⟩
                    · walk_at "rd"
                      exact hbad fun h => q1 (by omega)
                  · walk_at "rd"
                    exact hbad fun h => q0 h.1
              · rintro σ H' ⟨v3, v5, rfl, rfl, hno2⟩
                refine ⟨_, _, _, rfl, rfl, fun j rw hj hjr => ?_⟩
                by_cases ej : j = i
                · rw [ej, hrow] at hjr
                  cases hjr
                  refine ⟨by omega, fun q w hm => ?_⟩
                  obtain ⟨k, hk⟩ := List.getElem?_of_mem hm
                  exact hno2 k q w (by rw [hyl]; exact (List.getElem?_eq_some_iff.mp hk).1) hk
                · exact hno j rw (by omega) hjr
          · rintro σ H' ⟨v3, v4, v5, rfl, rfl, hno⟩
            have all : ∀ rw ∈ R, rw.length = L.length ∧ ∀ q w, some (q, w) ∈ rw → 0 ≤ q ∧ q < (R.length : Int) := fun rw hm => by
              obtain ⟨k, hk⟩ := List.getElem?_of_mem hm
              exact hno k rw (by rw [hxl]; exact (List.getElem?_eq_some_iff.mp hk).1) hk
            exact kG ⟨fun i c hc => hown i c (by have := (List.getElem?_eq_some_iff.mp hc).1; omega) hc, by omega, by omega, fun r hr => (all r hr).1, fun r hr => (all r hr).2⟩
theorem rowsI_of {K : PySem.W.Frag} {H : Hp} : ∀ (R : List (List StI)) (xs : List V), DpAll K H xs (R.map dRI) → ∃ vss : List (List V), vss.length = R.length ∧ ∀ (i : Nat) (x : V) (r : List V), xs[i]? = some x → vss[i]? = some r → ∃ (a : Addr) (st : List StI), x = .ref a ∧ SqL K H a r ∧ R[i]? = some st ∧ DpAll K H r (st.map dI)
  | [], xs, h => by
    cases h
    exact ⟨[], rfl, fun i x r h => by cases h⟩
  | st :: R, xs, h => by
    cases h with
    | cons h1 h2 =>
      obtain ⟨vss, hl, hv⟩ := rowsI_of R _ h2
      obtain ⟨a, r, rfl, hs, hd⟩ := Dt.inv_l h1
      refine ⟨r :: vss, by rw [List.length_cons, List.length_cons, hl], fun i x r' h3 h4 => ?_⟩
      cases i with
      | zero => cases h3; cases h4; exact ⟨a, st, rfl, hs, rfl, hd⟩
      | succ i => exact hv i x r' h3 h4
def spTIx (C X : Addr) (K : PySem.W.Frag) : Sp := fun vs H Q E' => ∃ (x dx : Addr) (L : Str) (r e : Addr) (R : List (List StI)) (E : List (Option Str)), vs = [.ref x, .str L, .ref r, .ref e] ∧ H x = some (.ins C dx []) ∧ Dp K H (.ref r) (dRsI R) ∧ Dp K H (.ref e) (dEnds E) ∧ L.length ≤ 100 ∧ R.length ≤ 1000 ∧ E.length ≤ 1000 ∧
  (¬ MOk L R E → RaiseI X H E') ∧ (MOk L R E → ∀ H', (∀ b o, b ≠ x → H b = some o → H' b = some o) → Q .non H')
theorem ok_TextMap_init_ {ad : Ad} (T : Txt K mg ad) : FnOk P w K mg base (L2N.CX P w) 4 ad.a_TextMap_init_ ad.d_TextMap_init_ ["self", "letters", "rows", "ends"] (spTIx ad.c_TextMap ad.c_InvalidMap K) := by
  refine T.F_TextMap_init_.okN sc_TextMap_init_ (fun vs H Q E h => ?_) (fun cdv A outer s H vs Q E hr h => ?_)
  · obtain ⟨x, dx, L, r, e, R, E9, rfl, hx, hr0, he, hLl, hR1, hE1, kB, kG⟩ := h
    rfl
  · obtain ⟨x, dx, L, r, e, R, E9, rfl, hx, hr0, he, hLl, hR1, hE1, kB, kG⟩ := h
    refine ⟨_, (pss_cons (ps_expr (pe_call (ok_check_machine T) (hr.mono (by decide)) rfl T.m_check_machine T.F_check_machine.kp T.b_check_machine .nil (L2N.passes_call (L2N.takes_of rfl rfl rfl rfl) (fun _ _ _ _ h => h)) (pa_cons (pv 1) (pa_cons (pv 2) (pa_cons (pv 3) pa_nil)))))
      (pss_cons (ps_fld (pv 0) (pv 1) rfl)
      (pss_cons (ps_fld (pv 0) (pe_lc (own := [("row", 4)]) (g := gName 4) (tt := tYes) rfl sc_TextMap_init_.nd (pi_list (pv 2)) (blkOk_by (N := ["self", "letters", "rows", "ends", "row"]) (sc := (defScope s_TextMap_init_)) (by decide +kernel)) (fun _ _ _ _ _ => (pg_name (i := 4) sc_TextMap_init_.nd rfl (Or.inl rfl))) (fun _ _ _ _ _ => pts_nil) (fun _ _ _ _ _ => (pe_callTy (T := "list") (Rd.c_list : CallR _ _ (Rd.rListOf K)) (by rfl) T.z_list (by decide +kernel) (pa_cons (pv 4) pa_nil)))) rfl)
      (pss_one (ps_fld (pv 0) (pe_callTy (T := "list") Rd.c_list (by rfl) T.z_list (by decide +kernel) (pa_cons (pv 3) pa_nil)) rfl))))), ?_⟩
    try dsimp only [L2.cxOf, L2.Cx.nox, L2.Cx.wish]
    change (_ : TS) _ ([some (.ref x), some (.str L), some (.ref r), some (.ref e), none] : St) _
    have cl_CodeMap := T.cl_CodeMap
    have n_CodeMap_images := T.n_CodeMap_images
    have cl_NumberMap := T.cl_NumberMap
    have n_NumberMap_period := T.n_NumberMap_period
    have n_NumberMap_rows := T.n_NumberMap_rows
    have cl_TextMap := T.cl_TextMap
    have n_TextMap_ends := T.n_TextMap_ends
    have n_TextMap_letters := T.n_TextMap_letters
    have n_TextMap_rows := T.n_TextMap_rows
    walk_at "rd"
    refine ⟨L, r, e, R, E9, rfl, hr0, he, hLl, hR1, hE1, kB, fun ok => ?_⟩
    obtain ⟨r', xs, e0, hs, hA⟩ := Dt.inv_l hr0
    cases e0
    obtain ⟨e', es, e0, hes, hEA⟩ := Dt.inv_l he
    cases e0
    obtain ⟨vss, hvl, hv⟩ := rowsI_of R xs hA
    have hxl := itLen hA
    walk_at "rd"
    refine xlcCopy (rows := vss) (Dt.sql_ins hx hs) (by omega) (fun i y r h1 h2 => ?_) (by omega) (fun _ => rfl) (fun _ => rfl) fun ra as H2 nra e2 hra has hcp => ?_
    · obtain ⟨a, st, h3, h4, _⟩ := hv i y r h1 h2
      exact ⟨a, h3, Dt.sql_ins hx h4⟩
    have hx2 := e2 _ _ (upd_same (H := H))
    walk_at "rd"
    refine Rd.listOf (Dt.sql_ins hx2 (Evl.ex_l e2 (Dt.sql_ins hx hes))) fun ea H4 nea e4 hea => ?_
    have hx4 := e4 _ _ (upd_same (H := H2))
    walk_at "rd"
    exact kG ok _ fun b o hb hbo => (upd_ne hb).trans (e4 _ _ ((upd_ne hb).trans (e2 _ _ ((upd_ne hb).trans hbo))))
def spCIx (C X : Addr) (K : PySem.W.Frag) : Sp := fun vs H Q E => ∃ (x dx l : Addr) (ws : List V) (os : List (Option Int)), vs = [.ref x, .ref l] ∧ H x = some (.ins C dx []) ∧ SqL K H l ws ∧ DpAll K H ws (os.map oI) ∧ os.length ≤ 1000 ∧
  (¬ COk os → RaiseI X H E) ∧ (COk os → ∀ H', (∀ b o, b ≠ x → H b = some o → H' b = some o) → Q .non H')
theorem ok_CodeMap_init_ {ad : Ad} (T : Txt K mg ad) : FnOk P w K mg base (L2N.CX P w) 3 ad.a_CodeMap_init_ ad.d_CodeMap_init_ ["self", "images"] (spCIx ad.c_CodeMap ad.c_InvalidMap K) := by
  refine T.F_CodeMap_init_.okN sc_CodeMap_init_ (fun vs H Q E h => ?_) (fun cdv A outer s H vs Q E hr h => ?_)
  · obtain ⟨x, dx, l, ws, os, rfl, hx, hl, hA, hz, kB, kG⟩ := h
    rfl
  · obtain ⟨x, dx, l, ws, os, rfl, hx, hl, hA, hz, kB, kG⟩ := h
    refine ⟨_, (pss_cons (ps_for (passes_of rfl) rfl (pi_list (pv 1)) (pg_name (i := 2) sc_CodeMap_init_.nd rfl (Or.inl rfl)) (pss_one (ps_if (PW.pt (pw_and (pt_cmpR op_notN1 (pv 2) pe_non (nomark _)) (pw_and1 (pt_cmpR op_lt (pv 2) pe_int (nomark _))))) (pss_one (L2N.ps_raise rfl (L2N.takes_of rfl rfl rfl rfl) (L2N.pmk_oex T.ox_InvalidMap T.ix_InvalidMap T.tx_InvalidMap (ok_InvalidMap_init_ T) (hr.mono (by decide)) T.b_InvalidMap_init_ .nil pass0 rfl T.mg_InvalidMap (pa_cons pe_str pa_nil)))) pss_nil)))
      (pss_one (ps_fld (pv 0) (pe_callTy (T := "list") Rd.c_list (by rfl) T.z_list (by decide +kernel) (pa_cons (pv 1) pa_nil)) rfl))), ?_⟩
    try dsimp only [L2.cxOf, L2.Cx.nox, L2.Cx.wish]
    change (_ : TS) _ ([some (.ref x), some (.ref l), none] : St) _
    have cl_CodeMap := T.cl_CodeMap
    have n_CodeMap_images := T.n_CodeMap_images
    have cl_NumberMap := T.cl_NumberMap
    have n_NumberMap_period := T.n_NumberMap_period
    have n_NumberMap_rows := T.n_NumberMap_rows
    have cl_TextMap := T.cl_TextMap
    have n_TextMap_ends := T.n_TextMap_ends
    have n_TextMap_letters := T.n_TextMap_letters
    have n_TextMap_rows := T.n_TextMap_rows
    have hwl := itLen hA
    walk_at "rd"
    refine Rd.xfl hl (fun i σ H' => ∃ v, σ = [some (.ref x), some (.ref l), v] ∧ H' = H ∧ ∀ (j : Nat) (n : Int), j < i → os[j]? = some (some n) → 0 ≤ n) ⟨none, rfl, rfl, fun j n hj => by omega⟩ (fun i σ H' _ ⟨_, _, e, _⟩ => by rw [e]; exact hl) ?_ ?_
    · rintro i y σ Hc hi ⟨v, rfl, rfl, hno⟩
      obtain ⟨o, ho, hd⟩ := itA1 hA hi
      cases o with
      | none =>
        obtain rfl := Dt.inv_n hd
        walk_at "rd"
        refine ⟨_, rfl, rfl, fun j n hj hjn => ?_⟩
        by_cases e : j = i
        · rw [e, ho] at hjn; cases hjn
        · exact hno j n (by omega) hjn
      | some n =>
        obtain rfl := Dt.inv_i hd
        walk_at "rd"
        refine Rd.ifd (fun hneg => ?_) (fun hneg => ?_)
        · walk_at "rd"
          refine Rd.xmko1 (by decide) fun d H' nd e hd => ?_
          exact kB (fun h => by have := h n (List.mem_of_getElem? ho); omega) _ d H' e hd
        · walk_at "rd"
          refine ⟨_, rfl, rfl, fun j m hj hjn => ?_⟩
          by_cases e : j = i
          · rw [e, ho] at hjn; cases hjn; omega
          · exact hno j m (by omega) hjn
    · rintro σ Hc ⟨v, rfl, rfl, hno⟩
      have hok : COk os := fun n hm => by
        obtain ⟨j, hj⟩ := List.getElem?_of_mem hm
        exact hno j n (by rw [hwl]; exact (List.getElem?_eq_some_iff.mp hj).1) hj
      walk_at "rd"
      refine Rd.listOf hl fun l2 H2 n2 e2 h2 => ?_
      walk_at "rd"
      exact kG hok _ fun b o hb hbo => (upd_ne hb).trans (e2 _ _ hbo)
/-! ### the law's data -/
inductive Dat
  | num (p : Int) (rs : List Row4)
  | txt (L : Str) (R : List (List StI)) (E : List (Option Str))
  | cod (os : List (Option Int))
def Dat.py : Dat → PyData
  | .num p rs => .tuple [.int p, .list (rs.map rowD)]
  | .txt L R E => .tuple [.str L, dRsI R, dEnds E]
  | .cod os => .list (os.map oI)
def Dat.kind : Dat → Str
  | .num .. => "number"
  | .txt .. => "text"
  | .cod .. => "code"
def Dat.Good : Dat → Prop
  | .num p rs => NOk p rs
  | .txt L R E => MOk L R E
  | .cod os => COk os
/-- their sizes -/
def Dat.Small : Dat → Prop
  | .num _ rs => rs.length ≤ 1000
  | .txt L R E => L.length ≤ 100 ∧ R.length ≤ 1000 ∧ E.length ≤ 1000 ∧ PyData.strOk L = true ∧ (∀ r ∈ R, ∀ q w, some (q, w) ∈ r → PyData.strOk w = true) ∧ ∀ w, some w ∈ E → PyData.strOk w = true
  | .cod os => os.length ≤ 1000
def spBuild (X : Addr) (K : PySem.W.Frag) : Sp := fun vs H Q E => ∃ (D : Dat) (v : V), vs = [.str D.kind, v] ∧ Dp K H v D.py ∧ D.Small ∧ (¬ D.Good → RaiseI X H E) ∧ (D.Good → ∀ x H', Evl.Ex H H' → Q x H')
theorem ok_law_build {ad : Ad} (T : Txt K mg ad) : FnOk P w K mg base (L2N.CX P w) 6 ad.a_law_build ad.d_law_build ["kind", "parts"] (spBuild ad.c_InvalidMap K) := by
  refine T.F_law_build.okN sc_law_build (fun vs H Q E h => ?_) (fun cdv A outer s H vs Q E hr h => ?_)
  · obtain ⟨D, v, rfl, hv, hz, kB, kG⟩ := h
    rfl
  · obtain ⟨D, v, rfl, hv, hz, kB, kG⟩ := h
    refine ⟨_, (pss_cons (ps_if (pt_cmpR op_eq (pv 0) pe_str (nomark _)) (pss_one (ps_ret (pe_make T.mk_NumberMap (ok_NumberMap_init_ T) (hr.mono (by decide)) rfl T.mg_NumberMap T.b_NumberMap_init_ .nil (L2N.passes_call (L2N.takes_of rfl rfl rfl rfl) (fun _ _ _ _ h => h)) (pa_cons (pe_ix ix_tup (pv 1) pe_int (fun _ _ => rfl)) (pa_cons (pe_ix ix_tup (pv 1) pe_int (fun _ _ => rfl)) pa_nil))))) pss_nil)
      (pss_cons (ps_if (pt_cmpR op_eq (pv 0) pe_str (nomark _)) (pss_one (ps_ret (pe_make T.mk_TextMap (ok_TextMap_init_ T) (hr.mono (by decide)) rfl T.mg_TextMap T.b_TextMap_init_ .nil (L2N.passes_call (L2N.takes_of rfl rfl rfl rfl) (fun _ _ _ _ h => h)) (pa_cons (pe_ix ix_tup (pv 1) pe_int (fun _ _ => rfl)) (pa_cons (pe_ix ix_tup (pv 1) pe_int (fun _ _ => rfl)) (pa_cons (pe_ix ix_tup (pv 1) pe_int (fun _ _ => rfl)) pa_nil)))))) pss_nil)
      (pss_one (ps_ret (pe_make T.mk_CodeMap (ok_CodeMap_init_ T) (hr.mono (by decide)) rfl T.mg_CodeMap T.b_CodeMap_init_ .nil (L2N.passes_call (L2N.takes_of rfl rfl rfl rfl) (fun _ _ _ _ h => h)) (pa_cons (pv 1) pa_nil)))))), ?_⟩
    try dsimp only [L2.cxOf, L2.Cx.nox, L2.Cx.wish]
    change (_ : TS) _ ([some (.str D.kind), some (v)] : St) _
    cases D with
    | num p rs =>
      obtain ⟨a, us, rfl, hs, hA⟩ := Dt.inv_t hv
      cases hA with
      | cons h1 hA => cases h1; cases hA with
        | cons h2 hA =>
          cases hA
          obtain ⟨l, ws, rfl, hl, hws⟩ := Dt.inv_l h2
          show (_ : TS) _ [some (V.str "number"), some (V.ref a)] _
          walk_at "rd"
          exact Rd.xmk fun x dx H' e n hx => ⟨x, dx, l, p, ws, rs, rfl, hx, Evl.ex_l e hl, Dt.mnA hws e, hz, fun hn => (kB hn).mono e, fun ok H2 kp => ⟨rfl, kG ok _ _ (Rd.exBut e n kp)⟩⟩
    | txt L R E9 =>
      obtain ⟨a, us, rfl, hs, hA⟩ := Dt.inv_t hv
      cases hA with
      | cons h1 hA => cases h1; cases hA with
        | cons h2 hA => cases hA with
          | cons h3 hA =>
            cases hA
            obtain ⟨l, ws, rfl, hl, hws⟩ := Dt.inv_l h2
            obtain ⟨l3, ws3, rfl, hl3, hws3⟩ := Dt.inv_l h3
            obtain ⟨z1, z2, z3, z4, z5, z6⟩ := hz
            show (_ : TS) _ [some (V.str "text"), some (V.ref a)] _
            walk_at "rd"
            exact Rd.xmk fun x dx H' e n hx => ⟨x, dx, L, l, l3, R, E9, rfl, hx, Dt.mn h2 e, Dt.mn h3 e, z1, z2, z3, fun hn => (kB hn).mono e, fun ok H2 kp => ⟨rfl, kG ok _ _ (Rd.exBut e n kp)⟩⟩
    | cod os =>
      obtain ⟨a, us, rfl, hs, hA⟩ := Dt.inv_l hv
      show (_ : TS) _ [some (V.str "code"), some (V.ref a)] _
      walk_at "rd"
      exact Rd.xmk fun x dx H' e n hx => ⟨x, dx, a, us, os, rfl, hx, Evl.ex_l e hs, Dt.mnA hA e, hz, fun hn => (kB hn).mono e, fun ok H2 kp => ⟨rfl, kG ok _ _ (Rd.exBut e n kp)⟩⟩
theorem dpA_asI {K : PySem.W.Frag} {H : Hp} : ∀ (as : List Addr) (R : List (List StI)), as.length = R.length → (∀ (k : Nat) (a : Addr) (st : List StI), as[k]? = some a → R[k]? = some st → Dp K H (.ref a) (dRI st)) → DpAll K H (as.map V.ref) (R.map dRI)
  | [], [], _, _ => .nil
  | a :: as, st :: R, h, f => .cons (f 0 a st rfl rfl) (dpA_asI as R (by simpa using h) fun k a st h1 h2 => f (k + 1) a st h1 h2)
  | [], _ :: _, h, _ => by cases h
  | _ :: _, [], h, _ => by cases h
def spCopied (K : PySem.W.Frag) : Sp := fun vs H Q _ => ∃ (D : Dat) (v : V), vs = [.str D.kind, v] ∧ Dp K H v D.py ∧ D.Small ∧ ∀ v' H', Evl.Ex H H' → Dp K H' v' D.py → Q v' H'
theorem ok_law_copied {ad : Ad} (T : Txt K mg ad) : FnOk P w K mg base CX0 1 ad.a_law_copied ad.d_law_copied ["kind", "parts"] (spCopied K) := by
  refine T.F_law_copied.ok sc_law_copied (fun vs H Q E h => ?_) (fun cdv A outer s H vs Q E hr h => ?_)
  · obtain ⟨D, v, rfl, hv, hz, k⟩ := h
    rfl
  · obtain ⟨D, v, rfl, hv, hz, k⟩ := h
    refine ⟨_, (pss_cons (ps_if (pt_cmpR op_eq (pv 0) pe_str (nomark _)) (pss_one (ps_ret (pe_tup (pa_cons (pe_ix ix_tup (pv 1) pe_int (fun _ _ => rfl)) (pa_cons (pe_callTy (T := "list") Rd.c_list (by rfl) T.z_list (by decide +kernel) (pa_cons (pe_ix ix_tup (pv 1) pe_int (fun _ _ => rfl)) pa_nil)) pa_nil))))) pss_nil)
      (pss_cons (ps_if (pt_cmpR op_eq (pv 0) pe_str (nomark _)) (pss_one (ps_ret (pe_tup (pa_cons (pe_ix ix_tup (pv 1) pe_int (fun _ _ => rfl)) (pa_cons (pe_lc (own := [("row", 2)]) (g := gName 2) (tt := tYes) rfl sc_law_copied.nd (pi_list (pe_ix ix_tup (pv 1) pe_int (fun _ _ => rfl))) (blkOk_by (N := ["kind", "parts", "row"]) (sc := (defScope s_law_copied)) (by decide +kernel)) (fun _ _ _ _ _ => (pg_name (i := 2) sc_law_copied.nd rfl (Or.inl rfl))) (fun _ _ _ _ _ => pts_nil) (fun _ _ _ _ _ => (pe_callTy (T := "list") (Rd.c_list : CallR _ _ (Rd.rListOf K)) (by rfl) T.z_list (by decide +kernel) (pa_cons (pv 2) pa_nil)))) (pa_cons (pe_callTy (T := "list") Rd.c_list (by rfl) T.z_list (by decide +kernel) (pa_cons (pe_ix ix_tup (pv 1) pe_int (fun _ _ => rfl)) pa_nil)) pa_nil)))))) pss_nil)
      (pss_one (ps_ret (pe_callTy (T := "list") Rd.c_list (by rfl) T.z_list (by decide +kernel) (pa_cons (pv 1) pa_nil)))))), ?_⟩
    try dsimp only [L2.cxOf, L2.Cx.nox, L2.Cx.wish]
    change (_ : TS) _ ([some (.str D.kind), some (v), none] : St) _
    cases D with
    | num p rs =>
      obtain ⟨a, us, rfl, hs, hA⟩ := Dt.inv_t hv
      cases hA with
      | cons h1 hA => cases h1; cases hA with
        | cons h2 hA =>
          cases hA
          obtain ⟨l, ws, rfl, hl, hws⟩ := Dt.inv_l h2
          show (_ : TS) _ [some (V.str "number"), some (V.ref a), none] _
          walk_at "rd"
          refine Rd.listOf hl fun l2 H2 n2 e2 h2 => ?_
          walk_at "rd"
          refine Rd.xtup rfl fun q H3 n3 e3 h3 => ?_
          exact k _ _ (e2.trans e3) (Dt.ofT h3 (.cons (.int _) (.cons (Dt.ofL (e3 _ _ h2) (Dt.mnA hws (e2.trans e3))) .nil)))
    | txt L R E9 =>
      obtain ⟨a, us, rfl, hs, hA⟩ := Dt.inv_t hv
      cases hA with
      | cons h1 hA => cases h1; cases hA with
        | cons h2 hA => cases hA with
          | cons h3 hA =>
            cases hA
            obtain ⟨l, ws, rfl, hl, hws⟩ := Dt.inv_l h2
            obtain ⟨l3, ws3, rfl, hl3, hws3⟩ := Dt.inv_l h3
            obtain ⟨z1, z2, z3, z4, z5, z6⟩ := hz
            obtain ⟨vss, hvl, hv2⟩ := rowsI_of R ws hws
            have hxl := itLen hws
            show (_ : TS) _ [some (V.str "text"), some (V.ref a), none] _
            walk_at "rd"
            refine xlcCopy (rows := vss) hl (by omega) (fun i y r h1 h2 => ?_) (by omega) (fun _ => rfl) (fun _ => rfl) fun ra as H2 nra e2 hra has hcp => ?_
            · obtain ⟨a, st, h3, h4, _⟩ := hv2 i y r h1 h2
              exact ⟨a, h3, h4⟩
            have hs2 := Evl.ex_t e2 hs
            walk_at "rd"
            refine Rd.listOf (Evl.ex_l e2 hl3) fun ea H4 nea e4 hea => ?_
            walk_at "rd"
            refine Rd.xtup rfl fun q H5 n5 e5 h5 => ?_
            have e05 := (e2.trans e4).trans e5
            refine k _ _ e05 (Dt.ofT h5 (.cons (.str _) (.cons (Dt.ofL (e5 _ _ (e4 _ _ hra)) (dpA_asI as R (by omega) fun kk b st g1 g2 => ?_)) (.cons (Dt.ofL (e5 _ _ hea) (Dt.mnA hws3 e05)) .nil))))
            have g3 : vss[kk]? = some (vss[kk]'(by have := (List.getElem?_eq_some_iff.mp g2).1; omega)) := List.getElem?_eq_getElem _
            have g4 : ws[kk]? = some (ws[kk]'(by have := (List.getElem?_eq_some_iff.mp g2).1; omega)) := List.getElem?_eq_getElem _
            obtain ⟨_, _, g5⟩ := hcp kk b _ g1 g3
            obtain ⟨b2, st2, _, _, g6, g7⟩ := hv2 kk _ _ g4 g3
            rw [g2] at g6
            cases g6
            exact Dt.ofL (e5 _ _ (e4 _ _ g5)) (Dt.mnA g7 e05)
    | cod os =>
      obtain ⟨a, us, rfl, hs, hA⟩ := Dt.inv_l hv
      show (_ : TS) _ [some (V.str "code"), some (V.ref a), none] _
      walk_at "rd"
      refine Rd.listOf hs fun l2 H2 n2 e2 h2 => ?_
      exact k _ _ e2 (Dt.ofL h2 (Dt.mnA hA e2))
def spOut (K : PySem.W.Frag) : Sp := fun vs H Q _ => ∃ (D : Dat) (v : V), vs = [.str D.kind, v] ∧ Dp K H v D.py ∧ D.Small ∧ (D.Good → ∀ H', Evl.Ex H H' → Q (.str "built") H') ∧ (¬ D.Good → ∀ H', Evl.Ex H H' → Q (.str "refused") H')
theorem ok_law_outcome {ad : Ad} (T : Txt K mg ad) : FnOk P w K mg base CX0 7 ad.a_law_outcome ad.d_law_outcome ["kind", "parts"] (spOut K) := by
  refine T.F_law_outcome.ok sc_law_outcome (fun vs H Q E h => ?_) (fun cdv A outer s H vs Q E hr h => ?_)
  · obtain ⟨D, v, rfl, hv, hz, kG, kB⟩ := h
    rfl
  · obtain ⟨D, v, rfl, hv, hz, kG, kB⟩ := h
    refine ⟨_, (pss_cons (L2N.ps_try_as (i := 2) (tb := fun W => (tDrop (tCallS _ (WE W) _))) (ts := fun a cls d => (tSeq (tAsg (tAndV (tCB (rIsD K cls d a) _) (tAndV (tCB (rIsD K cls d a) _) (tCB _ (tCons (tXf a cls d _ _ (tVar 2)) (tCons _ tNil))))) _) (tSeq (tFor (iTup K (tTup (tCons (tCB (rIsD K cls d a) _) (tCons (tCB (rIsD K cls d a) _) (tCons (tCB (rIsD K cls d a) _) tNil))))) _ _) (tRet (tOp _ _ (tCB _ (tCons (tAndV _ (tNotV (tCB (rIsD K cls d a) _))) tNil))))))) (Wout := fun _ _ _ _ => False) rfl rfl sc_law_outcome.nd rfl rfl ⟨rfl, by decide, Or.inl T.mg_InvalidMap⟩ L2N.takes0 (fun W pn xe tk hp => (pss_one (ps_expr (pe_callS (ok_law_build T) (hr.mono (by decide)) rfl T.m_law_build T.F_law_build.kp T.b_law_build (fun σ => L2N.passAt tk σ) (pa_cons (pv 0) (pa_cons (pv 1) pa_nil)))))) (fun a oe cls d pn hz hf => (pss_cons (ps_set (i := 3) sc_law_outcome.nd rfl (Or.inl rfl) (pe_and (pe_callB (id := "isinstance") (call_isD hz.zc hf) (by rfl) T.z_isinstance (by decide +kernel) (pa_cons (pv 2) (pa_cons (pe_glob (v := .ref ad.c_BridgeError) rfl T.mg_BridgeError rfl) pa_nil))) (pe_and (pe_callB (id := "isinstance") (call_isD hz.zc hf) (by rfl) T.z_isinstance (by decide +kernel) (pa_cons (pv 2) (pa_cons (pe_bltn rfl T.z_ValueError (by decide +kernel) (v := .ty "ValueError") rfl) pa_nil))) (pe_one (pe_callB (id := "isinstance") (call_isi : CallR _ _ (rIsi K)) (by rfl) T.z_isinstance (by decide +kernel) (pa_cons (pe_xf T.xd_InvalidMap.xf T.nx_InvalidMap_what hz.zc hf (pv 2)) (pa_cons (pe_bltn rfl T.z_str (by decide +kernel) (v := .ty "str") rfl) pa_nil)))))))
      (pss_cons (L2H.ps_forH PassesOwn.never (L2H.hot_suite hz hf) (L2H.pi_tupH (pe_tup (pa_cons (pe_callB (id := "isinstance") (call_isD hz.zc hf) (by rfl) T.z_isinstance (by decide +kernel) (pa_cons (pv 2) (pa_cons (pe_glob (v := .ref ad.c_InvalidRow) rfl T.mg_InvalidRow rfl) pa_nil))) (pa_cons (pe_callB (id := "isinstance") (call_isD hz.zc hf) (by rfl) T.z_isinstance (by decide +kernel) (pa_cons (pv 2) (pa_cons (pe_glob (v := .ref ad.c_InvalidLanguage) rfl T.mg_InvalidLanguage rfl) pa_nil))) (pa_cons (pe_callB (id := "isinstance") (call_isD hz.zc hf) (by rfl) T.z_isinstance (by decide +kernel) (pa_cons (pv 2) (pa_cons (pe_glob (v := .ref ad.c_InvalidTable) rfl T.mg_InvalidTable rfl) pa_nil))) pa_nil))))) (pg_name (i := 4) sc_law_outcome.nd rfl (Or.inl rfl)) (pss_one (ps_set (i := 3) sc_law_outcome.nd rfl (Or.inl rfl) (pe_and (pv 3) (pe_one (pe_not (pv 4)))))))
      (pss_one (ps_ret (pe_ix (ix_list : IxR _ (rIxL K)) (pe_lst (pa_cons pe_str (pa_cons pe_str pa_nil))) (pe_callTy (T := "int") Rd.c_int (by rfl) T.z_int (by decide +kernel) (pa_cons (pe_and (pv 3) (pe_one (pe_not (pe_callB (id := "isinstance") (call_isD hz.zc hf) (by rfl) T.z_isinstance (by decide +kernel) (pa_cons (pv 2) (pa_cons (pe_glob (v := .ref ad.c_InvalidProgram) rfl T.mg_InvalidProgram rfl) pa_nil)))))) pa_nil)) (fun _ _ => rfl))))))))
      (pss_one (ps_ret pe_str))), ?_⟩
    try dsimp only [L2.cxOf, L2.Cx.nox, L2.Cx.wish]
    change (_ : TS) _ ([some (.str D.kind), some (v), none, none, none] : St) _
    have cl_CodeMap := T.cl_CodeMap
    have n_CodeMap_images := T.n_CodeMap_images
    have cl_NumberMap := T.cl_NumberMap
    have n_NumberMap_period := T.n_NumberMap_period
    have n_NumberMap_rows := T.n_NumberMap_rows
    have cl_TextMap := T.cl_TextMap
    have n_TextMap_ends := T.n_TextMap_ends
    have n_TextMap_letters := T.n_TextMap_letters
    have n_TextMap_rows := T.n_TextMap_rows
    walk_at "rd"
    refine ⟨D, v, rfl, hv, hz, fun hn s d H' e1 hd => ?_, fun ok x H' e1 => ?_⟩
    · have hd' := hd
      refine ⟨true, T.em_InvalidMap_InvalidMap, fun _ a na => ?_, fun q => Bool.noConfusion q⟩
      walk_at "rd"
      refine Rd.isD T.xd_InvalidMap hd (.own _) T.kt_InvalidMap_BridgeError ?_
      walk_at "rd"
      refine Rd.isD T.xd_InvalidMap hd (.ty _) T.kt_InvalidMap_ValueError ?_
      walk_at "rd"
      refine Rd.xxf hd rfl ?_
      walk_at "rd"
      refine Rd.isD T.xd_InvalidMap hd (.own _) T.kt_InvalidMap_InvalidRow ?_
      walk_at "rd"
      refine Rd.isD T.xd_InvalidMap hd (.own _) T.kt_InvalidMap_InvalidLanguage ?_
      walk_at "rd"
      refine Rd.isD T.xd_InvalidMap hd (.own _) T.kt_InvalidMap_InvalidTable ?_
      walk_at "rd"
      refine Rd.xtup rfl fun p H2 n2 e2 h2 => ?_
      have hd2 := e2 _ _ hd
      walk_at "rd"
      refine Rd.xft (SqT.of h2) (fun i σ Hc => ∃ v4, σ = [some (.str D.kind), some v, some (.ref a), some (.bl true), v4] ∧ Hc = H2) ⟨_, rfl, rfl⟩ (fun i σ Hc _ ⟨_, _, e⟩ => by rw [e]; exact SqT.of h2) ?_ ?_
      · rintro i x σ Hc hi ⟨v4, rfl, rfl⟩
        obtain rfl : x = .bl false := by
          have hl := (List.getElem?_eq_some_iff.mp hi).1
          rcases (by have : i < 3 := hl; omega : i = 0 ∨ i = 1 ∨ i = 2) with rfl | rfl | rfl <;> (cases hi; rfl)
        walk_at "rd"
        exact ⟨_, rfl, rfl⟩
      · rintro σ Hc ⟨v4, rfl, rfl⟩
        walk_at "rd"
        refine Rd.xlst rfl fun p3 H3 n3 e3 h3 => ?_
        have hd3 := e3 _ _ hd2
        walk_at "rd"
        refine Rd.isD T.xd_InvalidMap hd3 (.own _) T.kt_InvalidMap_InvalidProgram ?_
        walk_at "rd"
        exact kB hn _ ((e1.trans e2).trans e3)
    · walk_at "rd"
      exact kG ok _ e1
theorem canI_row : ∀ r : List StI, (∀ q w, some (q, w) ∈ r → PyData.strOk w = true) → PyData.canLayAll0 (r.map dI) = true
  | [], _ => rfl
  | none :: r, h => by rw [List.map_cons]; show (true && PyData.canLayAll0 (r.map dI)) = true; rw [canI_row r fun q w m => h q w (List.mem_cons_of_mem _ m)]; rfl
  | some (q, w) :: r, h => by
    have hw := h q w List.mem_cons_self
    rw [List.map_cons]
    simp [PyData.canLayAll0, PyData.canLay0, dI, hw, canI_row r fun q w m => h q w (List.mem_cons_of_mem _ m)]
theorem canI_rows : ∀ R : List (List StI), (∀ r ∈ R, ∀ q w, some (q, w) ∈ r → PyData.strOk w = true) → PyData.canLayAll0 (R.map dRI) = true
  | [], _ => rfl
  | r :: R, h => by
    rw [List.map_cons]
    simp [PyData.canLayAll0, PyData.canLay0, dRI, canI_row r (h r List.mem_cons_self), canI_rows R fun r m => h r (List.mem_cons_of_mem _ m)]
theorem canE : ∀ E : List (Option Str), (∀ w, some w ∈ E → PyData.strOk w = true) → PyData.canLayAll0 (E.map dE) = true
  | [], _ => rfl
  | none :: E, h => by rw [List.map_cons]; show (true && PyData.canLayAll0 (E.map dE)) = true; rw [canE E fun w m => h w (List.mem_cons_of_mem _ m)]; rfl
  | some w :: E, h => by
    rw [List.map_cons]
    simp [PyData.canLayAll0, PyData.canLay0, dE, h w List.mem_cons_self, canE E fun w m => h w (List.mem_cons_of_mem _ m)]
theorem canO : ∀ os : List (Option Int), PyData.canLayAll0 (os.map oI) = true
  | [] => rfl
  | none :: os => by rw [List.map_cons]; show (true && PyData.canLayAll0 (os.map oI)) = true; rw [canO os]; rfl
  | some w :: os => by rw [List.map_cons]; show (true && PyData.canLayAll0 (os.map oI)) = true; rw [canO os]; rfl
theorem depthAll_le {n : Nat} : ∀ ds : List PyData, (∀ d ∈ ds, d.depth ≤ n) → PyData.depthAll ds ≤ n + 1
  | [], _ => by simp [PyData.depthAll]
  | d :: ds, h => by
    have h1 := h d List.mem_cons_self
    have h2 := depthAll_le ds fun d m => h d (List.mem_cons_of_mem _ m)
    simp [PyData.depthAll]
    omega
theorem depth_l {n : Nat} (ds : List PyData) (h : ∀ d ∈ ds, d.depth ≤ n) : (PyData.list ds).depth ≤ n + 2 := by
  have := depthAll_le ds h
  simp [PyData.depth]
  omega
theorem depth_dI (s : StI) : (dI s).depth ≤ 5 := by
  cases s with
  | none => simp [dI, PyData.depth]
  | some p => obtain ⟨q, w⟩ := p; simp [dI, PyData.depth, PyData.depthAll]
theorem Dat.shaped {D : Dat} (h : D.Small) : SeqAt.shaped D.py = true := by
  cases D with
  | num p rs =>
    have h := depth_rows rs
    unfold SeqAt.shaped
    rw [show PyData.canLay0 (Dat.num p rs).py = PyData.canLayAll0 (rs.map rowD) from by simp [Dat.py, PyData.canLay0, PyData.canLayAll0], canLay_rows]
    simp [PyData.depth, PyData.depthAll, Dat.py]
    omega
  | txt L R E =>
    obtain ⟨_, _, _, z4, z5, z6⟩ := h
    have d1 : (dRsI R).depth ≤ 9 := depth_l _ fun d m => by
      obtain ⟨r, _, rfl⟩ := List.mem_map.mp m
      exact depth_l _ fun d m => by
        obtain ⟨s, _, rfl⟩ := List.mem_map.mp m
        exact depth_dI s
    have d2 : (dEnds E).depth ≤ 4 := depth_l _ fun d m => by
      obtain ⟨r, _, rfl⟩ := List.mem_map.mp m
      cases r <;> simp [dE, PyData.depth]
    have c1 : PyData.canLay0 (dRsI R) = true := by simp only [dRsI, PyData.canLay0]; exact canI_rows R z5
    have c2 : PyData.canLay0 (dEnds E) = true := by simp only [dEnds, PyData.canLay0]; exact canE E z6
    unfold SeqAt.shaped
    rw [show PyData.canLay0 (Dat.txt L R E).py = true from by simp [Dat.py, PyData.canLay0, PyData.canLayAll0, c1, c2, z4]]
    simp [PyData.depth, PyData.depthAll, Dat.py]
    omega
  | cod os =>
    have d1 := depth_l (n := 2) (os.map oI) fun d m => by
      obtain ⟨r, _, rfl⟩ := List.mem_map.mp m
      cases r <;> simp [oI, PyData.depth]
    unfold SeqAt.shaped
    rw [show PyData.canLay0 (Dat.cod os).py = true from by simp only [Dat.py, PyData.canLay0]; exact canO os, Bool.true_and]
    exact decide_eq_true (by show (PyData.list (os.map oI)).depth ≤ 64; omega)
def spRight (K : PySem.W.Frag) : Sp := fun vs H Q _ => ∃ (D : Dat) (v : V) (ex : Str), vs = [.str D.kind, v, .str ex] ∧ Dp K H v D.py ∧ D.Small ∧ (D.Good ∧ ex = "built" ∨ ¬ D.Good ∧ ex = "refused") ∧ ∀ H', Evl.Ex H H' → Q (.bl true) H'
theorem ok_law_right {ad : Ad} (T : Txt K mg ad) : FnOk P w K mg base CX0 8 ad.a_law_right ad.d_law_right ["kind", "parts", "expected"] (spRight K) := by
  refine T.F_law_right.ok sc_law_right (fun vs H Q E h => ?_) (fun cdv A outer s H vs Q E hr h => ?_)
  · obtain ⟨D, v, ex, rfl, hv, hz, hex, k⟩ := h
    rfl
  · obtain ⟨D, v, ex, rfl, hv, hz, hex, k⟩ := h
    refine ⟨_, (pss_cons (ps_set (i := 3) sc_law_right.nd rfl (Or.inl rfl) (pe_call (ok_law_copied T) (hr.mono (by decide)) rfl T.m_law_copied T.F_law_copied.kp T.b_law_copied .nil pass0 (pa_cons (pv 0) (pa_cons (pv 1) pa_nil))))
      (pss_one (ps_ret (pe_and (pe_cmpR op_eq (pe_call (ok_law_outcome T) (hr.mono (by decide)) rfl T.m_law_outcome T.F_law_outcome.kp T.b_law_outcome .nil pass0 (pa_cons (pv 0) (pa_cons (pv 3) pa_nil))) (pv 2) (nomark _)) (pe_one (pe_cmpR (op_eqD hr.units) (pv 3) (pe_call (ok_law_copied T) (hr.mono (by decide)) rfl T.m_law_copied T.F_law_copied.kp T.b_law_copied .nil pass0 (pa_cons (pv 0) (pa_cons (pv 1) pa_nil))) (nomark _))))))), ?_⟩
    try dsimp only [L2.cxOf, L2.Cx.nox, L2.Cx.wish]
    change (_ : TS) _ ([some (.str D.kind), some (v), some (.str ex), none] : St) _
    have sh := Dat.shaped hz
    walk_at "rd"
    refine ⟨D, v, rfl, hv, hz, fun v2 H2 e2 hv2 => ?_⟩
    walk_at "rd"
    refine ⟨D, v2, rfl, hv2, hz, fun ok H3 e3 => ?_, fun bad H3 e3 => ?_⟩
    · obtain rfl : ex = "built" := (hex.resolve_right fun h => h.1 ok).2
      walk_at "rd"
      refine ⟨D, v, rfl, Dt.mn hv (e2.trans e3), hz, fun v4 H4 e4 hv4 => ?_⟩
      walk_at "rd"
      refine Rd.eqDr (Dt.mn hv2 (e3.trans e4)) hv4 sh ?_
      walk_at "rd"
      exact k _ ((e2.trans e3).trans e4)
    · obtain rfl : ex = "refused" := (hex.resolve_left fun h => bad h.1).2
      walk_at "rd"
      refine ⟨D, v, rfl, Dt.mn hv (e2.trans e3), hz, fun v4 H4 e4 hv4 => ?_⟩
      walk_at "rd"
      refine Rd.eqDr (Dt.mn hv2 (e3.trans e4)) hv4 sh ?_
      walk_at "rd"
      exact k _ ((e2.trans e3).trans e4)
/-! split -/

theorem setA {K : PySem.W.Frag} {H : Hp} {v : V} {d : PyData} (h : Dp K H v d) : ∀ (j : Nat) {vs : List V} {ds : List PyData}, DpAll K H vs ds → DpAll K H (vs.set j v) (ds.set j d)
  | _, _, [], hA => by cases hA; exact .nil
  | 0, _, d' :: ds, hA => by
    cases hA with
    | cons h1 h2 => exact .cons h h2
  | j + 1, _, d' :: ds, hA => by
    cases hA with
    | cons h1 h2 => exact .cons h1 (setA h j h2)
/-! ### slices, what is spoilt -/
theorem x_slL {K : PySem.W.Frag} {H : Hp} {Q : VK} {a : Addr} {xs : List V} {lo hi : Option Int} (h : SqL K H a xs) (q : ∀ p H', H p = none → Evl.Ex H H' → H' p = some (.lst (cutV xs lo hi)) → Q (.ref p) H') : rSlL K (.ref a) lo hi H Q :=
  ⟨a, xs, rfl, h, fun p hp => q p _ hp (Evl.Ex.new hp) upd_same⟩
theorem cut_to {xs : List V} {k : Nat} (h : k ≤ xs.length) : cutV xs none (some (k : Int)) = xs.take k := by
  unfold cutV
  rw [HT.sIx_none, HT.sIx_nat, List.drop_zero, Nat.sub_zero, Nat.min_eq_left h]
theorem cut_from {xs : List V} {k : Nat} (h : k ≤ xs.length) : cutV xs (some (k : Int)) none = xs.drop k := by
  unfold cutV
  rw [HT.sIx_none, HT.sIx_nat, Nat.min_eq_left h]
  exact List.take_of_length_le (by rw [List.length_drop]; exact Nat.le_refl _)
theorem dropA {K : PySem.W.Frag} {H : Hp} : ∀ (n : Nat) {vs : List V} {ds : List PyData}, DpAll K H vs ds → DpAll K H (vs.drop n) (ds.drop n)
  | 0, _, _, h => h
  | n + 1, _, [], h => by cases h; exact .nil
  | n + 1, _, d :: ds, h => by
    cases h with
    | cons h1 h2 => exact dropA n h2
/-- [:at] -/
theorem x_to {K : PySem.W.Frag} {H : Hp} {Q : VK} {a : Addr} {xs : List V} {ds : List PyData} {k : Int} (h : SqL K H a xs) (hA : DpAll K H xs ds) (k0 : 0 ≤ k) (k1 : k ≤ xs.length)
    (q : ∀ p H' ys, H p = none → Evl.Ex H H' → H' p = some (.lst ys) → DpAll K H' ys (ds.take k.toNat) → Q (.ref p) H') : rSlL K (.ref a) none (some k) H Q := by
  obtain ⟨n, rfl⟩ := Int.eq_ofNat_of_zero_le k0
  refine x_slL h fun p H' np e hp => ?_
  rw [show ((n : Nat) : Int) = (n : Int) from rfl, cut_to (by omega)] at hp
  exact q p H' _ np e hp (Dt.mnA (Dt.takeA n hA) e)
/-- [at:] -/
theorem x_from {K : PySem.W.Frag} {H : Hp} {Q : VK} {a : Addr} {xs : List V} {ds : List PyData} {k : Int} (h : SqL K H a xs) (hA : DpAll K H xs ds) (k0 : 0 ≤ k) (k1 : k ≤ xs.length)
    (q : ∀ p H' ys, H p = none → Evl.Ex H H' → H' p = some (.lst ys) → DpAll K H' ys (ds.drop k.toNat) → Q (.ref p) H') : rSlL K (.ref a) (some k) none H Q := by
  obtain ⟨n, rfl⟩ := Int.eq_ofNat_of_zero_le k0
  refine x_slL h fun p H' np e hp => ?_
  rw [show ((n : Nat) : Int) = (n : Int) from rfl, cut_from (by omega)] at hp
  exact q p H' _ np e hp (Dt.mnA (dropA n hA) e)
/-- [at:], at behind the end too -/
theorem x_fromW {K : PySem.W.Frag} {H : Hp} {Q : VK} {a : Addr} {xs : List V} {ds : List PyData} {k : Int} (h : SqL K H a xs) (hA : DpAll K H xs ds) (k0 : 0 ≤ k)
    (q : ∀ p H' ys, H p = none → Evl.Ex H H' → H' p = some (.lst ys) → DpAll K H' ys (ds.drop k.toNat) → Q (.ref p) H') : rSlL K (.ref a) (some k) none H Q := by
  obtain ⟨n, rfl⟩ := Int.eq_ofNat_of_zero_le k0
  refine x_slL h fun p H' np e hp => ?_
  have hc : cutV xs (some (n : Int)) none = xs.drop n := by
    by_cases hn : n ≤ xs.length
    · exact cut_from hn
    · unfold cutV
      rw [HT.sIx_none, HT.sIx_nat, Nat.min_eq_right (by omega), Nat.sub_self, List.take_zero, List.drop_eq_nil_of_le (by omega)]
  rw [show ((n : Nat) : Int) = (n : Int) from rfl, hc] at hp
  exact q p H' _ np e hp (Dt.mnA (dropA n hA) e)
/-- [:at], at behind the end too -/
theorem x_toW {K : PySem.W.Frag} {H : Hp} {Q : VK} {a : Addr} {xs : List V} {ds : List PyData} {k : Int} (h : SqL K H a xs) (hA : DpAll K H xs ds) (k0 : 0 ≤ k)
    (q : ∀ p H' ys, H p = none → Evl.Ex H H' → H' p = some (.lst ys) → DpAll K H' ys (ds.take k.toNat) → Q (.ref p) H') : rSlL K (.ref a) none (some k) H Q := by
  obtain ⟨n, rfl⟩ := Int.eq_ofNat_of_zero_le k0
  refine x_slL h fun p H' np e hp => ?_
  have hc : cutV xs none (some (n : Int)) = xs.take n := by
    by_cases hn : n ≤ xs.length
    · exact cut_to hn
    · unfold cutV
      rw [HT.sIx_none, HT.sIx_nat, List.drop_zero, Nat.sub_zero, Nat.min_eq_right (by omega), List.take_length, List.take_of_length_le (by omega)]
  rw [show ((n : Nat) : Int) = (n : Int) from rfl, hc] at hp
  exact q p H' _ np e hp (Dt.mnA (Dt.takeA n hA) e)
/-- new lists put together -/
theorem x_catA {K : PySem.W.Frag} {H : Hp} {Q : VK} {a b : Addr} {xs ys : List V} {ds es : List PyData} (h1 : H a = some (.lst xs)) (h2 : H b = some (.lst ys)) (hA : DpAll K H xs ds) (hB : DpAll K H ys es) (n : ds.length + es.length ≤ 100000)
    (q : ∀ p H', H p = none → Evl.Ex H H' → H' p = some (.lst (xs ++ ys)) → DpAll K H' (xs ++ ys) (ds ++ es) → Q (.ref p) H') : rCat (.ref a) (.ref b) H Q :=
  Rd.cat h1 h2 (by rw [Dt.lenA hA, Dt.lenA hB]; exact n) fun p H' np e hp => q p H' np e hp (Dt.mnA (Dt.appA hA hB) e)
def spSN (K : PySem.W.Frag) : Sp := fun vs H Q _ => ∃ (dk pr lr : Addr) (ws : List V) (rs : List Row4), vs = [.ref dk, .ref pr] ∧ H dk = some (Dk.DkO dk) ∧ SqT K H pr [.int rs.length, .ref lr] ∧ SqL K H lr ws ∧ DpAll K H ws (rs.map rowD) ∧ 1 ≤ rs.length ∧ rs.length ≤ 6 ∧
  ∀ v p' rs' H', Evl.Ex H H' → Dp K H' v (Dat.num p' rs').py → rs'.length ≤ 1000 → ¬ NOk p' rs' → Q v H'
theorem ok_law_spoilt_numbers {ad : Ad} (T : Txt K mg ad) : FnOk P w K mg base CX0 3 ad.a_law_spoilt_numbers ad.d_law_spoilt_numbers ["deck", "parts"] (spSN K) := by
  refine T.F_law_spoilt_numbers.ok sc_law_spoilt_numbers (fun vs H Q E h => ?_) (fun cdv A outer s H vs Q E hr h => ?_)
  · obtain ⟨dk, pr, lr, ws, rs, rfl, hD, hp, hl, hA, hr1, hr6, k⟩ := h
    rfl
  · obtain ⟨dk, pr, lr, ws, rs, rfl, hD, hp, hl, hA, hr1, hr6, k⟩ := h
    refine ⟨_, (pss_cons (ps_asg (pv 1) (pg_tup rfl (pgs_cons (pg_name (i := 2) sc_law_spoilt_numbers.nd rfl (Or.inl rfl)) (pgs_cons (pg_name (i := 3) sc_law_spoilt_numbers.nd rfl (Or.inl rfl)) pgs_nil))))
      (pss_cons (ps_set (i := 4) sc_law_spoilt_numbers.nd rfl (Or.inl rfl) (pe_call (ok_law_take T) (hr.mono (by decide)) rfl T.m_law_take T.F_law_take.kp T.b_law_take .nil pass0 (pa_cons (pv 0) (pa_cons pe_int pa_nil))))
      (pss_cons (ps_set (i := 5) sc_law_spoilt_numbers.nd rfl (Or.inl rfl) (pe_call (ok_law_take T) (hr.mono (by decide)) rfl T.m_law_take T.F_law_take.kp T.b_law_take .nil pass0 (pa_cons (pv 0) (pa_cons (pv 2) pa_nil))))
      (pss_cons (ps_set (i := 3) sc_law_spoilt_numbers.nd rfl (Or.inl rfl) (pe_callTy (T := "list") Rd.c_list (by rfl) T.z_list (by decide +kernel) (pa_cons (pv 3) pa_nil)))
      (pss_cons (ps_if (pt_cmpR op_eq (pv 4) pe_int (nomark _)) (pss_one (ps_ret (pe_tup (pa_cons (pe_un un_neg (pe_call (ok_law_take T) (hr.mono (by decide)) rfl T.m_law_take T.F_law_take.kp T.b_law_take .nil pass0 (pa_cons (pv 0) (pa_cons pe_int pa_nil)))) (pa_cons (pv 3) pa_nil))))) pss_nil)
      (pss_cons (ps_if (pt_cmpR op_eq (pv 4) pe_int (nomark _)) (pss_one (ps_ret (pe_tup (pa_cons (pe_un un_neg (pe_call (ok_law_take T) (hr.mono (by decide)) rfl T.m_law_take T.F_law_take.kp T.b_law_take .nil pass0 (pa_cons (pv 0) (pa_cons pe_int pa_nil)))) (pa_cons (pe_lst pa_nil) pa_nil))))) pss_nil)
      (pss_cons (ps_if (pt_cmpR op_eq (pv 4) pe_int (nomark _)) (pss_one (ps_ret (pe_tup (pa_cons (pv 2) (pa_cons (pe_op op_cat (pe_slice sl_list (pv 3) po_none (po_some (pv 5))) (pe_slice sl_list (pv 3) (po_some (pe_op op_add (pv 5) pe_int)) po_none)) pa_nil))))) pss_nil)
      (pss_cons (ps_if (pt_cmpR op_eq (pv 4) pe_int (nomark _)) (pss_one (ps_ret (pe_tup (pa_cons (pv 2) (pa_cons (pe_op op_cat (pe_op op_cat (pe_slice sl_list (pv 3) po_none (po_some (pv 5))) (pe_lst (pa_cons pe_non pa_nil))) (pe_slice sl_list (pv 3) (po_some (pv 5)) po_none)) pa_nil))))) pss_nil)
      (pss_cons (ps_set (i := 6) sc_law_spoilt_numbers.nd rfl (Or.inl rfl) (pe_call (ok_law_whole T) (hr.mono (by decide)) rfl T.m_law_whole T.F_law_whole.kp T.b_law_whole .nil pass0 (pa_cons (pv 0) pa_nil)))
      (pss_cons (ps_asg (pe_tup (pa_cons (pe_call (ok_law_whole T) (hr.mono (by decide)) rfl T.m_law_whole T.F_law_whole.kp T.b_law_whole .nil pass0 (pa_cons (pv 0) pa_nil)) (pa_cons (pe_call (ok_law_whole T) (hr.mono (by decide)) rfl T.m_law_whole T.F_law_whole.kp T.b_law_whole .nil pass0 (pa_cons (pv 0) pa_nil)) (pa_cons (pv 6) (pa_cons (pe_op op_sub (pe_op op_sub (pv 6) pe_int) (pe_op op_mul (pe_call (ok_law_take T) (hr.mono (by decide)) rfl T.m_law_take T.F_law_take.kp T.b_law_take .nil pass0 (pa_cons (pv 0) (pa_cons pe_int pa_nil))) (pe_op op_pow pe_int pe_int))) pa_nil))))) (pg_sub (pv 3) (pv 5) set_list))
      (pss_one (ps_ret (pe_tup (pa_cons (pv 2) (pa_cons (pv 3) pa_nil))))))))))))))), ?_⟩
    try dsimp only [L2.cxOf, L2.Cx.nox, L2.Cx.wish]
    change (_ : TS) _ ([some (.ref dk), some (.ref pr), none, none, none, none, none] : St) _
    have hwl := itLen hA
    walk_at "rd"
    intro digit d0 d1
    walk_at "rd"
    intro t t0 t1
    walk_at "rd"
    refine Rd.listOf hl fun l2 H2 n2 e2 h2 => ?_
    have hD2 := e2 _ _ hD
    have hA2 := Dt.mnA hA e2
    have pair : ∀ (p' : Int) (rs' : List Row4) (q l : Addr) (us : List V) (H3 : Hp), Evl.Ex H H3 → H3 q = some (.tup [.int p', .ref l]) → H3 l = some (.lst us) → DpAll K H3 us (rs'.map rowD) → rs'.length ≤ 1000 → ¬ NOk p' rs' → Q (.ref q) H3 := fun p' rs' q l us H3 e h h' hA3 hz hn =>
      k _ p' rs' H3 e (Dt.ofT h (.cons (.int _) (.cons (Dt.ofL h' hA3) .nil))) hz hn
    walk_at "rd"
    refine Rd.ifd (fun c0 => ?_) (fun c0 => ?_)
    · walk_at "rd"
      intro u u0 u1
      walk_at "rd"
      refine Rd.xtup rfl fun q H3 n3 e3 h3 => ?_
      exact pair _ rs q l2 ws H3 (e2.trans e3) h3 (e3 _ _ h2) (Dt.mnA hA2 e3) (by omega) fun h => by have := h.1; omega
    walk_at "rd"
    refine Rd.ifd (fun c1 => ?_) (fun c1 => ?_)
    · walk_at "rd"
      intro u u0 u1
      walk_at "rd"
      refine Rd.xlst rfl fun l3 H3 n3 e3 h3 => ?_
      walk_at "rd"
      refine Rd.xtup rfl fun q H4 n4 e4 h4 => ?_
      exact pair _ [] q l3 [] H4 ((e2.trans e3).trans e4) h4 (e4 _ _ h3) .nil (by decide) fun h => by have := h.1; omega
    walk_at "rd"
    refine Rd.ifd (fun c2 => ?_) (fun c2 => ?_)
    · walk_at "rd"
      refine x_to (SqL.of h2) hA2 t0 (by omega) fun p3 H3 y3 n3 e3 h3 hA3 => ?_
      have hs3 := Evl.ex_l e3 (SqL.of h2 : SqL K H2 l2 ws)
      walk_at "rd"
      refine x_from hs3 (Dt.mnA hA2 e3) (by omega) (by omega) fun p4 H4 y4 n4 e4 h4 hA4 => ?_
      refine x_catA (e4 _ _ h3) h4 (Dt.mnA hA3 e4) hA4 (by rw [List.length_take, List.length_drop, List.length_map]; omega) fun p5 H5 n5 e5 h5 hA5 => ?_
      walk_at "rd"
      refine Rd.xtup rfl fun q H6 n6 e6 h6 => ?_
      rw [← List.map_take, ← List.map_drop, ← List.map_append] at hA5
      exact pair _ (rs.take t.toNat ++ rs.drop (t + 1).toNat) q p5 _ H6 ((((e2.trans e3).trans e4).trans e5).trans e6) h6 (e6 _ _ h5) (Dt.mnA hA5 e6) (by rw [List.length_append, List.length_take, List.length_drop]; omega) fun h => by
        have := h.2.1
        rw [List.length_append, List.length_take, List.length_drop] at this
        omega
    walk_at "rd"
    refine Rd.ifd (fun c3 => ?_) (fun c3 => ?_)
    · walk_at "rd"
      refine x_to (SqL.of h2) hA2 t0 (by omega) fun p3 H3 y3 n3 e3 h3 hA3 => ?_
      have hs3 := Evl.ex_l e3 (SqL.of h2 : SqL K H2 l2 ws)
      walk_at "rd"
      refine Rd.xlst rfl fun l7 H7 n7 e7 h7 => ?_
      refine x_catA (es := [rowD none]) (e7 _ _ h3) h7 (Dt.mnA hA3 e7) (Dt.oneA .non) (by rw [List.length_take, List.length_map]; simp; omega) fun p8 H8 n8 e8 h8 hA8 => ?_
      have e38 := (e3.trans e7).trans e8
      have hs8 := Evl.ex_l e38 (SqL.of h2 : SqL K H2 l2 ws)
      walk_at "rd"
      refine x_from hs8 (Dt.mnA hA2 e38) (by omega) (by omega) fun p4 H4 y4 n4 e4 h4 hA4 => ?_
      refine x_catA (e4 _ _ h8) h4 (Dt.mnA hA8 e4) hA4 (by rw [List.length_append, List.length_take, List.length_drop, List.length_map]; simp; omega) fun p5 H5 n5 e5 h5 hA5 => ?_
      walk_at "rd"
      refine Rd.xtup rfl fun q H6 n6 e6 h6 => ?_
      rw [← List.map_take, ← List.map_drop, show [rowD none] = [none].map rowD from rfl, ← List.map_append, ← List.map_append] at hA5
      exact pair _ (rs.take t.toNat ++ [none] ++ rs.drop t.toNat) q p5 _ H6 ((((e2.trans e38).trans e4).trans e5).trans e6) h6 (e6 _ _ h5) (Dt.mnA hA5 e6) (by rw [List.length_append, List.length_append, List.length_take, List.length_drop]; simp; omega) fun h => by
        have := h.2.1
        rw [List.length_append, List.length_append, List.length_take, List.length_drop] at this
        simp at this
        omega
    walk_at "rd"
    intro low hlow
    walk_at "rd"
    intro a ha
    walk_at "rd"
    intro b hb
    walk_at "rd"
    intro m m0 m1
    walk_at "rd"
    refine Rd.xtup rfl fun q H3 n3 e3 h3 => ?_
    walk_at "rd"
    obtain ⟨n, rfl⟩ := Int.eq_ofNat_of_zero_le t0
    have hn : n < rs.length := by omega
    have hl3 := e3 _ _ h2
    refine Rd.setL hl3 (Evl.ixN_nat (by omega)) ?_
    walk_at "rd"
    refine Rd.xtup rfl fun q2 H4 n4 e4 h4 => ?_
    have hq : Dp K H3 (.ref q) (rowD (some (a, b, low, low - 1 - m * 1000000000000))) := Dt.ofT h3 (.cons (.int _) (.cons (.int _) (.cons (.int _) (.cons (.int _) .nil))))
    have hset : DpAll K (upd H3 l2 (.lst (ws.set n (.ref q)))) (ws.set n (.ref q)) ((rs.set n (some (a, b, low, low - 1 - m * 1000000000000))).map rowD) := by
      rw [List.map_set]
      exact setA (Dt.updL hl3 _ _ (noL_row _) hq) n (rowsA_upd hl3 (Dt.mnA hA2 e3))
    refine pair _ (rs.set n (some (a, b, low, low - 1 - m * 1000000000000))) q2 l2 _ H4 ((Evl.Ex.mut (e2.trans e3) n2).trans e4) h4 (e4 _ _ upd_same) (Dt.mnA hset e4) (by rw [List.length_set]; omega) fun h => ?_
    have hm : some (a, b, low, low - 1 - m * 1000000000000) ∈ rs.set n (some (a, b, low, low - 1 - m * 1000000000000)) := List.mem_of_getElem? (i := n) (by rw [List.getElem?_set_self hn])
    have := h.2.2 _ _ _ _ hm
    omega
/-! split -/
/-! ### spoilt texts -/
/-- as xlcCopy: the copies are apart -/
theorem xlcCopyN {σ : L2.St} {H : Hp} {Q : VK} {l : Addr} {j : Nat} {vs : List Nat} {xs : List V} {rows : List (List V)} (hx : SqL K H l xs) (hl : xs.length = rows.length) (hr : ∀ (i : Nat) (x : V) (r : List V), xs[i]? = some x → rows[i]? = some r → ∃ a, x = .ref a ∧ SqL K H a r)
    (hz : xs.length ≤ 40000) (hw : ∀ x, wipe ((wipe σ vs).set j (some x)) vs = wipe σ vs) (hj : ∀ x, ((wipe σ vs).set j (some x))[j]? = some (some x))
    (q : ∀ (p : Addr) (as : List Addr) (H' : Hp), H p = none → Evl.Ex H H' → H' p = some (.lst (as.map V.ref)) → as.length = rows.length → as.Nodup → (∀ (k : Nat) (a : Addr) (r : List V), as[k]? = some a → rows[k]? = some r → H a = none ∧ a ≠ p ∧ H' a = some (.lst r)) → Q (.ref p) H') :
    Rd.xLcL K (gName j) tYes (tCB (Rd.rListOf K) (tCons (tVar j) tNil)) vs σ (.ref l) H Q := by
  let Cp : Addr → Nat → Hp → Prop := fun D i H' => H D = none ∧ Evl.Ex H H' ∧ ∃ as : List Addr, as.length = i ∧ H' D = some (.lst (as.map V.ref)) ∧ as.Nodup ∧ ∀ (k : Nat) (a : Addr) (r : List V), as[k]? = some a → rows[k]? = some r → H a = none ∧ a ≠ D ∧ H' a = some (.lst r)
  refine ⟨l, rfl, ⟨xs, hx⟩, fun D hD => lc_list (xs := xs) (Cp D) ⟨hD, Evl.Ex.new hD, [], rfl, upd_same, List.nodup_nil, fun k a r h => by cases h⟩ (fun i H' _ p => Evl.ex_l p.2.1 hx) (fun i x H' hi p => ⟨hw x, iteT (B := Cp D (i + 1) H') ?_⟩) (fun H' p => ?_)⟩
  · obtain ⟨_, e, as, has, hDl, hn, hk⟩ := p
    have hi2 : i < xs.length := (List.getElem?_eq_some_iff.mp hi).1
    have hi3 : rows[i]? = some (rows[i]'(by omega)) := List.getElem?_eq_getElem _
    obtain ⟨a, rfl, hs⟩ := hr i x _ hi hi3
    refine Rd.cb (Rd.cons (Rd.var (hj _) (Rd.nil (Rd.listOfU (Evl.ex_l e hs) fun p hp => ?_))))
    have hpD : D ≠ p := ne_of_none hDl hp
    have hp0 : H p = none := Evl.fresh_back e hp
    have hnp : (as ++ [p]).Nodup := by
      rw [List.nodup_append]
      refine ⟨hn, List.nodup_cons.mpr ⟨by simp, List.nodup_nil⟩, fun b hb c hc => ?_⟩
      cases List.mem_singleton.mp hc
      obtain ⟨k, hkb⟩ := List.getElem?_of_mem hb
      have hki : k < as.length := (List.getElem?_eq_some_iff.mp hkb).1
      exact ne_of_none (hk k b _ hkb (List.getElem?_eq_getElem (by omega))).2.2 hp
    refine ⟨as.map V.ref, (upd_ne hpD).trans hDl, Evl.sz_lt (by rw [List.length_map, has]; omega), hD, Evl.Ex.mut (e.trans (Evl.Ex.new hp)) hD, as ++ [p], by rw [List.length_append, has]; rfl, by rw [List.map_append]; exact upd_same, hnp, fun k b r h1 h2 => ?_⟩
    by_cases hkl : k < as.length
    · rw [List.getElem?_append_left hkl] at h1
      obtain ⟨g1, g2, g3⟩ := hk k b r h1 h2
      exact ⟨g1, g2, by rw [upd_ne g2, upd_ne (ne_of_none g3 hp)]; exact g3⟩
    · have hk2 : k = i := by
        have := (List.getElem?_eq_some_iff.mp h1).1
        rw [List.length_append] at this
        simp at this
        omega
      subst hk2
      rw [List.getElem?_append_right (by omega), has, Nat.sub_self] at h1
      cases h1
      rw [hi3] at h2
      cases h2
      exact ⟨hp0, Ne.symm hpD, by rw [upd_ne (Ne.symm hpD)]; exact upd_same⟩
  · obtain ⟨_, e, as, has, hDl, hn, hk⟩ := p
    exact q D as H' hD e hDl (by rw [has, hl]) hn hk
theorem noL_dI (s : StI) : Dt.noL (dI s) = true := by
  cases s with
  | none => simp [dI, Dt.noL]
  | some p => simp [dI, Dt.noL]
theorem stI_upd {K : PySem.W.Frag} {H : Hp} {l : Addr} {ws vs : List V} {o : HO} {st : List StI} (h : H l = some (.lst ws)) (d : DpAll K H vs (st.map dI)) : DpAll K (upd H l o) vs (st.map dI) := Dt.updLA h _ _ (fun d hd => by
  obtain ⟨s, _, rfl⟩ := List.mem_map.mp hd
  exact noL_dI s) d
/-- lists of steps at as, all apart -/
structure RwA (K : PySem.W.Frag) (H : Hp) (as : List Addr) (R : List (List StI)) : Prop where
  len : as.length = R.length
  nd : as.Nodup
  rw : ∀ (k : Nat) (a : Addr) (st : List StI), as[k]? = some a → R[k]? = some st → ∃ vs, H a = some (.lst vs) ∧ DpAll K H vs (st.map dI)
theorem RwA.ex {K : PySem.W.Frag} {H H' : Hp} {as : List Addr} {R : List (List StI)} (h : RwA K H as R) (e : Evl.Ex H H') : RwA K H' as R := ⟨h.len, h.nd, fun k a st h1 h2 => by
  obtain ⟨vs, h3, h4⟩ := h.rw k a st h1 h2
  exact ⟨vs, e _ _ h3, Dt.mnA h4 e⟩⟩
theorem RwA.dpA {K : PySem.W.Frag} {H : Hp} {as : List Addr} {R : List (List StI)} (h : RwA K H as R) : DpAll K H (as.map V.ref) (R.map dRI) := dpA_asI as R h.len fun k a st h1 h2 => by
  obtain ⟨vs, h3, h4⟩ := h.rw k a st h1 h2
  exact Dt.ofL h3 h4
theorem set_row {K : PySem.W.Frag} {H : Hp} {ra q : Addr} {as : List Addr} {R : List (List StI)} {n : Nat} {ws vs' : List V} {st' : List StI} (hB : RwA K H as R) (hne : ∀ b ∈ as, b ≠ ra) (hra : H ra = some (.lst ws)) (hq : H q = some (.lst vs')) (hqr : q ≠ ra) (hd : DpAll K H vs' (st'.map dI)) :
    Dp K (upd H ra (.lst ((as.map V.ref).set n (.ref q)))) (.ref ra) (dRsI (R.set n st')) := by
  rw [show (as.map V.ref).set n (V.ref q) = (as.set n q).map V.ref from (List.map_set ..).symm]
  refine Dt.ofL upd_same (dpA_asI (as.set n q) (R.set n st') (by rw [List.length_set, List.length_set, hB.len]) fun k a st h1 h2 => ?_)
  by_cases e : n = k
  · subst e
    have hn := (List.getElem?_eq_some_iff.mp h1).1
    rw [List.length_set] at hn
    rw [List.getElem?_set_self hn] at h1
    rw [List.getElem?_set_self (by rw [← hB.len]; exact hn)] at h2
    cases h1
    cases h2
    exact Dt.ofL ((upd_ne hqr).trans hq) (stI_upd hra hd)
  · rw [List.getElem?_set_ne e] at h1 h2
    obtain ⟨vs, h3, h4⟩ := hB.rw k a st h1 h2
    exact Dt.ofL ((upd_ne (hne a (List.mem_of_getElem? h1))).trans h3) (stI_upd hra h4)
theorem set_step {K : PySem.W.Frag} {H : Hp} {ra q a : Addr} {as : List Addr} {R : List (List StI)} {n i : Nat} {vs : List V} {st : List StI} {s' : StI} (hB : RwA K H as R) (hne : ∀ b ∈ as, b ≠ ra) (hra : H ra = some (.lst (as.map V.ref))) (ha : as[n]? = some a) (hs : R[n]? = some st)
    (hv : H a = some (.lst vs)) (hd : DpAll K H vs (st.map dI)) (hq : Dp K H (.ref q) (dI s')) : Dp K (upd H a (.lst (vs.set i (.ref q)))) (.ref ra) (dRsI (R.set n (st.set i s'))) := by
  refine Dt.ofL ((upd_ne (Ne.symm (hne a (List.mem_of_getElem? ha)))).trans hra) (dpA_asI as (R.set n (st.set i s')) (by rw [List.length_set, hB.len]) fun k b st2 h1 h2 => ?_)
  by_cases e : n = k
  · subst e
    have hn := (List.getElem?_eq_some_iff.mp h2).1
    rw [List.length_set] at hn
    rw [List.getElem?_set_self hn] at h2
    rw [ha] at h1
    cases h1
    cases h2
    refine Dt.ofL upd_same ?_
    show DpAll K _ (vs.set i (V.ref q)) ((st.set i s').map dI)
    rw [List.map_set]
    exact setA (Dt.updL hv _ _ (noL_dI s') hq) i (stI_upd hv hd)
  · rw [List.getElem?_set_ne e] at h2
    obtain ⟨vs2, h3, h4⟩ := hB.rw k b st2 h1 h2
    have hba : b ≠ a := fun z => by
      subst z
      have hk := (List.getElem?_eq_some_iff.mp h1).1
      exact e ((List.getElem?_inj hk hB.nd).mp (h1.trans ha.symm)).symm
    exact Dt.ofL ((upd_ne hba).trans h3) (stI_upd hv h4)
theorem noL_dE (o : Option Str) : Dt.noL (dE o) = true := by
  cases o <;> simp [dE, Dt.noL]
theorem endsI_upd {K : PySem.W.Frag} {H : Hp} {l : Addr} {ws vs : List V} {o : HO} {E : List (Option Str)} (h : H l = some (.lst ws)) (d : DpAll K H vs (E.map dE)) : DpAll K (upd H l o) vs (E.map dE) := Dt.updLA h _ _ (fun d hd => by
  obtain ⟨s, _, rfl⟩ := List.mem_map.mp hd
  exact noL_dE s) d
theorem goal_at {r : Nat} {u v : Int} (u0 : 0 ≤ u) (v0 : 0 ≤ v) (v1 : v < 3) : ∃ x : Int, atI [V.int (r : Int), V.int (-1), V.int ((r : Int) + 1 + u)] v = some (.int x) ∧ ¬ (0 ≤ x ∧ x < (r : Int)) := by
  obtain rfl | rfl | rfl : v = 0 ∨ v = 1 ∨ v = 2 := by omega
  · exact ⟨_, rfl, by omega⟩
  · exact ⟨_, rfl, by omega⟩
  · exact ⟨_, rfl, by omega⟩
theorem dup_list {l : List Nat} {t u c : Nat} (ht : t ≤ l.length) (hc : l[u]? = some c) : ∃ i j : Nat, i ≠ j ∧ (l.take t ++ [c] ++ l.drop t)[i]? = some c ∧ (l.take t ++ [c] ++ l.drop t)[j]? = some c := by
  have hu := (List.getElem?_eq_some_iff.mp hc).1
  have h1 : (l.take t ++ [c] ++ l.drop t)[t]? = some c := by
    rw [List.getElem?_append_left (by rw [List.length_append, List.length_take]; simp; omega), List.getElem?_append_right (by rw [List.length_take]; omega), List.length_take, Nat.min_eq_left ht, Nat.sub_self]
    rfl
  by_cases h : u < t
  · refine ⟨t, u, by omega, h1, ?_⟩
    rw [List.getElem?_append_left (by rw [List.length_append, List.length_take]; simp; omega), List.getElem?_append_left (by rw [List.length_take]; omega), List.getElem?_take_of_lt h]
    exact hc
  · refine ⟨t, u + 1, by omega, h1, ?_⟩
    rw [List.getElem?_append_right (by rw [List.length_append, List.length_take]; simp; omega), List.length_append, List.length_take, Nat.min_eq_left ht, List.getElem?_drop]
    rw [show t + (u + 1 - (t + [c].length)) = u from by simp; omega]
    exact hc
def dupT (L : Str) (t : Int) (c : Nat) : Str := Txt.slice L none (some t) ++ ⟨#[c]⟩ ++ Txt.slice L (some t) none
theorem dup_cps {L : Str} {t : Int} {c : Nat} (t0 : 0 ≤ t) (t1 : t ≤ L.length) : (dupT L t c).cps.toList = L.cps.toList.take t.toNat ++ [c] ++ L.cps.toList.drop t.toNat := by
  have e1 : Txt.slice L none (some t) = ⟨(L.cps.toList.take t.toNat).toArray⟩ := by
    rw [beq_iff_eq.mp (PyProof.Rows.slice_closes_toL t0 t1)]
    simp
  have e2 : Txt.slice L (some t) none = ⟨(L.cps.toList.drop t.toNat).toArray⟩ := by
    rw [PyProof.Rows.slice_from_eq t0 t1 rfl, List.take_of_length_le (by rw [List.length_drop]; have : L.cps.toList.length = L.length := rfl; omega)]
  unfold dupT
  rw [e1, e2]
  show (((L.cps.toList.take t.toNat).toArray ++ #[c]) ++ (L.cps.toList.drop t.toNat).toArray).toList = _
  simp
theorem dup_bad {L : Str} {t : Int} {u c : Nat} {R : List (List StI)} {E : List (Option Str)} (t0 : 0 ≤ t) (t1 : t ≤ L.length) (hc : L.cps.toList[u]? = some c) : ¬ MOk (dupT L t c) R E := fun h => by
  obtain ⟨i, j, hij, h1, h2⟩ := dup_list (l := L.cps.toList) (t := t.toNat) (by have : L.cps.toList.length = L.length := rfl; omega) hc
  rw [← dup_cps (c := c) t0 t1] at h1 h2
  have g1 := h.own i c h1
  have g2 := h.own j c h2
  omega
theorem dup_len {L : Str} {t : Int} {c : Nat} (t0 : 0 ≤ t) (t1 : t ≤ L.length) : (dupT L t c).length = L.length + 1 := by
  show (dupT L t c).cps.toList.length = _
  rw [dup_cps t0 t1, List.length_append, List.length_append, List.length_take, List.length_drop]
  show min t.toNat L.length + 1 + (L.length - t.toNat) = L.length + 1
  omega
theorem sl_lens {L : Str} {t : Int} (t0 : 0 ≤ t) (t1 : t ≤ L.length) : (Txt.slice L none (some t)).length ≤ L.length ∧ (Txt.slice L (some t) none).length ≤ L.length := by
  have h := dup_len (c := 0) t0 t1
  unfold dupT at h
  rw [len_app, len_app] at h
  have e1 : (⟨#[0]⟩ : Str).length = 1 := rfl
  omega
theorem dup_ok {L : Str} {t : Int} {u c : Nat} (h : PyData.strOk L = true) (t0 : 0 ≤ t) (t1 : t ≤ L.length) (hc : L.cps.toList[u]? = some c) : PyData.strOk (dupT L t c) = true := by
  have h2 : L.cps.all (· < 0x110000) = true := h
  have h3 := Array.all_eq_true'.mp h2
  show (dupT L t c).cps.all (· < 0x110000) = true
  refine Array.all_eq_true'.mpr fun x hx => h3 x ?_
  have hx2 : x ∈ (dupT L t c).cps.toList := Array.mem_toList_iff.mpr hx
  rw [dup_cps t0 t1] at hx2
  rw [← Array.mem_toList_iff]
  rcases List.mem_append.mp hx2 with hx | hx
  · rcases List.mem_append.mp hx with hx | hx
    · exact List.mem_of_mem_take hx
    · cases List.mem_singleton.mp hx
      exact List.mem_of_getElem? hc
  · exact List.mem_of_mem_drop hx
theorem rows_pick : ∀ ds : List PyData, (∀ (i : Nat) d, ds[i]? = some d → ∃ r' : List StI, d = dRI r' ∧ ∀ q w, some (q, w) ∈ r' → PyData.strOk w = true) → ∃ R : List (List StI), ds = R.map dRI ∧ ∀ r ∈ R, ∀ q w, some (q, w) ∈ r → PyData.strOk w = true
  | [], _ => ⟨[], rfl, fun r hr => by cases hr⟩
  | d :: ds, h => by
    obtain ⟨r, hr, hrw⟩ := h 0 d rfl
    obtain ⟨R, hR, hRw⟩ := rows_pick ds fun i d' hd => h (i + 1) d' hd
    refine ⟨r :: R, by rw [hr, hR]; rfl, fun r' hm => ?_⟩
    rcases List.mem_cons.mp hm with rfl | hm
    · exact hrw
    · exact hRw r' hm
theorem mem_set_row {α : Type} {R : List α} {n : Nat} {x : α} {P : α → Prop} (h : ∀ r ∈ R, P r) (hx : P x) : ∀ r ∈ R.set n x, P r := fun r hr => (List.mem_or_eq_of_mem_set hr).elim (h r) fun e => e ▸ hx
def spST (K : PySem.W.Frag) : Sp := fun vs H Q _ => ∃ (dk pr r e : Addr) (L : Str) (R : List (List StI)) (E : List (Option Str)), vs = [.ref dk, .ref pr] ∧ H dk = some (Dk.DkO dk) ∧ SqT K H pr [.str L, .ref r, .ref e] ∧ Dp K H (.ref r) (dRsI R) ∧ Dp K H (.ref e) (dEnds E) ∧ MOk L R E ∧ (Dat.txt L R E).Small ∧ L.length ≤ 10 ∧ R.length ≤ 10 ∧
  ∀ v L' R' E' H', Evl.Ex H H' → Dp K H' v (Dat.txt L' R' E').py → (Dat.txt L' R' E').Small → ¬ MOk L' R' E' → Q v H'
theorem ok_law_spoilt_texts {ad : Ad} (T : Txt K mg ad) : FnOk P w K mg base CX0 2 ad.a_law_spoilt_texts ad.d_law_spoilt_texts ["deck", "parts"] (spST K) := by
  refine T.F_law_spoilt_texts.ok sc_law_spoilt_texts (fun vs H Q E h => ?_) (fun cdv A outer s H vs Q E hr h => ?_)
  · obtain ⟨dk, pr, r, e, L, R, E9, rfl, hD, hp, hr0, he0, ok, hz, hL, hR, k⟩ := h
    rfl
  · obtain ⟨dk, pr, r, e, L, R, E9, rfl, hD, hp, hr0, he0, ok, hz, hL, hR, k⟩ := h
    refine ⟨_, (pss_cons (ps_asg (pv 1) (pg_tup rfl (pgs_cons (pg_name (i := 2) sc_law_spoilt_texts.nd rfl (Or.inl rfl)) (pgs_cons (pg_name (i := 3) sc_law_spoilt_texts.nd rfl (Or.inl rfl)) (pgs_cons (pg_name (i := 4) sc_law_spoilt_texts.nd rfl (Or.inl rfl)) pgs_nil)))))
      (pss_cons (ps_setLc (i := 3) (own := [("row", 5)]) (g := gName 5) (tt := tYes) rfl sc_law_spoilt_texts.nd rfl rfl (sw_true rfl rfl rfl (by decide +kernel)) (pi_list (pv 3)) (blkOk_by (N := ["deck", "parts", "letters", "rows", "ends", "row", "state", "at", "digit", "sign", "goal"]) (sc := (defScope s_law_spoilt_texts)) (by decide +kernel)) (fun _ _ _ _ _ => (pg_name (i := 5) sc_law_spoilt_texts.nd rfl (Or.inl rfl))) (fun _ _ _ _ _ => pts_nil) (fun _ _ _ _ _ => (pe_callTy (T := "list") (Rd.c_list : CallR _ _ (Rd.rListOf K)) (by rfl) T.z_list (by decide +kernel) (pa_cons (pv 5) pa_nil))))
      (pss_cons (ps_set (i := 4) sc_law_spoilt_texts.nd rfl (Or.inl rfl) (pe_callTy (T := "list") Rd.c_list (by rfl) T.z_list (by decide +kernel) (pa_cons (pv 4) pa_nil)))
      (pss_cons (ps_set (i := 6) sc_law_spoilt_texts.nd rfl (Or.inl rfl) (pe_call (ok_law_take T) (hr.mono (by decide)) rfl T.m_law_take T.F_law_take.kp T.b_law_take .nil pass0 (pa_cons (pv 0) (pa_cons (pe_callB (id := "len") Rd.c_len (by rfl) T.z_len (by decide +kernel) (pa_cons (pv 3) pa_nil)) pa_nil))))
      (pss_cons (ps_set (i := 7) sc_law_spoilt_texts.nd rfl (Or.inr rfl) (pe_call (ok_law_take T) (hr.mono (by decide)) rfl T.m_law_take T.F_law_take.kp T.b_law_take .nil pass0 (pa_cons (pv 0) (pa_cons (pe_op op_add (pe_callB (id := "len") Rd.c_lenS (by rfl) T.z_len (by decide +kernel) (pa_cons (pv 2) pa_nil)) pe_int) pa_nil))))
      (pss_cons (ps_set (i := 8) sc_law_spoilt_texts.nd rfl (Or.inl rfl) (pe_call (ok_law_take T) (hr.mono (by decide)) rfl T.m_law_take T.F_law_take.kp T.b_law_take .nil pass0 (pa_cons (pv 0) (pa_cons pe_int pa_nil))))
      (pss_cons (ps_if (pt_cmpR op_eq (pv 8) pe_int (nomark _)) (pss_one (ps_ret (pe_tup (pa_cons (pv 2) (pa_cons (pe_lst pa_nil) (pa_cons (pe_lst pa_nil) pa_nil)))))) pss_nil)
      (pss_cons (ps_if (pt_cmpR op_eq (pv 8) pe_int (nomark _)) (pss_one (ps_ret (pe_tup (pa_cons (pv 2) (pa_cons (pv 3) (pa_cons (pe_op op_cat (pe_slice sl_list (pv 4) po_none (po_some (pv 6))) (pe_slice sl_list (pv 4) (po_some (pe_op op_add (pv 6) pe_int)) po_none)) pa_nil)))))) pss_nil)
      (pss_cons (ps_if (pt_cmpR op_eq (pv 8) pe_int (nomark _)) (pss_one (ps_ret (pe_tup (pa_cons (pv 2) (pa_cons (pv 3) (pa_cons (pe_op op_cat (pe_op op_cat (pe_slice sl_list (pv 4) po_none (po_some (pv 6))) (pe_lst (pa_cons pe_non pa_nil))) (pe_slice sl_list (pv 4) (po_some (pv 6)) po_none)) pa_nil)))))) pss_nil)
      (pss_cons (ps_if (PW.pt (pw_and (pt_cmpR op_eq (pv 8) pe_int (nomark _)) (pw_and1 (pt_cmpR op_gt (pe_callB (id := "len") Rd.c_lenS (by rfl) T.z_len (by decide +kernel) (pa_cons (pv 2) pa_nil)) pe_int (nomark _))))) (pss_cons (ps_asg (pe_op op_cat (pe_slice sl_list (pe_ix ix_list (pv 3) (pv 6) (fun _ _ => rfl)) po_none (po_some (pv 7))) (pe_slice sl_list (pe_ix ix_list (pv 3) (pv 6) (fun _ _ => rfl)) (po_some (pe_op op_add (pv 7) pe_int)) po_none)) (pg_sub (pv 3) (pv 6) set_list))
      (pss_one (ps_ret (pe_tup (pa_cons (pv 2) (pa_cons (pe_op op_cat (pe_op op_cat (pe_slice sl_list (pv 3) po_none (po_some (pv 6))) (pe_lst (pa_cons (pe_slice sl_list (pe_ix ix_list (pv 3) (pv 6) (fun _ _ => rfl)) po_none (po_some (pe_op op_sub (pe_callB (id := "len") Rd.c_lenS (by rfl) T.z_len (by decide +kernel) (pa_cons (pv 2) pa_nil)) pe_int))) pa_nil))) (pe_slice sl_list (pv 3) (po_some (pe_op op_add (pv 6) pe_int)) po_none)) (pa_cons (pv 4) pa_nil))))))) pss_nil)
      (pss_cons (ps_if (PW.pt (pw_and (pt_cmpR op_eq (pv 8) pe_int (nomark _)) (pw_and1 (pt_cmpR op_gt (pe_callB (id := "len") Rd.c_lenS (by rfl) T.z_len (by decide +kernel) (pa_cons (pv 2) pa_nil)) pe_int (nomark _))))) (pss_cons (ps_set (i := 9) sc_law_spoilt_texts.nd rfl (Or.inl rfl) (pe_ix ix_str (pv 2) (pe_call (ok_law_take T) (hr.mono (by decide)) rfl T.m_law_take T.F_law_take.kp T.b_law_take .nil pass0 (pa_cons (pv 0) (pa_cons (pe_callB (id := "len") Rd.c_lenS (by rfl) T.z_len (by decide +kernel) (pa_cons (pv 2) pa_nil)) pa_nil))) (fun _ _ => rfl)))
      (pss_one (ps_ret (pe_tup (pa_cons (pe_op Rd.op_addS (pe_op Rd.op_addS (pe_slice C8.sl_txt (pv 2) po_none (po_some (pv 7))) (pv 9)) (pe_slice C8.sl_txt (pv 2) (po_some (pv 7)) po_none)) (pa_cons (pe_lc (own := [("row", 5)]) (g := gName 5) (tt := tYes) rfl sc_law_spoilt_texts.nd (pi_list (pv 3)) (blkOk_by (N := ["deck", "parts", "letters", "rows", "ends", "row", "state", "at", "digit", "sign", "goal"]) (sc := (defScope s_law_spoilt_texts)) (by decide +kernel)) (fun _ _ _ _ _ => (pg_name (i := 5) sc_law_spoilt_texts.nd rfl (Or.inl rfl))) (fun _ _ _ _ _ => pts_nil) (fun _ _ _ _ _ => (pe_op op_cat (pe_op op_cat (pe_slice (sl_list : SlR _ (rSlL K)) (pv 5) po_none (po_some (pv 7))) (pe_lst (pa_cons pe_non pa_nil))) (pe_slice (sl_list : SlR _ (rSlL K)) (pv 5) (po_some (pv 7)) po_none)))) (pa_cons (pv 4) pa_nil))))))) pss_nil)
      (pss_cons (ps_if (PW.pt (pw_and (pt_cmpR op_gt (pv 8) pe_int (nomark _)) (pw_and1 (pt_cmpR op_gt (pe_callB (id := "len") Rd.c_lenS (by rfl) T.z_len (by decide +kernel) (pa_cons (pv 2) pa_nil)) pe_int (nomark _))))) (pss_cons (ps_set (i := 10) sc_law_spoilt_texts.nd rfl (Or.inl rfl) (pe_ix ix_list (pe_lst (pa_cons (pe_callB (id := "len") Rd.c_len (by rfl) T.z_len (by decide +kernel) (pa_cons (pv 3) pa_nil)) (pa_cons (pe_un un_neg pe_int) (pa_cons (pe_op op_add (pe_op op_add (pe_callB (id := "len") Rd.c_len (by rfl) T.z_len (by decide +kernel) (pa_cons (pv 3) pa_nil)) pe_int) (pe_call (ok_law_take T) (hr.mono (by decide)) rfl T.m_law_take T.F_law_take.kp T.b_law_take .nil pass0 (pa_cons (pv 0) (pa_cons pe_int pa_nil)))) pa_nil)))) (pe_call (ok_law_take T) (hr.mono (by decide)) rfl T.m_law_take T.F_law_take.kp T.b_law_take .nil pass0 (pa_cons (pv 0) (pa_cons pe_int pa_nil))) (fun _ _ => rfl)))
      (pss_cons (ps_asg (pe_tup (pa_cons (pv 10) (pa_cons pe_str pa_nil))) (pg_sub (pe_ix ix_list (pv 3) (pv 6) (fun _ _ => rfl)) (pe_call (ok_law_take T) (hr.mono (by decide)) rfl T.m_law_take T.F_law_take.kp T.b_law_take .nil pass0 (pa_cons (pv 0) (pa_cons (pe_callB (id := "len") Rd.c_lenS (by rfl) T.z_len (by decide +kernel) (pa_cons (pv 2) pa_nil)) pa_nil))) set_list))
      (pss_one (ps_ret (pe_tup (pa_cons (pv 2) (pa_cons (pv 3) (pa_cons (pv 4) pa_nil)))))))) pss_nil)
      (pss_cons (ps_asg (pe_op op_cat (pe_ix ix_list (pv 3) (pv 6) (fun _ _ => rfl)) (pe_lst (pa_cons pe_non pa_nil))) (pg_sub (pv 3) (pv 6) set_list))
      (pss_one (ps_ret (pe_tup (pa_cons (pv 2) (pa_cons (pv 3) (pa_cons (pv 4) pa_nil))))))))))))))))))), ?_⟩
    try dsimp only [L2.cxOf, L2.Cx.nox, L2.Cx.wish]
    change (_ : TS) _ ([some (.ref dk), some (.ref pr), none, none, none, none, none, none, none, none, none] : St) _
    obtain ⟨r', xs, e0, hs, hA⟩ := Dt.inv_l hr0
    cases e0
    obtain ⟨e', es, e0, hes, hEA⟩ := Dt.inv_l he0
    cases e0
    obtain ⟨vss, hvl, hv⟩ := rowsI_of R xs hA
    have hxl := itLen hA
    have hel := itLen hEA
    have okp := ok.pos
    have oke := ok.ends
    walk_at "rd"
    refine xlcCopyN (rows := vss) hs (by omega) (fun i y r h1 h2 => ?_) (by omega) (fun _ => rfl) (fun _ => rfl) fun ra as H2 nra e2 hra has hnd hcp => ?_
    · obtain ⟨a, st, h3, h4, _⟩ := hv i y r h1 h2
      exact ⟨a, h3, h4⟩
    have hB : RwA K H2 as R := ⟨by omega, hnd, fun kk b st g1 g2 => by
      have g3 : vss[kk]? = some (vss[kk]'(by have := (List.getElem?_eq_some_iff.mp g2).1; omega)) := List.getElem?_eq_getElem _
      have g4 : xs[kk]? = some (xs[kk]'(by have := (List.getElem?_eq_some_iff.mp g2).1; omega)) := List.getElem?_eq_getElem _
      obtain ⟨_, _, g5⟩ := hcp kk b _ g1 g3
      obtain ⟨b2, st2, _, _, g6, g7⟩ := hv kk _ _ g4 g3
      rw [g2] at g6
      cases g6
      exact ⟨_, g5, Dt.mnA g7 e2⟩⟩
    have hnew : ∀ b ∈ as, H b = none ∧ b ≠ ra := fun b hb => by
      obtain ⟨kk, hk⟩ := List.getElem?_of_mem hb
      have hkl := (List.getElem?_eq_some_iff.mp hk).1
      obtain ⟨g1, g2, _⟩ := hcp kk b _ hk (List.getElem?_eq_getElem (by omega))
      exact ⟨g1, g2⟩
    clear hcp
    walk_at "rd"
    refine Rd.listOf (Evl.ex_l e2 hes) fun ea H3 nea e3 hea => ?_
    have e03 := e2.trans e3
    have hra3 := e3 _ _ hra
    have hB3 := hB.ex e3
    have hE3 := Dt.mnA hEA e03
    have hD3 := e03 _ _ hD
    have hR3 := hB3.dpA
    have hal := hB.len
    have hml : (as.map V.ref).length = R.length := by rw [List.length_map, hal]
    obtain ⟨z1, z2, z3, z4, z5, z6⟩ := hz
    have trip : ∀ (L' : Str) (R' : List (List StI)) (E' : List (Option Str)) (q r' e' : Addr) (H4 : Hp), Evl.Ex H H4 → H4 q = some (.tup [.str L', .ref r', .ref e']) → Dp K H4 (.ref r') (dRsI R') → Dp K H4 (.ref e') (dEnds E') → (Dat.txt L' R' E').Small → ¬ MOk L' R' E' → Q (.ref q) H4 :=
      fun L' R' E' q r' e' H4 e h hr he hs hn => k _ L' R' E' H4 e (Dt.ofT h (.cons (.str _) (.cons hr (.cons he .nil)))) hs hn
    have smE : ∀ E' : List (Option Str), E'.length ≤ 1000 → (∀ w, some w ∈ E' → some w ∈ E9) → (Dat.txt L R E').Small := fun E' h1 h2 => ⟨z1, z2, h1, z4, z5, fun w hw => z6 w (h2 w hw)⟩
    walk_at "rd"
    intro s0 s00 s01
    rw [hml] at s01
    walk_at "rd"
    refine Rd.lenS (by omega) ?_
    walk_at "rd"
    intro t t0 t1
    walk_at "rd"
    intro digit d0 d1
    walk_at "rd"
    refine Rd.ifd (fun c0 => ?_) (fun c0 => ?_)
    · walk_at "rd"
      refine Rd.xlst rfl fun l4 H4 n4 e4 h4 => ?_
      walk_at "rd"
      refine Rd.xlst rfl fun l5 H5 n5 e5 h5 => ?_
      walk_at "rd"
      refine Rd.xtup rfl fun q H6 n6 e6 h6 => ?_
      exact trip L [] [] q l4 l5 H6 (((e03.trans e4).trans e5).trans e6) h6 (Dt.ofL (e6 _ _ (e5 _ _ h4)) .nil) (Dt.ofL (e6 _ _ h5) .nil) ⟨z1, by decide, by decide, z4, fun r h => (by cases h), fun w h => (by cases h)⟩ fun h => h.pos rfl
    walk_at "rd"
    refine Rd.ifd (fun c1 => ?_) (fun c1 => ?_)
    · walk_at "rd"
      refine x_to (SqL.of hea) hE3 s00 (by omega) fun p4 H4 y4 n4 e4 h4 hA4 => ?_
      have hs4 := Evl.ex_l e4 (SqL.of hea : SqL K H3 ea es)
      walk_at "rd"
      refine x_from hs4 (Dt.mnA hE3 e4) (by omega) (by omega) fun p5 H5 y5 n5 e5 h5 hA5 => ?_
      refine x_catA (e5 _ _ h4) h5 (Dt.mnA hA4 e5) hA5 (by rw [List.length_take, List.length_drop, List.length_map]; omega) fun p6 H6 n6 e6 h6 hA6 => ?_
      walk_at "rd"
      refine Rd.xtup rfl fun q H7 n7 e7 h7 => ?_
      rw [← List.map_take, ← List.map_drop, ← List.map_append] at hA6
      have e37 := ((e4.trans e5).trans e6).trans e7
      exact trip L R (E9.take s0.toNat ++ E9.drop (s0 + 1).toNat) q ra p6 H7 (e03.trans e37) h7 (Dt.mn (Dt.ofL hra3 hR3) e37) (Dt.ofL (e7 _ _ h6) (Dt.mnA hA6 e7)) (smE _ (by rw [List.length_append, List.length_take, List.length_drop]; omega) fun w hw => (List.mem_append.mp hw).elim List.mem_of_mem_take List.mem_of_mem_drop) fun h => by
        have := h.ends
        rw [List.length_append, List.length_take, List.length_drop] at this
        omega
    walk_at "rd"
    refine Rd.ifd (fun c2 => ?_) (fun c2 => ?_)
    · walk_at "rd"
      refine x_to (SqL.of hea) hE3 s00 (by omega) fun p4 H4 y4 n4 e4 h4 hA4 => ?_
      walk_at "rd"
      refine Rd.xlst rfl fun l7 H7 n7 e7 h7 => ?_
      refine x_catA (es := [dE none]) (e7 _ _ h4) h7 (Dt.mnA hA4 e7) (Dt.oneA .non) (by rw [List.length_take, List.length_map]; simp; omega) fun p8 H8 n8 e8 h8 hA8 => ?_
      have e38 := (e4.trans e7).trans e8
      have hs8 := Evl.ex_l e38 (SqL.of hea : SqL K H3 ea es)
      walk_at "rd"
      refine x_from hs8 (Dt.mnA hE3 e38) (by omega) (by omega) fun p5 H5 y5 n5 e5 h5 hA5 => ?_
      refine x_catA (e5 _ _ h8) h5 (Dt.mnA hA8 e5) hA5 (by rw [List.length_append, List.length_take, List.length_drop, List.length_map]; simp; omega) fun p6 H6 n6 e6 h6 hA6 => ?_
      walk_at "rd"
      refine Rd.xtup rfl fun q H9 n9 e9 h9 => ?_
      rw [← List.map_take, ← List.map_drop, show [dE none] = [none].map dE from rfl, ← List.map_append, ← List.map_append] at hA6
      have e39 := ((e38.trans e5).trans e6).trans e9
      exact trip L R (E9.take s0.toNat ++ [none] ++ E9.drop s0.toNat) q ra p6 H9 (e03.trans e39) h9 (Dt.mn (Dt.ofL hra3 hR3) e39) (Dt.ofL (e9 _ _ h6) (Dt.mnA hA6 e9)) (smE _ (by rw [List.length_append, List.length_append, List.length_take, List.length_drop]; simp; omega) fun w hw => by
        rcases List.mem_append.mp hw with hw | hw
        · rcases List.mem_append.mp hw with hw | hw
          · exact List.mem_of_mem_take hw
          · simp at hw
        · exact List.mem_of_mem_drop hw) fun h => by
        have := h.ends
        rw [List.length_append, List.length_append, List.length_take, List.length_drop] at this
        simp at this
        omega
    -- the row of the drawn state
    obtain ⟨n, rfl⟩ := Int.eq_ofNat_of_zero_le s00
    have hnR : n < R.length := by omega
    have g1 : as[n]? = some (as[n]'(by omega)) := List.getElem?_eq_getElem _
    have g2 : R[n]? = some (R[n]'hnR) := List.getElem?_eq_getElem _
    generalize as[n]'(by omega) = b at g1
    generalize R[n]'hnR = st at g2
    obtain ⟨us, g3, g4⟩ := hB3.rw n b st g1 g2
    have hst : st.length = L.length := ok.wid st (List.mem_of_getElem? g2)
    have hul := itLen g4
    have hbv : (as.map V.ref)[n]? = some (V.ref b) := by rw [List.getElem?_map, g1]; rfl
    have hne3 : ∀ b ∈ as, b ≠ ra := fun b hb => (hnew b hb).2
    have hwR : ∀ r ∈ R, ∀ q w, some (q, w) ∈ r → PyData.strOk w = true := z5
    have hear : ea ≠ ra := Ne.symm (ne_of_none hra nea)
    have hBb : ∀ (kk : Nat) (b : Addr), as[kk]? = some b → ∃ o, H2 b = some o := fun kk b hb => by
      obtain ⟨vs, h1, _⟩ := hB.rw kk b _ hb (List.getElem?_eq_getElem (by have := (List.getElem?_eq_some_iff.mp hb).1; omega))
      exact ⟨_, h1⟩
    by_cases hL0 : (0 : Int) < (L.length : Int)
    · rcases (by omega : digit = 3 ∨ digit = 4 ∨ 4 < digit) with c3 | c3 | c3
      · walk_at "rd"
        refine Rd.lenS (by omega) ?_
        walk_at "rd"
        refine Rd.ixL (SqL.of hra3) (atI_nat hbv) ?_
        walk_at "rd"
        refine x_to (SqL.of g3) g4 t0 (by omega) fun p4 H4 y4 n4 e4 h4 hA4 => ?_
        have hra4 := e4 _ _ hra3
        have hb4 := e4 _ _ g3
        walk_at "rd"
        refine Rd.ixL (SqL.of hra4) (atI_nat hbv) ?_
        walk_at "rd"
        refine x_fromW (SqL.of hb4) (Dt.mnA g4 e4) (by omega) fun p5 H5 y5 n5 e5 h5 hA5 => ?_
        refine x_catA (e5 _ _ h4) h5 (Dt.mnA hA4 e5) hA5 (by rw [List.length_take, List.length_drop, List.length_map]; omega) fun q5 H6 n6 e6 h6 hA6 => ?_
        rw [← List.map_take, ← List.map_drop, ← List.map_append] at hA6
        have e36 := (e4.trans e5).trans e6
        have hra6 := e36 _ _ hra3
        have hq5 : q5 ≠ ra := Ne.symm (ne_of_none (e5 _ _ hra4) n6)
        have hst2 : ∀ q w, some (q, w) ∈ st.take t.toNat ++ st.drop (t + 1).toNat → PyData.strOk w = true := fun q w hm => z5 st (List.mem_of_getElem? g2) q w ((List.mem_append.mp hm).elim List.mem_of_mem_take List.mem_of_mem_drop)
        generalize st.take t.toNat ++ st.drop (t + 1).toNat = st2 at hA6 hst2
        walk_at "rd"
        refine Rd.setL hra6 (Evl.ixN_nat (by omega)) ?_
        have hD7 := set_row (n := n) (hB3.ex e36) hne3 hra6 h6 hq5 hA6
        have hE7 : DpAll K (upd H6 ra (.lst ((as.map V.ref).set n (V.ref q5)))) es (E9.map dE) := endsI_upd hra6 (Dt.mnA hE3 e36)
        have hea7 : (upd H6 ra (.lst ((as.map V.ref).set n (V.ref q5)))) ea = some (.lst es) := (upd_ne hear).trans (e36 _ _ hea)
        have e07 : Evl.Ex H (upd H6 ra (.lst ((as.map V.ref).set n (V.ref q5)))) := Evl.Ex.mut (e03.trans e36) nra
        generalize upd H6 ra (.lst ((as.map V.ref).set n (V.ref q5))) = H7 at *
        obtain ⟨_, ws7, e0, hs7, hA7⟩ := Dt.inv_l hD7
        cases e0
        have hwl := itLen hA7
        rw [List.length_set] at hwl
        obtain ⟨y7, hy7, hyd⟩ := itA2 hA7 (show (R.set n st2)[n]? = some st2 from by rw [List.getElem?_set_self hnR])
        obtain ⟨b7, us7, rfl, hb7, hu7⟩ := Dt.inv_l hyd
        have hul7 := itLen hu7
        walk_at "rd"
        refine x_to hs7 hA7 (by omega) (by omega) fun p8 H8 y8 n8 e8 h8 hA8 => ?_
        have hs8 := Evl.ex_l e8 hs7
        walk_at "rd"
        refine Rd.ixL hs8 (atI_nat hy7) ?_
        walk_at "rd"
        refine Rd.lenS (by omega) ?_
        walk_at "rd"
        refine x_toW (Evl.ex_l e8 hb7) (Dt.mnA hu7 e8) (by omega) fun p9 H9 y9 n9 e9 h9 hA9 => ?_
        rw [← List.map_take] at hA9
        walk_at "rd"
        refine Rd.xlst rfl fun lA HA nA eA hA => ?_
        have h9A : Dp K HA (.ref p9) (dRI (st2.take ((L.length : Int) - 1).toNat)) := Dt.ofL (eA _ _ h9) (Dt.mnA hA9 eA)
        refine x_catA (es := [dRI (st2.take ((L.length : Int) - 1).toNat)]) ((e9.trans eA) _ _ h8) hA (Dt.mnA hA8 (e9.trans eA)) (Dt.oneA h9A) (by rw [List.length_take, List.length_map, List.length_set]; simp; omega) fun pB HB nB eB hB8 hAB => ?_
        have e7B := ((e8.trans e9).trans eA).trans eB
        walk_at "rd"
        refine x_from (Evl.ex_l e7B hs7) (Dt.mnA hA7 e7B) (by omega) (by omega) fun pC HC yC nC eC hC hAC => ?_
        refine x_catA (eC _ _ hB8) hC (Dt.mnA hAB eC) hAC (by rw [List.length_append, List.length_take, List.length_drop, List.length_map, List.length_set]; simp; omega) fun pD HD nD eD hDl hAD => ?_
        walk_at "rd"
        refine Rd.xtup rfl fun q HE nE eE hE => ?_
        rw [← List.map_take, ← List.map_drop, show [dRI (st2.take ((L.length : Int) - 1).toNat)] = [st2.take ((L.length : Int) - 1).toNat].map dRI from rfl, ← List.map_append, ← List.map_append] at hAD
        have e7E := ((e7B.trans eC).trans eD).trans eE
        have hset : ∀ r ∈ R.set n st2, ∀ q w, some (q, w) ∈ r → PyData.strOk w = true := mem_set_row z5 hst2
        refine trip L _ E9 q pD ea HE (e07.trans e7E) hE (Dt.ofL (eE _ _ hDl) (Dt.mnA hAD eE)) (Dt.ofL (e7E _ _ hea7) (Dt.mnA hE7 e7E)) ⟨z1, by rw [List.length_append, List.length_append, List.length_take, List.length_drop, List.length_set]; simp; omega, z3, z4, fun r hr q w hm => ?_, z6⟩ fun h => ?_
        · rcases List.mem_append.mp hr with hr | hr
          · rcases List.mem_append.mp hr with hr | hr
            · exact hset r (List.mem_of_mem_take hr) q w hm
            · cases List.mem_singleton.mp hr
              exact hst2 q w (List.mem_of_mem_take hm)
          · exact hset r (List.mem_of_mem_drop hr) q w hm
        · have := h.wid (st2.take ((L.length : Int) - 1).toNat) (List.mem_append.mpr (.inl (List.mem_append.mpr (.inr (List.mem_singleton.mpr rfl)))))
          rw [List.length_take] at this
          omega
      · walk_at "rd"
        refine Rd.lenS (by omega) ?_
        walk_at "rd"
        refine Rd.lenS (by omega) ?_
        walk_at "rd"
        intro u u0 u1
        have hLL : L.cps.toList.length = L.length := rfl
        have hc : L.cps.toList[u.toNat]? = some (L.cps.toList[u.toNat]'(by omega)) := List.getElem?_eq_getElem _
        generalize L.cps.toList[u.toNat]'(by omega) = c at hc
        refine Rd.ixS (by omega) (Rd.atI_i u0 hc) ?_
        have hsl := sl_lens t0 (show t ≤ (L.length : Int) by omega)
        have e1 : (⟨#[c]⟩ : Str).length = 1 := rfl
        walk_at "rd"
        refine Rd.slX (by omega) ?_
        walk_at "rd"
        refine Rd.catS (by rw [e1]; omega) ?_
        walk_at "rd"
        refine Rd.slX (by omega) ?_
        refine Rd.catS (by rw [len_app]; omega) ?_
        walk_at "rd"
        obtain ⟨m, rfl⟩ := Int.eq_ofNat_of_zero_le t0
        refine Rd.xlcG (K := K) (fun _ d => ∃ r' : List StI, d = dRI r' ∧ ∀ q w, some (q, w) ∈ r' → PyData.strOk w = true) (SqL.of hra3) (by omega) (fun _ => rfl) ?_ ?_
        · intro i x D G H' acc hi hD0 a1 a2 gD hacc Q' qq
          rw [List.getElem?_map] at hi
          obtain ⟨b', hb', rfl⟩ := Option.map_eq_some_iff.mp hi
          have hil := (List.getElem?_eq_some_iff.mp hb').1
          have hRi : R[i]? = some (R[i]'(by omega)) := List.getElem?_eq_getElem _
          generalize R[i]'(by omega) = st' at hRi
          obtain ⟨us', k3, k4⟩ := hB3.rw i b' st' hb' hRi
          have kl := itLen k4
          have kw : st'.length = L.length := ok.wid st' (List.mem_of_getElem? hRi)
          have k5 := (a1.trans a2) _ _ k3
          have k6 := Dt.mnA k4 a1
          walk_at "rd"
          refine x_slL (SqL.of k5) fun p1 H5 n5 e5 h5 => ?_
          rw [cut_to (by omega)] at h5
          walk_at "rd"
          refine Rd.xlst rfl fun p2 H6 n6 e6 h6 => ?_
          refine Rd.cat (e6 _ _ h5) h6 (by rw [List.length_take]; simp; omega) fun p3 H7 n7 e7 h7 => ?_
          have e57 := (e5.trans e6).trans e7
          walk_at "rd"
          refine x_slL (SqL.of (e57 _ _ k5)) fun p4 H8 n8 e8 h8 => ?_
          rw [cut_from (by omega)] at h8
          refine Rd.cat (e8 _ _ h7) h8 (by rw [List.length_append, List.length_take, List.length_drop]; simp; omega) fun p5 H9 n9 e9 h9 => ?_
          have e58 := e57.trans e8
          refine qq (.ref p5) H9 (upd G p5 (.lst (us'.take m ++ [V.non] ++ us'.drop m))) (dRI (st'.take m ++ [none] ++ st'.drop m)) (Rd.grow1 (a2.trans e58) n9) (Rd.grow2 (a2.trans e58) e9 h9) (Rd.grow3 gD n9 (e58 _ _ hacc)) (e58.trans e9) (Dt.ofL upd_same ?_) ⟨_, rfl, fun q w hm => ?_⟩
          · have z : DpAll K G (us'.take m ++ [V.non] ++ us'.drop m) ((st'.take m ++ [none] ++ st'.drop m).map dI) := by
              rw [List.map_append, List.map_append, List.map_take, List.map_drop]
              exact Dt.appA (Dt.appA (Dt.takeA m k6) (Dt.oneA .non)) (dropA m k6)
            exact Dt.mnA z (Rd.grow1 (a2.trans e58) n9)
          · have hin : some (q, w) ∈ st' := by
              rcases List.mem_append.mp hm with hm | hm
              · rcases List.mem_append.mp hm with hm | hm
                · exact List.mem_of_mem_take hm
                · simp at hm
              · exact List.mem_of_mem_drop hm
            exact z5 st' (List.mem_of_getElem? hRi) q w hin
        · intro p G' H' ys ds np a1 a2 gp hp' hds hdl hdR
          obtain ⟨R', rfl, hR'⟩ := rows_pick ds hdR
          walk_at "rd"
          refine Rd.xtup rfl fun q H9 n9 e9 h9 => ?_
          have e39 := (a1.trans a2).trans e9
          refine trip (dupT L m c) R' E9 q p ea H9 (e03.trans e39) h9 (Dt.ofL (e9 _ _ hp') (Dt.mnA hds (a2.trans e9))) (Dt.ofL (e39 _ _ hea) (Dt.mnA hE3 e39)) ⟨by rw [dup_len (by omega) (by omega)]; omega, by rw [List.length_map] at hdl; omega, z3, dup_ok z4 (by omega) (by omega) hc, hR', z6⟩ (dup_bad (by omega) (by omega) hc)
      · walk_at "rd"
        refine Rd.lenS (by omega) ?_
        walk_at "rd"
        intro u u0 u1
        walk_at "rd"
        refine Rd.xlst rfl fun l4 H4 n4 e4 h4 => ?_
        have hD4 := e4 _ _ hD3
        walk_at "rd"
        intro v v0 v1
        rw [hml] at h4
        obtain ⟨x, hx, hxb⟩ := goal_at (r := R.length) (u := u) u0 v0 v1
        refine Rd.ixL (SqL.of h4) hx ?_
        walk_at "rd"
        refine Rd.xtup rfl fun q5 H5 n5 e5 h5 => ?_
        have e35 := e4.trans e5
        have hra5 := e35 _ _ hra3
        have hD5 := e35 _ _ hD3
        walk_at "rd"
        refine Rd.ixL (SqL.of hra5) (atI_nat hbv) ?_
        walk_at "rd"
        refine Rd.lenS (by omega) ?_
        walk_at "rd"
        intro i i0 i1
        obtain ⟨j, rfl⟩ := Int.eq_ofNat_of_zero_le i0
        have hb5 := e35 _ _ g3
        refine Rd.setL hb5 (Evl.ixN_nat (by omega)) ?_
        walk_at "rd"
        refine Rd.xtup rfl fun q H6 n6 e6 h6 => ?_
        have hD6 := set_step (i := j) (s' := some (x, "a")) (hB3.ex e35) hne3 hra5 g1 g2 hb5 (Dt.mnA g4 e35) (Dt.ofT h5 (.cons (.int _) (.cons (.str _) .nil)))
        have hbH := (hnew b (List.mem_of_getElem? g1)).1
        have e06 : Evl.Ex H H6 := (Evl.Ex.mut (e03.trans e35) hbH).trans e6
        have hE6 : DpAll K H6 es (E9.map dE) := Dt.mnA (endsI_upd hb5 (Dt.mnA hE3 e35)) e6
        have heb : ea ≠ b := Ne.symm (ne_of_none (hBb _ _ g1).choose_spec nea)
        have hea6 := (upd_ne (o := HO.lst (us.set j (V.ref q5))) heb).trans (e35 _ _ hea)
        refine trip L (R.set n (st.set j (some (x, "a")))) E9 q ra ea H6 e06 h6 (Dt.mn hD6 e6) (Dt.ofL (e6 _ _ hea6) hE6) ⟨z1, by rw [List.length_set]; exact z2, z3, z4, mem_set_row z5 fun q w hm => ?_, z6⟩ fun h => ?_
        · rcases List.mem_or_eq_of_mem_set hm with hm | hm
          · exact z5 st (List.mem_of_getElem? g2) q w hm
          · cases hm
            decide +kernel
        · have := h.tgt _ (List.mem_of_getElem? (i := n) (by rw [List.getElem?_set_self hnR])) x "a" (List.mem_of_getElem? (i := j) (by rw [List.getElem?_set_self (by omega)]))
          rw [List.length_set] at this
          omega
    rcases (by omega : digit = 3 ∨ digit = 4 ∨ 4 < digit) with c3 | c3 | c3
    · walk_at "rd"
      refine Rd.lenS (by omega) ?_
      walk_at "rd"
      refine Rd.ixL (SqL.of hra3) (atI_nat hbv) ?_
      walk_at "rd"
      refine Rd.xlst rfl fun l4 H4 n4 e4 h4 => ?_
      refine x_catA (es := [dI none]) (e4 _ _ g3) h4 (Dt.mnA g4 e4) (Dt.oneA .non) (by rw [List.length_map]; simp; omega) fun q5 H5 n5 e5 h5 hA5 => ?_
      have e35 := e4.trans e5
      have hra5 := e35 _ _ hra3
      walk_at "rd"
      refine Rd.setL hra5 (Evl.ixN_nat (by omega)) ?_
      walk_at "rd"
      refine Rd.xtup rfl fun q H6 n6 e6 h6 => ?_
      rw [show [dI none] = [none].map dI from rfl, ← List.map_append] at hA5
      have hq5 : q5 ≠ ra := Ne.symm (ne_of_none (e4 _ _ hra3) n5)
      have hD6 := set_row (n := n) (hB3.ex e35) hne3 hra5 h5 hq5 hA5
      have e06 : Evl.Ex H H6 := (Evl.Ex.mut (e03.trans e35) nra).trans e6
      have hE6 : DpAll K H6 es (E9.map dE) := Dt.mnA (endsI_upd hra5 (Dt.mnA hE3 e35)) e6
      have hea6 : (upd H5 ra (.lst ((as.map V.ref).set n (V.ref q5)))) ea = some (.lst es) := (upd_ne hear).trans (e35 _ _ hea)
      refine trip L (R.set n (st ++ [none])) E9 q ra ea H6 e06 h6 (Dt.mn hD6 e6) (Dt.ofL (e6 _ _ hea6) hE6) ⟨z1, by rw [List.length_set]; exact z2, z3, z4, mem_set_row z5 fun q w hm => ?_, z6⟩ fun h => ?_
      · rcases List.mem_append.mp hm with hm | hm
        · exact z5 st (List.mem_of_getElem? g2) q w hm
        · simp at hm
      · have := h.wid (st ++ [none]) (List.mem_of_getElem? (i := n) (by rw [List.getElem?_set_self hnR]))
        rw [List.length_append] at this
        simp at this
        omega
    · walk_at "rd"
      refine Rd.lenS (by omega) ?_
      walk_at "rd"
      refine Rd.ixL (SqL.of hra3) (atI_nat hbv) ?_
      walk_at "rd"
      refine Rd.xlst rfl fun l4 H4 n4 e4 h4 => ?_
      refine x_catA (es := [dI none]) (e4 _ _ g3) h4 (Dt.mnA g4 e4) (Dt.oneA .non) (by rw [List.length_map]; simp; omega) fun q5 H5 n5 e5 h5 hA5 => ?_
      have e35 := e4.trans e5
      have hra5 := e35 _ _ hra3
      walk_at "rd"
      refine Rd.setL hra5 (Evl.ixN_nat (by omega)) ?_
      walk_at "rd"
      refine Rd.xtup rfl fun q H6 n6 e6 h6 => ?_
      rw [show [dI none] = [none].map dI from rfl, ← List.map_append] at hA5
      have hq5 : q5 ≠ ra := Ne.symm (ne_of_none (e4 _ _ hra3) n5)
      have hD6 := set_row (n := n) (hB3.ex e35) hne3 hra5 h5 hq5 hA5
      have e06 : Evl.Ex H H6 := (Evl.Ex.mut (e03.trans e35) nra).trans e6
      have hE6 : DpAll K H6 es (E9.map dE) := Dt.mnA (endsI_upd hra5 (Dt.mnA hE3 e35)) e6
      have hea6 : (upd H5 ra (.lst ((as.map V.ref).set n (V.ref q5)))) ea = some (.lst es) := (upd_ne hear).trans (e35 _ _ hea)
      refine trip L (R.set n (st ++ [none])) E9 q ra ea H6 e06 h6 (Dt.mn hD6 e6) (Dt.ofL (e6 _ _ hea6) hE6) ⟨z1, by rw [List.length_set]; exact z2, z3, z4, mem_set_row z5 fun q w hm => ?_, z6⟩ fun h => ?_
      · rcases List.mem_append.mp hm with hm | hm
        · exact z5 st (List.mem_of_getElem? g2) q w hm
        · simp at hm
      · have := h.wid (st ++ [none]) (List.mem_of_getElem? (i := n) (by rw [List.getElem?_set_self hnR]))
        rw [List.length_append] at this
        simp at this
        omega
    · walk_at "rd"
      refine Rd.lenS (by omega) ?_
      walk_at "rd"
      refine Rd.ixL (SqL.of hra3) (atI_nat hbv) ?_
      walk_at "rd"
      refine Rd.xlst rfl fun l4 H4 n4 e4 h4 => ?_
      refine x_catA (es := [dI none]) (e4 _ _ g3) h4 (Dt.mnA g4 e4) (Dt.oneA .non) (by rw [List.length_map]; simp; omega) fun q5 H5 n5 e5 h5 hA5 => ?_
      have e35 := e4.trans e5
      have hra5 := e35 _ _ hra3
      walk_at "rd"
      refine Rd.setL hra5 (Evl.ixN_nat (by omega)) ?_
      walk_at "rd"
      refine Rd.xtup rfl fun q H6 n6 e6 h6 => ?_
      rw [show [dI none] = [none].map dI from rfl, ← List.map_append] at hA5
      have hq5 : q5 ≠ ra := Ne.symm (ne_of_none (e4 _ _ hra3) n5)
      have hD6 := set_row (n := n) (hB3.ex e35) hne3 hra5 h5 hq5 hA5
      have e06 : Evl.Ex H H6 := (Evl.Ex.mut (e03.trans e35) nra).trans e6
      have hE6 : DpAll K H6 es (E9.map dE) := Dt.mnA (endsI_upd hra5 (Dt.mnA hE3 e35)) e6
      have hea6 : (upd H5 ra (.lst ((as.map V.ref).set n (V.ref q5)))) ea = some (.lst es) := (upd_ne hear).trans (e35 _ _ hea)
      refine trip L (R.set n (st ++ [none])) E9 q ra ea H6 e06 h6 (Dt.mn hD6 e6) (Dt.ofL (e6 _ _ hea6) hE6) ⟨z1, by rw [List.length_set]; exact z2, z3, z4, mem_set_row z5 fun q w hm => ?_, z6⟩ fun h => ?_
      · rcases List.mem_append.mp hm with hm | hm
        · exact z5 st (List.mem_of_getElem? g2) q w hm
        · simp at hm
      · have := h.wid (st ++ [none]) (List.mem_of_getElem? (i := n) (by rw [List.getElem?_set_self hnR]))
        rw [List.length_append] at this
        simp at this
        omega
/-! split -/

/-! ### the law -/
/-- a good machine of the law, its steps with whole numbers -/
def upS : Step → StI
  | none => none
  | some (q, w) => some ((q : Int), w)
theorem dS_up (s : Step) : dS s = dI (upS s) := by
  cases s with
  | none => rfl
  | some p => rfl
def upR (R : List (List Step)) : List (List StI) := R.map fun r => r.map upS
theorem dRows_up (R : List (List Step)) : dRows R = dRsI (upR R) := by
  unfold dRows dRsI upR
  rw [List.map_map]
  congr 1
  refine List.map_congr_left fun r _ => ?_
  show dRow r = dRI (r.map upS)
  unfold dRow dRI
  rw [List.map_map]
  congr 1
  exact List.map_congr_left fun s _ => dS_up s
theorem up_mem {r : List Step} {q : Int} {w : Str} (h : some (q, w) ∈ r.map upS) : ∃ n : Nat, q = n ∧ some (n, w) ∈ r := by
  obtain ⟨s, hs, e⟩ := List.mem_map.mp h
  cases s with
  | none => cases e
  | some p =>
    obtain ⟨n, w'⟩ := p
    cases e
    exact ⟨n, rfl, hs⟩
theorem MachOk.up {L : Str} {R : List (List Step)} {E : List (Option Str)} (h : MachOk L.length R E) (hL : ∀ i c : Nat, L.cps.toList[i]? = some c → Txt.find L ⟨#[c]⟩ = (i : Int)) : MOk L (upR R) E where
  own := hL
  pos := by unfold upR; rw [List.length_map]; have := h.pos; omega
  ends := by unfold upR; rw [List.length_map]; exact h.ends
  wid := fun r hr => by
    obtain ⟨r', hr', rfl⟩ := List.mem_map.mp hr
    rw [List.length_map]
    exact h.wid r' hr'
  tgt := fun r hr q w hm => by
    obtain ⟨r', hr', rfl⟩ := List.mem_map.mp hr
    obtain ⟨n, rfl, hn⟩ := up_mem hm
    have := (h.tgt r' hr' n w hn).1
    unfold upR
    rw [List.length_map]
    omega
/-! split -/
def let5 : List V := [.str "", .str "a", .str "ba", .str "cab", .str "dbca"]
def ltsB (L : Str) : Bool := (List.range L.length).all fun i => Txt.find L ⟨#[L.cps.toList.getD i 0]⟩ == (i : Int)
theorem lts_of {L : Str} (h1 : L.length ≤ 100) (h : ltsB L = true) : Lts L := ⟨h1, fun i c hc => by
  have hi : i < L.length := (List.getElem?_eq_some_iff.mp hc).1
  have h2 := List.all_eq_true.mp h i (List.mem_range.mpr hi)
  rw [List.getD_eq_getElem?_getD, hc] at h2
  exact eq_of_beq h2⟩
theorem let5_at {k : Int} (h0 : 0 ≤ k) (h1 : k < 5) : ∃ L : Str, atI let5 k = some (.str L) ∧ Lts L ∧ PyData.strOk L = true ∧ L.length ≤ 4 := by
  rcases (by omega : k = 0 ∨ k = 1 ∨ k = 2 ∨ k = 3 ∨ k = 4) with rfl | rfl | rfl | rfl | rfl <;> exact ⟨_, rfl, lts_of (by decide +kernel) (by decide +kernel), by decide +kernel, by decide +kernel⟩
theorem okRows_N {rs : List Row4} (h : OkRows rs) (h1 : 1 ≤ rs.length) : NOk (rs.length : Int) rs := ⟨by omega, rfl, fun a b c d hm => by
  have := h _ hm a b c d rfl
  omega⟩
section
variable {H : Hp} {l : Addr} {kvs : List (Key × V)} {o : HO}
theorem rd_dk {a : Addr} {u : HO} (h : H l = some (.dK kvs)) (n : ∀ kvs, u ≠ .dK kvs) (s : L2.Rd H a u) : L2.Rd (upd H l o) a u := by
  rcases s with s | ⟨ob, s⟩
  · exact .inl (by rw [upd_ne (fun z => by subst z; rw [h] at s; exact n _ (Option.some.inj s).symm)]; exact s)
  · exact .inr ⟨ob, by rw [upd_ne (fun z => by subst z; rw [h] at s; cases s)]; exact s⟩
theorem sqt_dk {a : Addr} {xs : List V} (h : H l = some (.dK kvs)) (s : SqT K H a xs) : SqT K (upd H l o) a xs := by
  rcases s with s | s
  · exact .inl (rd_dk h (fun _ z => by cases z) s)
  · exact .inr s
theorem sql_dk {a : Addr} {xs : List V} (h : H l = some (.dK kvs)) (s : SqL K H a xs) : SqL K (upd H l o) a xs := by
  rcases s with s | s
  · exact .inl (rd_dk h (fun _ z => by cases z) s)
  · exact .inr s
mutual
theorem updD (h : H l = some (.dK kvs)) : ∀ (d : PyData) (v : V), Dp K H v d → Dp K (upd H l o) v d
  | .none, _, h1 => by cases h1; exact .non
  | .bool b, _, h1 => by cases h1; exact .bl b
  | .int i, _, h1 => by cases h1; exact .int i
  | .str x, _, h1 => by cases h1; exact .str x
  | .list ds, _, h1 => by
    cases h1 with
    | lst hs ha => exact .lst (sql_dk h hs) (updDA h ds _ ha)
  | .tuple ds, _, h1 => by
    cases h1 with
    | tup hs ha => exact .tup (sqt_dk h hs) (updDA h ds _ ha)
  | .dict _, _, h1 => by cases h1
theorem updDA (h : H l = some (.dK kvs)) : ∀ (ds : List PyData) (vs : List V), DpAll K H vs ds → DpAll K (upd H l o) vs ds
  | [], _, h1 => by cases h1; exact .nil
  | d :: ds, _, h1 => by
    cases h1 with
    | cons h2 h3 => exact .cons (updD h d _ h2) (updDA h ds _ h3)
end
end
theorem pairs1 {tk tv : TE} {r : List (TE × TE)} {σ : L2.St} {H : Hp} {Q : List (V × V) → Hp → Prop} (h : tk σ H fun x H1 => tv σ H1 fun y H2 => tPairs r σ H2 fun ps H3 => Q ((x, y) :: ps) H3) : tPairs ((tk, tv) :: r) σ H Q := h
theorem pairs0 {σ : L2.St} {H : Hp} {Q : List (V × V) → Hp → Prop} (h : Q [] H) : tPairs [] σ H Q := h
/-! lists of steps made in a comprehension within one -/
def er (H : Hp) (D : Addr) : Hp := fun a => if a = D then none else H a
theorem er_D (H : Hp) (D : Addr) : er H D D = none := if_pos rfl
theorem er_ne {H : Hp} {D a : Addr} (h : a ≠ D) : er H D a = H a := if_neg h
theorem er_ex (H : Hp) (D : Addr) : Evl.Ex (er H D) H := fun a o h => by
  by_cases e : a = D
  · subst e; rw [er_D] at h; cases h
  · rwa [er_ne e] at h
theorem er_of {G H : Hp} {D : Addr} (e : Evl.Ex G H) (n : G D = none) : Evl.Ex G (er H D) := fun a o h => by
  have : a ≠ D := fun z => by subst z; rw [n] at h; cases h
  rw [er_ne this]
  exact e _ _ h
theorem xlcGS {σ : L2.St} {H : Hp} {Q : VK} {j : Nat} {vs : List Nat} {te : TE} {z : Str} (R : Nat → PyData → Prop) (hz : z.cps.size ≤ 40000) (hw : ∀ x, wipe ((wipe σ vs).set j (some x)) vs = wipe σ vs)
    (he : ∀ (i c : Nat) (D : Addr) (G H' : Hp) (acc : List V), z.cps[i]? = some c → H D = none → Evl.Ex H G → Evl.Ex G H' → G D = none → H' D = some (.lst acc) →
      ∀ Q' : VK, (∀ y H2 G2 d, Evl.Ex G G2 → Evl.Ex G2 H2 → G2 D = none → Evl.Ex H' H2 → Dp K G2 y d → R i d → Q' y H2) → te ((wipe σ vs).set j (some (.str ⟨#[c]⟩))) H' Q')
    (q : ∀ p G' H' ys ds, H p = none → Evl.Ex H G' → Evl.Ex G' H' → G' p = none → H' p = some (.lst ys) → DpAll K G' ys ds → ds.length = z.cps.size → (∀ i d, ds[i]? = some d → R i d) → Q (.ref p) H') : Rd.xLcS (gName j) tYes te vs σ (.str z) H Q := by
  refine ⟨z, rfl, fun D hD => ⟨fun i m H' => m = z.cps.size - i ∧ i ≤ z.cps.size ∧ Rd.Lw K H R D i H', ⟨_, rfl, Nat.zero_le _, hD, H, [], [], Evl.Ex.refl H, Evl.Ex.new hD, hD, upd_same, .nil, rfl, fun _ _ h => nomatch h⟩, ?_⟩⟩
  rintro i m H' ⟨rfl, hi, p⟩
  by_cases hlt : i < z.cps.size
  · exact .inr ⟨hlt, fun H2 => Rd.Lw K H R D (i + 1) H2, fun H2 p' => ⟨z.cps.size - (i + 1), by omega, rfl, hlt, p'⟩, fun x H2 ⟨e, c, hc, ex⟩ => by
      subst e; subst ex
      exact ⟨hw _, iteT (B := Rd.Lw K H R D (i + 1) H2) (Rd.lw_turn (by omega) p fun G acc a1 a2 a3 a4 => he i c D G H2 acc hc hD a1 a2 a3 a4)⟩⟩
  · have e : i = z.cps.size := by omega
    subst e
    obtain ⟨_, G, ys, ds, e1, e2, g, hys, hd, hl, hR⟩ := p
    exact .inl ⟨Nat.le_refl _, q D G H' ys ds hD e1 e2 g hys hd hl hR⟩
theorem er_sq {H : Hp} {D a : Addr} {acc xs : List V} (h : SqT K H a xs) (hD : H D = some (.lst acc)) : SqT K (er H D) a xs := by
  rcases h with (s | ⟨ob, s⟩) | s
  · exact .inl (.inl (by rw [er_ne (fun z => by subst z; rw [hD] at s; cases s)]; exact s))
  · exact .inl (.inr ⟨ob, by rw [er_ne (fun z => by subst z; rw [hD] at s; cases s)]; exact s⟩)
  · exact .inr s
theorem er_dI {H : Hp} {D : Addr} {acc : List V} {v : V} {s : StI} (h : Dp K H v (dI s)) (hD : H D = some (.lst acc)) : Dp K (er H D) v (dI s) := by
  cases s with
  | none => cases dI_none h; exact .non
  | some p =>
    obtain ⟨q, w⟩ := p
    obtain ⟨a, rfl, hs⟩ := dI_some h
    exact .tup (er_sq hs hD) (.cons (.int _) (.cons (.str _) .nil))
theorem er_dIA {H : Hp} {D : Addr} {acc : List V} (hD : H D = some (.lst acc)) : ∀ (st : List StI) (vs : List V), DpAll K H vs (st.map dI) → DpAll K (er H D) vs (st.map dI)
  | [], _, h => by cases h; exact .nil
  | s :: st, _, h => by
    cases h with
    | cons h1 h2 => exact .cons (er_dI h1 hD) (er_dIA hD st _ h2)
theorem rep_of {f : StI → PyData} {ds : List PyData} {d : PyData} {n : Nat} (hl : ds.length = n) (h : ∀ (i : Nat) x, ds[i]? = some x → x = d) : ds = List.replicate n d := List.eq_replicate_iff.mpr ⟨hl, fun x hx => by
  obtain ⟨i, hi⟩ := List.getElem?_of_mem hx
  exact h i x hi⟩
theorem last_ok {L : Str} {R : List (List StI)} {E : List (Option Str)} (h : MOk L R E) : MOk L (List.replicate R.length (List.replicate L.length (some ((R.length : Int) - 1, ("a" : Str))))) E := ⟨h.own, by rw [List.length_replicate]; exact h.pos, by rw [List.length_replicate]; exact h.ends, fun r hr => by rw [List.eq_of_mem_replicate hr, List.length_replicate], fun r hr q w hm => by
  rw [List.eq_of_mem_replicate hr] at hm
  cases List.eq_of_mem_replicate hm
  have := h.pos
  rw [List.length_replicate]
  omega⟩
theorem last_small {L : Str} {R : List (List StI)} {E : List (Option Str)} {n k : Nat} {q : Int} (h : (Dat.txt L R E).Small) (hn : n ≤ 1000) : (Dat.txt L (List.replicate n (List.replicate k (some (q, ("a" : Str))))) E).Small := by
  obtain ⟨z1, z2, z3, z4, z5, z6⟩ := h
  refine ⟨z1, by rw [List.length_replicate]; exact hn, z3, z4, fun r hr q w hm => ?_, z6⟩
  rw [List.eq_of_mem_replicate hr] at hm
  cases List.eq_of_mem_replicate hm
  decide +kernel
theorem cod_bad {os : List (Option Int)} {n : Nat} {m : Int} (h : m < 0) : ¬ COk (os.take n ++ [some m] ++ os.drop n) := fun g => by
  have := g m (List.mem_append_left _ (List.mem_append_right _ List.mem_cons_self))
  omega
/-- what stands in both -/
structure Twin (H : Hp) (g b : List (Key × V)) (kd : Str) : Prop where
  ex : ∃ (D D' : Dat) (v v' : V), D.kind = kd ∧ D'.kind = kd ∧ valV g (.inr kd) = some v ∧ valV b (.inr kd) = some v' ∧ Dp K H v D.py ∧ Dp K H v' D'.py ∧ D.Small ∧ D'.Small ∧ D.Good ∧ ¬ D'.Good
def spLaw (K : PySem.W.Frag) : Sp := fun vs H Q _ => ∃ (a : Addr) (ns : List Int), vs = [.ref a] ∧ SqL K H a (ns.map V.int) ∧ ns.length ≤ 63 ∧ ∀ H', Q (.bl true) H'
theorem ok_law {ad : Ad} (T : Txt K mg ad) : FnOk P w K mg base CX0 9 ad.a_law ad.d_law ["script"] (spLaw K) := by
  refine T.F_law.ok sc_law (fun vs H Q E h => ?_) (fun cdv A outer s H vs Q E hr h => ?_)
  · obtain ⟨a, ns, rfl, hS, hn, k⟩ := h
    rfl
  · obtain ⟨a, ns, rfl, hS, hn, k⟩ := h
    refine ⟨_, (pss_cons (ps_set (i := 1) sc_law.nd rfl (Or.inl rfl) (pe_call (ok_law_deck T) (hr.mono (by decide)) rfl T.m_law_deck T.F_law_deck.kp T.b_law_deck .nil pass0 (pa_cons (pv 0) (pa_cons pe_int (pa_cons pe_int pa_nil)))))
      (pss_cons (ps_set (i := 2) sc_law.nd rfl (Or.inl rfl) (pe_call (ok_law_parts T) (hr.mono (by decide)) rfl T.m_law_parts T.F_law_parts.kp T.b_law_parts .nil pass0 (pa_cons (pv 1) (pa_cons pe_int pa_nil))))
      (pss_cons (ps_set (i := 3) sc_law.nd rfl (Or.inr rfl) (pe_ix ix_list (pe_lst (pa_cons pe_str (pa_cons pe_str (pa_cons pe_str (pa_cons pe_str (pa_cons pe_str pa_nil)))))) (pe_call (ok_law_take T) (hr.mono (by decide)) rfl T.m_law_take T.F_law_take.kp T.b_law_take .nil pass0 (pa_cons (pv 1) (pa_cons pe_int pa_nil))) (fun _ _ => rfl)))
      (pss_cons (ps_set (i := 4) sc_law.nd rfl (Or.inr rfl) (pe_call (ok_law_machine T) (hr.mono (by decide)) rfl T.m_law_machine T.F_law_machine.kp T.b_law_machine .nil pass0 (pa_cons (pv 1) (pa_cons (pv 3) (pa_cons pe_str (pa_cons pe_int pa_nil))))))
      (pss_cons (ps_set (i := 5) sc_law.nd rfl (Or.inl rfl) (pe_lst pa_nil))
      (pss_cons (ps_for PassesOwn.never rfl (pi_range1 rfl T.z_range (pa_cons (pe_call (ok_law_take T) (hr.mono (by decide)) rfl T.m_law_take T.F_law_take.kp T.b_law_take .nil pass0 (pa_cons (pv 1) (pa_cons pe_int pa_nil))) pa_nil)) (pg_name (i := 6) sc_law.nd rfl (Or.inl rfl)) (pss_one (ps_expr (pe_bm PySem.F.plainAttrs_list PySem.F.slot_list_append PySem.F.type_list_append mt_append (pv 5) (pa_cons (pe_ix ix_list (pe_lst (pa_cons pe_non (pa_cons pe_int (pa_cons (pe_call (ok_law_take T) (hr.mono (by decide)) rfl T.m_law_take T.F_law_take.kp T.b_law_take .nil pass0 (pa_cons (pv 1) (pa_cons pe_int pa_nil))) pa_nil)))) (pe_call (ok_law_take T) (hr.mono (by decide)) rfl T.m_law_take T.F_law_take.kp T.b_law_take .nil pass0 (pa_cons (pv 1) (pa_cons pe_int pa_nil))) (fun _ _ => rfl)) pa_nil)))))
      (pss_cons (ps_set (i := 7) sc_law.nd rfl (Or.inl rfl) (pe_disp (pps_cons pe_str (pv 2) (pps_cons pe_str (pv 4) (pps_cons pe_str (pv 5) pps_nil))) (by rfl) (by rfl) (fun z => by cases z) (by decide)))
      (pss_cons (ps_set (i := 8) sc_law.nd rfl (Or.inl rfl) (pe_disp (pps_cons pe_str (pe_call (ok_law_spoilt_numbers T) (hr.mono (by decide)) rfl T.m_law_spoilt_numbers T.F_law_spoilt_numbers.kp T.b_law_spoilt_numbers .nil pass0 (pa_cons (pv 1) (pa_cons (pv 2) pa_nil))) (pps_cons pe_str (pe_call (ok_law_spoilt_texts T) (hr.mono (by decide)) rfl T.m_law_spoilt_texts T.F_law_spoilt_texts.kp T.b_law_spoilt_texts .nil pass0 (pa_cons (pv 1) (pa_cons (pv 4) pa_nil))) pps_nil)) (by rfl) (by rfl) (fun z => by cases z) (by decide)))
      (pss_cons (ps_set (i := 9) sc_law.nd rfl (Or.inl rfl) (pe_call (ok_law_take T) (hr.mono (by decide)) rfl T.m_law_take T.F_law_take.kp T.b_law_take .nil pass0 (pa_cons (pv 1) (pa_cons (pe_op op_add (pe_callB (id := "len") Rd.c_len (by rfl) T.z_len (by decide +kernel) (pa_cons (pv 5) pa_nil)) pe_int) pa_nil))))
      (pss_cons (ps_dput (hu_of hr) (pv 8) pe_str (pe_op op_cat (pe_op op_cat (pe_slice sl_list (pv 5) po_none (po_some (pv 9))) (pe_lst (pa_cons (pe_op op_sub (pe_un un_neg pe_int) (pe_op op_mul (pe_call (ok_law_take T) (hr.mono (by decide)) rfl T.m_law_take T.F_law_take.kp T.b_law_take .nil pass0 (pa_cons (pv 1) (pa_cons pe_int pa_nil))) (pe_op op_pow pe_int pe_int))) pa_nil))) (pe_slice sl_list (pv 5) (po_some (pv 9)) po_none)) rfl)
      (pss_cons (ps_for PassesOwn.never rfl (pi_tup (pe_tup (pa_cons pe_str (pa_cons pe_str (pa_cons pe_str pa_nil))))) (pg_name (i := 10) sc_law.nd rfl (Or.inl rfl)) (pss_one (ps_if (PW.pt (pw_or (pt_not (pt_val (pe_call (ok_law_right T) (hr.mono (by decide)) rfl T.m_law_right T.F_law_right.kp T.b_law_right .nil pass0 (pa_cons (pv 10) (pa_cons (pe_dget (hu_of hr) (pv 7) (pv 10) (fun _ _ => rfl)) (pa_cons pe_str pa_nil)))))) (pw_or1 (pt_not (pt_val (pe_call (ok_law_right T) (hr.mono (by decide)) rfl T.m_law_right T.F_law_right.kp T.b_law_right .nil pass0 (pa_cons (pv 10) (pa_cons (pe_dget (hu_of hr) (pv 8) (pv 10) (fun _ _ => rfl)) (pa_cons pe_str pa_nil))))))))) (pss_one (ps_ret pe_bl)) pss_nil)))
      (pss_cons (ps_setLc (i := 11) (own := [("row", 13)]) (g := gName 13) (tt := tYes) rfl sc_law.nd rfl rfl (sw_true rfl rfl rfl (by decide +kernel)) (pi_list (pe_ix ix_tup (pv 4) pe_int (fun _ _ => rfl))) (blkOk_by (N := ["script", "deck", "numbers", "letters", "texts", "codes", "k", "good", "bad", "at", "kind", "last", "letter", "row", "low"]) (sc := (defScope s_law)) (by decide +kernel)) (fun _ _ _ _ _ => (pg_name (i := 13) sc_law.nd rfl (Or.inl rfl))) (fun _ _ _ _ _ => pts_nil) (fun _ _ _ _ _ => (pe_lc (own := [("letter", 12)]) (g := gName 12) (tt := tYes) rfl sc_law.nd (pi_str (pv 3)) (blkOk_by (N := ["script", "deck", "numbers", "letters", "texts", "codes", "k", "good", "bad", "at", "kind", "last", "letter", "row", "low"]) (sc := (relS _ (defScope s_law))) (by decide +kernel)) (fun _ _ _ _ _ => (pg_name (i := 12) sc_law.nd rfl (Or.inl rfl))) (fun _ _ _ _ _ => pts_nil) (fun _ _ _ _ _ => (pe_tup (pa_cons (pe_op op_sub (pe_callB (id := "len") (Rd.c_len : CallR _ _ (Rd.rLen K)) (by rfl) T.z_len (by decide +kernel) (pa_cons (pe_ix (ix_tup : IxR _ (rIxT K)) (pv 4) pe_int (fun _ _ => rfl)) pa_nil)) pe_int) (pa_cons pe_str pa_nil)))))))
      (pss_cons (ps_if (pt_not (pt_val (pe_call (ok_law_right T) (hr.mono (by decide)) rfl T.m_law_right T.F_law_right.kp T.b_law_right .nil pass0 (pa_cons pe_str (pa_cons (pe_tup (pa_cons (pv 3) (pa_cons (pv 11) (pa_cons (pe_ix ix_tup (pv 4) pe_int (fun _ _ => rfl)) pa_nil)))) (pa_cons pe_str pa_nil)))))) (pss_one (ps_ret pe_bl)) pss_nil)
      (pss_cons (ps_set (i := 14) sc_law.nd rfl (Or.inl rfl) (pe_call (ok_law_whole T) (hr.mono (by decide)) rfl T.m_law_whole T.F_law_whole.kp T.b_law_whole .nil pass0 (pa_cons (pv 1) pa_nil)))
      (pss_one (ps_ret (pe_and (pe_call (ok_law_right T) (hr.mono (by decide)) rfl T.m_law_right T.F_law_right.kp T.b_law_right .nil pass0 (pa_cons pe_str (pa_cons (pe_tup (pa_cons pe_int (pa_cons (pe_lst (pa_cons (pe_tup (pa_cons pe_int (pa_cons pe_int (pa_cons (pv 14) (pa_cons (pv 14) pa_nil))))) pa_nil)) pa_nil))) (pa_cons pe_str pa_nil)))) (pe_one (pe_call (ok_law_right T) (hr.mono (by decide)) rfl T.m_law_right T.F_law_right.kp T.b_law_right .nil pass0 (pa_cons pe_str (pa_cons (pe_lst (pa_cons pe_int pa_nil)) (pa_cons pe_str pa_nil)))))))))))))))))))))), ?_⟩
    try dsimp only [L2.cxOf, L2.Cx.nox, L2.Cx.wish]
    change (_ : TS) _ ([some (.ref a), none, none, none, none, none, none, none, none, none, none, none, none, none, none] : St) _
    have cl_CodeMap := T.cl_CodeMap
    have n_CodeMap_images := T.n_CodeMap_images
    have cl_NumberMap := T.cl_NumberMap
    have n_NumberMap_period := T.n_NumberMap_period
    have n_NumberMap_rows := T.n_NumberMap_rows
    have cl_TextMap := T.cl_TextMap
    have n_TextMap_ends := T.n_TextMap_ends
    have n_TextMap_letters := T.n_TextMap_letters
    have n_TextMap_rows := T.n_TextMap_rows
    walk_at "rd"
    refine ⟨a, ns, 20, 24, rfl, hS, hn, by decide, by decide, by decide, by decide, fun l hl => ?_⟩
    have hD : (upd H l (Dk.DkO l)) l = some (Dk.DkO l) := upd_same
    generalize upd H l (Dk.DkO l) = H0 at *
    walk_at "rd"
    refine ⟨l, 6, rfl, hD, by decide, by decide, fun pn lr ws rs H1 e1 np nlr hpn hlr hws okr hr1 hr6 => ?_⟩
    have hD1 := e1 _ _ hD
    have hN1 : Dp K H1 (.ref pn) (Dat.num rs.length rs).py := Dt.ofT hpn (.cons (.int _) (.cons (Dt.ofL hlr hws) .nil))
    walk_at "rd"
    refine Rd.xlst rfl fun q2 H2 n2 e2 h2 => ?_
    have hD2 := e2 _ _ hD1
    walk_at "rd"
    intro t t0 t1
    obtain ⟨L, hat, hLo, hok, hll⟩ := let5_at t0 t1
    refine Rd.ixL (SqL.of h2) hat ?_
    walk_at "rd"
    refine ⟨l, L, "abx", 4, rfl, hD2, by omega, by decide, by decide, by decide +kernel, by decide +kernel, by decide +kernel, fun pt R E9 H3 e3 okm hw3 he2 hR ⟨ra, ea, hpt, hra, hea⟩ => ?_⟩
    have hD3 := e3 _ _ hD2
    have hokm := okm.up hLo.own
    have hT3 : Dp K H3 (.ref pt) (Dat.txt L (upR R) E9).py := .tup hpt (.cons (.str _) (.cons (by rw [← dRows_up]; exact hra) (.cons hea .nil)))
    have hR4 : R.length ≤ 4 := hR
    have hE4 : E9.length ≤ 4 := by rw [okm.ends]; exact hR4
    have hTz : (Dat.txt L (upR R) E9).Small := ⟨by omega, by unfold upR; rw [List.length_map]; omega, by omega, hok, fun r hr q w hm => by
      obtain ⟨r', hr', rfl⟩ := List.mem_map.mp hr
      obtain ⟨n, rfl, hn⟩ := up_mem hm
      exact (okm.tgt r' hr' n w hn).2.2, fun w hw => (okm.enw w hw).2⟩
    have hUl : (upR R).length = R.length := by unfold upR; rw [List.length_map]
    have hUd : dRows R = dRsI (upR R) := dRows_up R
    generalize upR R = U at *
    walk_at "rd"
    refine Rd.xlst rfl fun lc H4 n4 e4 h4 => ?_
    have hD4 := e4 _ _ hD3
    walk_at "rd"
    intro n n0 n1
    walk_at "rd"
    refine Rd.xfr1 ⟨by omega, by omega⟩ (fun i σ H' => ∃ (us : List V) (os : List (Option Int)) (v6 : Option V), σ = [some (.ref a), some (.ref l), some (.ref pn), some (.str L), some (.ref pt), some (.ref lc), v6, none, none, none, none, none, none, none, none] ∧ Evl.Ex H3 H' ∧ H' lc = some (.lst us) ∧ DpAll K H' us (os.map oI) ∧ COk os ∧ os.length = i)
      ⟨[], [], none, rfl, e4, h4, .nil, (fun _ h => nomatch h), rfl⟩ ?_ ?_
    · rintro i σ H5 hi ⟨us, os, v6, rfl, e5, h5, hA5, hok5, hlen⟩
      have hD5 := e5 _ _ hD3
      walk_at "rd"
      intro u u0 u1
      walk_at "rd"
      refine Rd.xlst rfl fun q6 H6 n6 e6 h6 => ?_
      have hD6 := e6 _ _ hD5
      walk_at "rd"
      intro x x0 x1
      obtain ⟨o, hat6, ho⟩ : ∃ o : Option Int, atI [V.non, .int 0, .int u] x = some (optV o) ∧ ∀ m, o = some m → 0 ≤ m := by
        rcases (by omega : x = 0 ∨ x = 1 ∨ x = 2) with rfl | rfl | rfl
        · exact ⟨none, rfl, fun _ h => by cases h⟩
        · exact ⟨some 0, rfl, fun _ h => by cases h; decide⟩
        · exact ⟨some u, rfl, fun _ h => by cases h; exact u0⟩
      refine Rd.ixL (SqL.of h6) hat6 ?_
      walk_at "rd"
      have hul := itLen hA5
      have hdo : Dp K H6 (optV o) (oI o) := by
        cases o with
        | none => exact .non
        | some m => exact .int m
      refine Rd.append (e6 _ _ h5) (by omega) ?_
      walk_at "rd"
      refine ⟨us ++ [optV o], os ++ [o], _, rfl, Evl.Ex.mut (e5.trans e6) n4, upd_same, ?_, ?_, by rw [List.length_append, hlen]; rfl⟩
      · rw [List.map_append]
        have noo : ∀ d ∈ os.map oI ++ [oI o], Dt.noL d = true := fun d hd => by
          rcases List.mem_append.mp hd with hd | hd
          · obtain ⟨s, _, rfl⟩ := List.mem_map.mp hd
            cases s <;> simp [oI, Dt.noL]
          · cases List.mem_singleton.mp hd
            cases o <;> simp [oI, Dt.noL]
        exact Dt.updLA (e6 _ _ h5) _ _ noo (Dt.snocA (Dt.mnA hA5 e6) hdo)
      · intro m hm
        rcases List.mem_append.mp hm with hm | hm
        · exact hok5 m hm
        · exact ho m (List.mem_singleton.mp hm).symm
    · rintro σ H5 ⟨us, os, v6, rfl, e5, h5, hA5, hok5, hlen⟩
      have hD5 := e5 _ _ hD3
      have hul := itLen hA5
      have hC5 : Dp K H5 (.ref lc) (Dat.cod os).py := Dt.ofL h5 hA5
      have hN5 := Dt.mn hN1 ((e2.trans e3).trans e5)
      have hT5 := Dt.mn hT3 e5
      have hpn5 := ((e2.trans e3).trans e5) _ _ hpn
      have hlr5 := ((e2.trans e3).trans e5) _ _ hlr
      have hws5 := Dt.mnA hws ((e2.trans e3).trans e5)
      walk_at "rd"
      intro g ng
      refine pairs1 ?_
      walk_at "rd"
      refine pairs1 ?_
      walk_at "rd"
      refine pairs1 ?_
      walk_at "rd"
      refine pairs0 ⟨upd_same, [(.inr "number", .ref pn), (.inr "text", .ref pt), (.inr "code", .ref lc)], rfl, Nat.le_of_ble_eq_true rfl, ?_⟩
      have e6 : Evl.Ex H5 (upd (upd H5 g (.dK [])) g (.dK (mergeK [] [(.inr "number", .ref pn), (.inr "text", .ref pt), (.inr "code", .ref lc)]))) := Evl.Ex.mut (Evl.Ex.new ng) ng
      have h6 : (upd (upd H5 g (.dK [])) g (.dK (mergeK [] [(.inr "number", .ref pn), (.inr "text", .ref pt), (.inr "code", .ref lc)]))) g = some (.dK (mergeK [] [(.inr "number", .ref pn), (.inr "text", .ref pt), (.inr "code", .ref lc)])) := upd_same
      have g1 : valV (mergeK [] [((.inr "number" : Key), V.ref pn), (.inr "text", .ref pt), (.inr "code", .ref lc)]) (.inr "number") = some (.ref pn) := by rfl
      have g2 : valV (mergeK [] [((.inr "number" : Key), V.ref pn), (.inr "text", .ref pt), (.inr "code", .ref lc)]) (.inr "text") = some (.ref pt) := by rfl
      have g3 : valV (mergeK [] [((.inr "number" : Key), V.ref pn), (.inr "text", .ref pt), (.inr "code", .ref lc)]) (.inr "code") = some (.ref lc) := by rfl
      generalize mergeK [] [((.inr "number" : Key), V.ref pn), (.inr "text", .ref pt), (.inr "code", .ref lc)] = gk at *
      generalize upd (upd H5 g (.dK [])) g (.dK gk) = H6 at *
      have hD6 := e6 _ _ hD5
      walk_at "rd"
      intro b nb
      refine pairs1 ?_
      walk_at "rd"
      have eb : Evl.Ex H6 (upd H6 b (.dK [])) := Evl.Ex.new nb
      have hb7 : upd H6 b (.dK []) b = some (.dK []) := upd_same
      generalize upd H6 b (.dK []) = H7 at *
      have hD7 := eb _ _ hD6
      have e57 := e6.trans eb
      refine ⟨l, pn, lr, ws, rs, rfl, hD7, SqT.of (e57 _ _ hpn5), SqL.of (e57 _ _ hlr5), Dt.mnA hws5 e57, hr1, hr6, fun vn p' rs' H8 e8 hvn hzn hbn => ?_⟩
      have hD8 := e8 _ _ hD7
      refine pairs1 ?_
      walk_at "rd"
      have e38 := (e5.trans e57).trans e8
      obtain ⟨z1, z2, z3, z4, z5, z6⟩ := id hTz
      refine ⟨l, pt, ra, ea, L, U, E9, rfl, hD8, Evl.ex_t e38 hpt, by rw [← hUd]; exact Dt.mn hra e38, Dt.mn hea e38, hokm, hTz, by omega, by omega, fun vt L' R' E' H9 e9 hvt hzt hbt => ?_⟩
      have hD9 := e9 _ _ hD8
      have hb9 : H9 b = some (.dK []) := e9 _ _ (e8 _ _ hb7)
      refine pairs0 ⟨hb9, [(.inr "number", vn), (.inr "text", vt)], rfl, Nat.le_of_ble_eq_true rfl, ?_⟩
      have b1 : ∀ c : V, valV (putK (mergeK [] [((.inr "number" : Key), vn), (.inr "text", vt)]) (.inr "code") c) (.inr "number") = some vn := fun c => by rfl
      have b2 : ∀ c : V, valV (putK (mergeK [] [((.inr "number" : Key), vn), (.inr "text", vt)]) (.inr "code") c) (.inr "text") = some vt := fun c => by rfl
      have b3 : ∀ c : V, valV (putK (mergeK [] [((.inr "number" : Key), vn), (.inr "text", vt)]) (.inr "code") c) (.inr "code") = some c := fun c => by rfl
      have b4 : (mergeK [] [((.inr "number" : Key), vn), (.inr "text", vt)]).length ≤ 10000 := Nat.le_of_ble_eq_true rfl
      generalize mergeK [] [((.inr "number" : Key), vn), (.inr "text", vt)] = bk at *
      have e10 : Evl.Ex H6 (upd H9 b (.dK bk)) := Evl.Ex.mut (eb.trans (e8.trans e9)) nb
      have hb10 : (upd H9 b (.dK bk)) b = some (.dK bk) := upd_same
      have hvn10 : Dp K (upd H9 b (.dK bk)) vn _ := updD hb9 _ _ (Dt.mn hvn e9)
      have hvt10 : Dp K (upd H9 b (.dK bk)) vt _ := updD hb9 _ _ hvt
      generalize upd H9 b (.dK bk) = H10 at *
      have hD10 := e10 _ _ hD6
      have hl10 := e10 _ _ (e6 _ _ h5)
      have hA10 := Dt.mnA hA5 (e6.trans e10)
      walk_at "rd"
      intro m m0 m1
      walk_at "rd"
      refine x_to (SqL.of hl10) hA10 m0 (by omega) fun p11 H11 y11 n11 e11 h11 hA11 => ?_
      have hD11 := e11 _ _ hD10
      walk_at "rd"
      intro u u0 u1
      walk_at "rd"
      refine Rd.xlst rfl fun p12 H12 n12 e12 h12 => ?_
      refine x_catA (es := [oI (some (-1 - u * 1000000000))]) (e12 _ _ h11) h12 (Dt.mnA hA11 e12) (Dt.oneA (.int _)) (by rw [List.length_take, List.length_map]; simp; omega) fun p13 H13 n13 e13 h13 hA13 => ?_
      have e1013 := (e11.trans e12).trans e13
      walk_at "rd"
      refine x_from (SqL.of (e1013 _ _ hl10)) (Dt.mnA hA10 e1013) m0 (by omega) fun p14 H14 y14 n14 e14 h14 hA14 => ?_
      refine x_catA (e14 _ _ h13) h14 (Dt.mnA hA13 e14) hA14 (by rw [List.length_append, List.length_take, List.length_drop, List.length_map]; simp; omega) fun p15 H15 n15 e15 h15 hA15 => ?_
      have e1015 := (e1013.trans e14).trans e15
      walk_at "rd"
      rw [show [oI (some (-1 - u * 1000000000))] = [some (-1 - u * 1000000000)].map oI from rfl, ← List.map_take, ← List.map_drop, ← List.map_append, ← List.map_append] at hA15
      refine Rd.xdputS (e1015 _ _ hb10) b4 ?_
      have hb15 := e1015 _ _ hb10
      have hvc : Dp K H15 (.ref p15) (Dat.cod (os.take m.toNat ++ [some (-1 - u * 1000000000)] ++ os.drop m.toNat)).py := Dt.ofL h15 hA15
      have hcb : ¬ COk (os.take m.toNat ++ [some (-1 - u * 1000000000)] ++ os.drop m.toNat) := cod_bad (by omega)
      have hcz : (os.take m.toNat ++ [some (-1 - u * 1000000000)] ++ os.drop m.toNat).length ≤ 1000 := by rw [List.length_append, List.length_append, List.length_take, List.length_drop]; simp; omega
      generalize os.take m.toNat ++ [some (-1 - u * 1000000000)] ++ os.drop m.toNat = cs at *
      have e16 : Evl.Ex H6 (upd H15 b (.dK (putK bk (.inr "code") (.ref p15)))) := Evl.Ex.mut (e10.trans e1015) nb
      have hb16 : (upd H15 b (.dK (putK bk (.inr "code") (.ref p15)))) b = some (.dK (putK bk (.inr "code") (.ref p15))) := upd_same
      have hvn16 : Dp K (upd H15 b (.dK (putK bk (.inr "code") (.ref p15)))) vn (Dat.num p' rs').py := updD hb15 _ _ (Dt.mn hvn10 e1015)
      have hvt16 : Dp K (upd H15 b (.dK (putK bk (.inr "code") (.ref p15)))) vt (Dat.txt L' R' E').py := updD hb15 _ _ (Dt.mn hvt10 e1015)
      have hvc16 : Dp K (upd H15 b (.dK (putK bk (.inr "code") (.ref p15)))) (.ref p15) (Dat.cod cs).py := updD hb15 _ _ hvc
      have b1 := b1 (.ref p15)
      have b2 := b2 (.ref p15)
      have b3 := b3 (.ref p15)
      generalize putK bk (.inr "code") (.ref p15) = bj at *
      generalize upd H15 b (.dK bj) = H16 at *
      have hD16 := e16 _ _ hD6
      have e516 := e6.trans e16
      have twin : ∀ (i : Nat) (x : V), [V.str "number", .str "text", .str "code"][i]? = some x → ∃ (D D' : Dat) (v v' : V), D'.kind = D.kind ∧ x = .str D.kind ∧ valV gk (.inr D.kind) = some v ∧ valV bj (.inr D.kind) = some v' ∧ Dp K H16 v D.py ∧ Dp K H16 v' D'.py ∧ D.Small ∧ D'.Small ∧ D.Good ∧ ¬ D'.Good := by
        intro i x hx
        have hi3 : i < 3 := (List.getElem?_eq_some_iff.mp hx).1
        rcases (by omega : i = 0 ∨ i = 1 ∨ i = 2) with rfl | rfl | rfl
        · cases hx
          exact ⟨.num rs.length rs, .num p' rs', _, _, rfl, rfl, g1, b1, Dt.mn hN5 e516, hvn16, by show rs.length ≤ 1000; omega, hzn, okRows_N okr hr1, hbn⟩
        · cases hx
          exact ⟨.txt L U E9, .txt L' R' E', _, _, rfl, rfl, g2, b2, Dt.mn hT5 e516, hvt16, hTz, hzt, hokm, hbt⟩
        · cases hx
          exact ⟨.cod os, .cod cs, _, _, rfl, rfl, g3, b3, Dt.mn hC5 e516, hvc16, by show os.length ≤ 1000; omega, hcz, hok5, hcb⟩
      walk_at "rd"
      refine Rd.xtup rfl fun q17 H17 n17 e17 h17 => ?_
      have hD17 := e17 _ _ hD16
      walk_at "rd"
      refine Rd.xft (SqT.of h17) (fun i σ Hc => ∃ v10, σ = [some (.ref a), some (.ref l), some (.ref pn), some (.str L), some (.ref pt), some (.ref lc), v6, some (.ref g), some (.ref b), some (.int m), v10, none, none, none, none] ∧ Evl.Ex H17 Hc) ⟨none, rfl, Evl.Ex.refl _⟩ (fun i σ Hc _ ⟨_, _, e⟩ => Evl.ex_t e (SqT.of h17)) ?_ ?_
      · rintro i x σ Hc hi ⟨v10, rfl, ec⟩
        obtain ⟨D, D', v, v', ek, rfl, gg, bb, hv, hv', z1, z2, ok1, ok2⟩ := twin i x hi
        have e6c := (e16.trans e17).trans ec
        walk_at "rd"
        refine Rd.xdgetS (e6c _ _ h6) gg ?_
        walk_at "rd"
        refine ⟨D, v, "built", rfl, Dt.mn hv (e17.trans ec), z1, .inl ⟨ok1, rfl⟩, fun Hd ed => ?_⟩
        walk_at "rd"
        refine Rd.xdgetS ((ec.trans ed) _ _ (e17 _ _ hb16)) bb ?_
        walk_at "rd"
        refine ⟨D', v', "refused", by rw [ek]; rfl, Dt.mn hv' ((e17.trans ec).trans ed), z2, .inr ⟨ok2, rfl⟩, fun He ee => ?_⟩
        walk_at "rd"
        exact ⟨_, rfl, (ec.trans ed).trans ee⟩
      · rintro σ Hc ⟨v10, rfl, ec⟩
        have e5c := (e516.trans e17).trans ec
        have hDc := ec _ _ hD17
        walk_at "rd"
        have hptc := Evl.ex_t (e5.trans e5c) hpt
        have hrac : Dp K Hc (.ref ra) (dRsI U) := by rw [← hUd]; exact Dt.mn hra (e5.trans e5c)
        have heac := Dt.mn hea (e5.trans e5c)
        obtain ⟨ra', xr, er0, hsr, hAr⟩ := Dt.inv_l hrac
        cases er0
        have hxr := itLen hAr
        refine Rd.ixT hptc rfl ?_
        refine Rd.xlcG (fun _ d => d = dRI (List.replicate L.length (some ((U.length : Int) - 1, ("a" : Str))))) hsr (by omega) (fun _ => rfl) ?_ ?_
        · intro i x D G Hd acc hx hDn a1 a2 gD hacc Q' kq
          walk_at "rd"
          refine xlcGS (K := K) (fun _ d => d = dI (some ((U.length : Int) - 1, ("a" : Str)))) (by show L.length ≤ 40000; omega) (fun _ => rfl) ?_ ?_
          · intro j c D2 G2 He acc2 hc hD2n b1 b2 gD2 hacc2 Q2 kq2
            have ee := ((a1.trans a2).trans b1).trans b2
            walk_at "rd"
            refine Rd.ixT (Evl.ex_t ee hptc) rfl ?_
            walk_at "rd"
            refine Rd.len (Evl.ex_l ee hsr) ?_
            walk_at "rd"
            refine Rd.xtup rfl fun q Hf nf ef hf => ?_
            refine kq2 _ Hf (upd G2 q (.tup [.int ((xr.length : Int) - 1), .str "a"])) _ (Rd.grow1 b2 nf) (Rd.grow2 b2 ef hf) (Rd.grow3 gD2 nf hacc2) ef (Dt.ofT upd_same (.cons (.int _) (.cons (.str _) .nil))) ?_
            rw [← hxr]
            rfl
          · intro p2 G2 He ys ds np2 b1 b2 gp hp hA hdl hR2
            have ed : ds = (List.replicate L.length (some ((U.length : Int) - 1, ("a" : Str)))).map dI := by
              rw [List.map_replicate]
              exact rep_of (f := dI) hdl hR2
            subst ed
            have hDe : He D = some (.lst acc) := (b1.trans b2) _ _ hacc
            refine kq _ He (er He D) _ (er_of (a2.trans (b1.trans b2)) gD) (er_ex _ _) (er_D _ _) (b1.trans b2) ?_ rfl
            exact Dt.ofL ((er_ne (ne_of_none hacc np2).symm).trans hp) (er_dIA hDe _ _ (Dt.mnA hA b2))
        · intro p18 G18 H18 ys ds np18 a1 a2 gp hp18 hA18 hdl hR18
          have ed : ds = (List.replicate U.length (List.replicate L.length (some ((U.length : Int) - 1, ("a" : Str))))).map dRI := by
            rw [List.map_replicate]
            exact rep_of (f := dI) (by omega) hR18
          subst ed
          have e18 := a1.trans a2
          have hD18 := e18 _ _ hDc
          walk_at "rd"
          refine Rd.ixT (Evl.ex_t e18 hptc) rfl ?_
          walk_at "rd"
          refine Rd.xtup rfl fun q19 H19 n19 e19 h19 => ?_
          have hD19 := e19 _ _ hD18
          refine ⟨.txt L (List.replicate U.length (List.replicate L.length (some ((U.length : Int) - 1, ("a" : Str))))) E9, _, "built", rfl, Dt.ofT h19 (.cons (.str _) (.cons (Dt.ofL (e19 _ _ hp18) (Dt.mnA hA18 (a2.trans e19))) (.cons (Dt.mn heac (e18.trans e19)) .nil))), last_small hTz (by omega), .inl ⟨last_ok hokm, rfl⟩, fun H20 e20 => ?_⟩
          have hD20 := e20 _ _ hD19
          walk_at "rd"
          intro low _
          walk_at "rd"
          refine Rd.xtup rfl fun q21 H21 n21 e21 h21 => ?_
          walk_at "rd"
          refine Rd.xlst rfl fun q22 H22 n22 e22 h22 => ?_
          walk_at "rd"
          refine Rd.xtup rfl fun q23 H23 n23 e23 h23 => ?_
          refine ⟨.num 1 [some (0, 0, low, low)], _, "built", rfl, Dt.ofT h23 (.cons (.int _) (.cons (Dt.ofL (e23 _ _ h22) (Dt.oneA (Dt.ofT ((e22.trans e23) _ _ h21) (.cons (.int _) (.cons (.int _) (.cons (.int _) (.cons (.int _) .nil))))))) .nil)), Nat.le_of_ble_eq_true rfl, .inl ⟨⟨by decide, rfl, fun a b c d hm => by cases List.mem_singleton.mp hm; exact Int.le_refl _⟩, rfl⟩, fun H24 e24 => ?_⟩
          walk_at "rd"
          refine Rd.xlst rfl fun q25 H25 n25 e25 h25 => ?_
          refine ⟨.cod [some 0], _, "built", rfl, Dt.ofL h25 (Dt.oneA (.int _)), Nat.le_of_ble_eq_true rfl, .inl ⟨fun n hm => by cases List.mem_singleton.mp hm; decide, rfl⟩, fun H26 e26 => ?_⟩
          exact k _
/-! split -/

/-! split -/
end
theorem all_mk {K : PySem.W.Frag} {h : Heap} {mg : Str → Option Value} {fa : Addr} (X : K.In h) (G : h.Ns mainGlobals mg) (hfa : mg "law" = some (.ref fa))
    {c_BridgeError : Addr}
    {c_CodeMap : Addr}
    {c_InvalidLanguage : Addr}
    {c_InvalidMap : Addr}
    {c_InvalidProgram : Addr}
    {c_InvalidRow : Addr}
    {c_InvalidTable : Addr}
    {c_NumberMap : Addr}
    {c_TextMap : Addr}
    {nm_InvalidMap q_InvalidMap : Str} {N_InvalidMap : Addr} {bs_InvalidMap : List Value} {sn_InvalidMap : List Str} {sub_InvalidMap : List Value} {ab_InvalidMap : Bool} {col_InvalidMap : Option Bool} {dd_InvalidMap : Option Addr} {m0_InvalidMap m1_InvalidMap m2_InvalidMap m3_InvalidMap m5_InvalidMap : Option Value}
    {f_law_take : Addr} {oc_law_take kV_law_take dc_law_take pm_law_take cd_law_take ct_law_take : Value} {od_law_take an_law_take : Option Addr} {sl_law_take : Array (Option Value)}
    {f_law_deck : Addr} {oc_law_deck kV_law_deck dc_law_deck pm_law_deck cd_law_deck ct_law_deck : Value} {od_law_deck an_law_deck : Option Addr} {sl_law_deck : Array (Option Value)}
    {f_InvalidMap_init_ : Addr} {oc_InvalidMap_init_ kV_InvalidMap_init_ dc_InvalidMap_init_ pm_InvalidMap_init_ cd_InvalidMap_init_ ct_InvalidMap_init_ : Value} {od_InvalidMap_init_ an_InvalidMap_init_ : Option Addr} {sl_InvalidMap_init_ : Array (Option Value)}
    {f_law_whole : Addr} {oc_law_whole kV_law_whole dc_law_whole pm_law_whole cd_law_whole ct_law_whole : Value} {od_law_whole an_law_whole : Option Addr} {sl_law_whole : Array (Option Value)}
    {f_law_parts : Addr} {oc_law_parts kV_law_parts dc_law_parts pm_law_parts cd_law_parts ct_law_parts : Value} {od_law_parts an_law_parts : Option Addr} {sl_law_parts : Array (Option Value)}
    {f_law_word : Addr} {oc_law_word kV_law_word dc_law_word pm_law_word cd_law_word ct_law_word : Value} {od_law_word an_law_word : Option Addr} {sl_law_word : Array (Option Value)}
    {f_law_machine : Addr} {oc_law_machine kV_law_machine dc_law_machine pm_law_machine cd_law_machine ct_law_machine : Value} {od_law_machine an_law_machine : Option Addr} {sl_law_machine : Array (Option Value)}
    {f_NumberMap_init_ : Addr} {oc_NumberMap_init_ kV_NumberMap_init_ dc_NumberMap_init_ pm_NumberMap_init_ cd_NumberMap_init_ ct_NumberMap_init_ : Value} {od_NumberMap_init_ an_NumberMap_init_ : Option Addr} {sl_NumberMap_init_ : Array (Option Value)}
    {f_check_machine : Addr} {oc_check_machine kV_check_machine dc_check_machine pm_check_machine cd_check_machine ct_check_machine : Value} {od_check_machine an_check_machine : Option Addr} {sl_check_machine : Array (Option Value)}
    {f_TextMap_init_ : Addr} {oc_TextMap_init_ kV_TextMap_init_ dc_TextMap_init_ pm_TextMap_init_ cd_TextMap_init_ ct_TextMap_init_ : Value} {od_TextMap_init_ an_TextMap_init_ : Option Addr} {sl_TextMap_init_ : Array (Option Value)}
    {f_CodeMap_init_ : Addr} {oc_CodeMap_init_ kV_CodeMap_init_ dc_CodeMap_init_ pm_CodeMap_init_ cd_CodeMap_init_ ct_CodeMap_init_ : Value} {od_CodeMap_init_ an_CodeMap_init_ : Option Addr} {sl_CodeMap_init_ : Array (Option Value)}
    {f_law_build : Addr} {oc_law_build kV_law_build dc_law_build pm_law_build cd_law_build ct_law_build : Value} {od_law_build an_law_build : Option Addr} {sl_law_build : Array (Option Value)}
    {f_law_copied : Addr} {oc_law_copied kV_law_copied dc_law_copied pm_law_copied cd_law_copied ct_law_copied : Value} {od_law_copied an_law_copied : Option Addr} {sl_law_copied : Array (Option Value)}
    {f_law_outcome : Addr} {oc_law_outcome kV_law_outcome dc_law_outcome pm_law_outcome cd_law_outcome ct_law_outcome : Value} {od_law_outcome an_law_outcome : Option Addr} {sl_law_outcome : Array (Option Value)}
    {f_law_right : Addr} {oc_law_right kV_law_right dc_law_right pm_law_right cd_law_right ct_law_right : Value} {od_law_right an_law_right : Option Addr} {sl_law_right : Array (Option Value)}
    {f_law_spoilt_numbers : Addr} {oc_law_spoilt_numbers kV_law_spoilt_numbers dc_law_spoilt_numbers pm_law_spoilt_numbers cd_law_spoilt_numbers ct_law_spoilt_numbers : Value} {od_law_spoilt_numbers an_law_spoilt_numbers : Option Addr} {sl_law_spoilt_numbers : Array (Option Value)}
    {f_law_spoilt_texts : Addr} {oc_law_spoilt_texts kV_law_spoilt_texts dc_law_spoilt_texts pm_law_spoilt_texts cd_law_spoilt_texts ct_law_spoilt_texts : Value} {od_law_spoilt_texts an_law_spoilt_texts : Option Addr} {sl_law_spoilt_texts : Array (Option Value)}
    {f_law : Addr} {oc_law kV_law dc_law pm_law cd_law ct_law : Value} {od_law an_law : Option Addr} {sl_law : Array (Option Value)}
    (A_BridgeError : PySem.W.nsIn K mainGlobals "BridgeError" = some (some (.ref c_BridgeError)))
    (A_CodeMap : PySem.W.nsIn K mainGlobals "CodeMap" = some (some (.ref c_CodeMap)))
    (A_InvalidLanguage : PySem.W.nsIn K mainGlobals "InvalidLanguage" = some (some (.ref c_InvalidLanguage)))
    (A_InvalidMap : PySem.W.nsIn K mainGlobals "InvalidMap" = some (some (.ref c_InvalidMap)))
    (A_InvalidProgram : PySem.W.nsIn K mainGlobals "InvalidProgram" = some (some (.ref c_InvalidProgram)))
    (A_InvalidRow : PySem.W.nsIn K mainGlobals "InvalidRow" = some (some (.ref c_InvalidRow)))
    (A_InvalidTable : PySem.W.nsIn K mainGlobals "InvalidTable" = some (some (.ref c_InvalidTable)))
    (A_NumberMap : PySem.W.nsIn K mainGlobals "NumberMap" = some (some (.ref c_NumberMap)))
    (A_TextMap : PySem.W.nsIn K mainGlobals "TextMap" = some (some (.ref c_TextMap)))
    (a_law_take : PySem.W.nsIn K mainGlobals "_law_take" = some (some (.ref f_law_take)))
    (l_law_take : K.lookup f_law_take = some ⟨oc_law_take, od_law_take, .func (PySem.W.fnOf "_law_take" "_law_take" (defArgs s_law_take) (defBody s_law_take) (defScope s_law_take) .none kV_law_take dc_law_take pm_law_take an_law_take cd_law_take ct_law_take), sl_law_take⟩)
    (c_law_take : PySem.W.codeIn K cd_law_take "_law_take" = true)
    (k_law_take : PySem.W.keepIn K (.ref f_law_take) = true)
    (a_law_deck : PySem.W.nsIn K mainGlobals "_law_deck" = some (some (.ref f_law_deck)))
    (l_law_deck : K.lookup f_law_deck = some ⟨oc_law_deck, od_law_deck, .func (PySem.W.fnOf "_law_deck" "_law_deck" (defArgs s_law_deck) (defBody s_law_deck) (defScope s_law_deck) .none kV_law_deck dc_law_deck pm_law_deck an_law_deck cd_law_deck ct_law_deck), sl_law_deck⟩)
    (c_law_deck : PySem.W.codeIn K cd_law_deck "_law_deck" = true)
    (k_law_deck : PySem.W.keepIn K (.ref f_law_deck) = true)
    (a_InvalidMap_init_ : PySem.W.findIn K (.ref c_InvalidMap) "__init__" = some (some (.ref f_InvalidMap_init_)))
    (i_InvalidMap_init_ : PySem.W.isFn K (.ref f_InvalidMap_init_) = true)
    (l_InvalidMap_init_ : K.lookup f_InvalidMap_init_ = some ⟨oc_InvalidMap_init_, od_InvalidMap_init_, .func (PySem.W.fnOf "__init__" "InvalidMap.__init__" (defArgs s_InvalidMap_init_) (defBody s_InvalidMap_init_) (defScope s_InvalidMap_init_) .none kV_InvalidMap_init_ dc_InvalidMap_init_ pm_InvalidMap_init_ an_InvalidMap_init_ cd_InvalidMap_init_ ct_InvalidMap_init_), sl_InvalidMap_init_⟩)
    (c_InvalidMap_init_ : PySem.W.codeIn K cd_InvalidMap_init_ "InvalidMap.__init__" = true)
    (k_InvalidMap_init_ : PySem.W.keepIn K (.ref f_InvalidMap_init_) = true)
    (a_law_whole : PySem.W.nsIn K mainGlobals "_law_whole" = some (some (.ref f_law_whole)))
    (l_law_whole : K.lookup f_law_whole = some ⟨oc_law_whole, od_law_whole, .func (PySem.W.fnOf "_law_whole" "_law_whole" (defArgs s_law_whole) (defBody s_law_whole) (defScope s_law_whole) .none kV_law_whole dc_law_whole pm_law_whole an_law_whole cd_law_whole ct_law_whole), sl_law_whole⟩)
    (c_law_whole : PySem.W.codeIn K cd_law_whole "_law_whole" = true)
    (k_law_whole : PySem.W.keepIn K (.ref f_law_whole) = true)
    (a_law_parts : PySem.W.nsIn K mainGlobals "_law_parts" = some (some (.ref f_law_parts)))
    (l_law_parts : K.lookup f_law_parts = some ⟨oc_law_parts, od_law_parts, .func (PySem.W.fnOf "_law_parts" "_law_parts" (defArgs s_law_parts) (defBody s_law_parts) (defScope s_law_parts) .none kV_law_parts dc_law_parts pm_law_parts an_law_parts cd_law_parts ct_law_parts), sl_law_parts⟩)
    (c_law_parts : PySem.W.codeIn K cd_law_parts "_law_parts" = true)
    (k_law_parts : PySem.W.keepIn K (.ref f_law_parts) = true)
    (a_law_word : PySem.W.nsIn K mainGlobals "_law_word" = some (some (.ref f_law_word)))
    (l_law_word : K.lookup f_law_word = some ⟨oc_law_word, od_law_word, .func (PySem.W.fnOf "_law_word" "_law_word" (defArgs s_law_word) (defBody s_law_word) (defScope s_law_word) .none kV_law_word dc_law_word pm_law_word an_law_word cd_law_word ct_law_word), sl_law_word⟩)
    (c_law_word : PySem.W.codeIn K cd_law_word "_law_word" = true)
    (k_law_word : PySem.W.keepIn K (.ref f_law_word) = true)
    (a_law_machine : PySem.W.nsIn K mainGlobals "_law_machine" = some (some (.ref f_law_machine)))
    (l_law_machine : K.lookup f_law_machine = some ⟨oc_law_machine, od_law_machine, .func (PySem.W.fnOf "_law_machine" "_law_machine" (defArgs s_law_machine) (defBody s_law_machine) (defScope s_law_machine) .none kV_law_machine dc_law_machine pm_law_machine an_law_machine cd_law_machine ct_law_machine), sl_law_machine⟩)
    (c_law_machine : PySem.W.codeIn K cd_law_machine "_law_machine" = true)
    (k_law_machine : PySem.W.keepIn K (.ref f_law_machine) = true)
    (a_NumberMap_init_ : PySem.W.findIn K (.ref c_NumberMap) "__init__" = some (some (.ref f_NumberMap_init_)))
    (i_NumberMap_init_ : PySem.W.isFn K (.ref f_NumberMap_init_) = true)
    (l_NumberMap_init_ : K.lookup f_NumberMap_init_ = some ⟨oc_NumberMap_init_, od_NumberMap_init_, .func (PySem.W.fnOf "__init__" "NumberMap.__init__" (defArgs s_NumberMap_init_) (defBody s_NumberMap_init_) (defScope s_NumberMap_init_) .none kV_NumberMap_init_ dc_NumberMap_init_ pm_NumberMap_init_ an_NumberMap_init_ cd_NumberMap_init_ ct_NumberMap_init_), sl_NumberMap_init_⟩)
    (c_NumberMap_init_ : PySem.W.codeIn K cd_NumberMap_init_ "NumberMap.__init__" = true)
    (k_NumberMap_init_ : PySem.W.keepIn K (.ref f_NumberMap_init_) = true)
    (a_check_machine : PySem.W.nsIn K mainGlobals "check_machine" = some (some (.ref f_check_machine)))
    (l_check_machine : K.lookup f_check_machine = some ⟨oc_check_machine, od_check_machine, .func (PySem.W.fnOf "check_machine" "check_machine" (defArgs s_check_machine) (defBody s_check_machine) (defScope s_check_machine) .none kV_check_machine dc_check_machine pm_check_machine an_check_machine cd_check_machine ct_check_machine), sl_check_machine⟩)
    (c_check_machine : PySem.W.codeIn K cd_check_machine "check_machine" = true)
    (k_check_machine : PySem.W.keepIn K (.ref f_check_machine) = true)
    (a_TextMap_init_ : PySem.W.findIn K (.ref c_TextMap) "__init__" = some (some (.ref f_TextMap_init_)))
    (i_TextMap_init_ : PySem.W.isFn K (.ref f_TextMap_init_) = true)
    (l_TextMap_init_ : K.lookup f_TextMap_init_ = some ⟨oc_TextMap_init_, od_TextMap_init_, .func (PySem.W.fnOf "__init__" "TextMap.__init__" (defArgs s_TextMap_init_) (defBody s_TextMap_init_) (defScope s_TextMap_init_) .none kV_TextMap_init_ dc_TextMap_init_ pm_TextMap_init_ an_TextMap_init_ cd_TextMap_init_ ct_TextMap_init_), sl_TextMap_init_⟩)
    (c_TextMap_init_ : PySem.W.codeIn K cd_TextMap_init_ "TextMap.__init__" = true)
    (k_TextMap_init_ : PySem.W.keepIn K (.ref f_TextMap_init_) = true)
    (a_CodeMap_init_ : PySem.W.findIn K (.ref c_CodeMap) "__init__" = some (some (.ref f_CodeMap_init_)))
    (i_CodeMap_init_ : PySem.W.isFn K (.ref f_CodeMap_init_) = true)
    (l_CodeMap_init_ : K.lookup f_CodeMap_init_ = some ⟨oc_CodeMap_init_, od_CodeMap_init_, .func (PySem.W.fnOf "__init__" "CodeMap.__init__" (defArgs s_CodeMap_init_) (defBody s_CodeMap_init_) (defScope s_CodeMap_init_) .none kV_CodeMap_init_ dc_CodeMap_init_ pm_CodeMap_init_ an_CodeMap_init_ cd_CodeMap_init_ ct_CodeMap_init_), sl_CodeMap_init_⟩)
    (c_CodeMap_init_ : PySem.W.codeIn K cd_CodeMap_init_ "CodeMap.__init__" = true)
    (k_CodeMap_init_ : PySem.W.keepIn K (.ref f_CodeMap_init_) = true)
    (a_law_build : PySem.W.nsIn K mainGlobals "_law_build" = some (some (.ref f_law_build)))
    (l_law_build : K.lookup f_law_build = some ⟨oc_law_build, od_law_build, .func (PySem.W.fnOf "_law_build" "_law_build" (defArgs s_law_build) (defBody s_law_build) (defScope s_law_build) .none kV_law_build dc_law_build pm_law_build an_law_build cd_law_build ct_law_build), sl_law_build⟩)
    (c_law_build : PySem.W.codeIn K cd_law_build "_law_build" = true)
    (k_law_build : PySem.W.keepIn K (.ref f_law_build) = true)
    (a_law_copied : PySem.W.nsIn K mainGlobals "_law_copied" = some (some (.ref f_law_copied)))
    (l_law_copied : K.lookup f_law_copied = some ⟨oc_law_copied, od_law_copied, .func (PySem.W.fnOf "_law_copied" "_law_copied" (defArgs s_law_copied) (defBody s_law_copied) (defScope s_law_copied) .none kV_law_copied dc_law_copied pm_law_copied an_law_copied cd_law_copied ct_law_copied), sl_law_copied⟩)
    (c_law_copied : PySem.W.codeIn K cd_law_copied "_law_copied" = true)
    (k_law_copied : PySem.W.keepIn K (.ref f_law_copied) = true)
    (a_law_outcome : PySem.W.nsIn K mainGlobals "_law_outcome" = some (some (.ref f_law_outcome)))
    (l_law_outcome : K.lookup f_law_outcome = some ⟨oc_law_outcome, od_law_outcome, .func (PySem.W.fnOf "_law_outcome" "_law_outcome" (defArgs s_law_outcome) (defBody s_law_outcome) (defScope s_law_outcome) .none kV_law_outcome dc_law_outcome pm_law_outcome an_law_outcome cd_law_outcome ct_law_outcome), sl_law_outcome⟩)
    (c_law_outcome : PySem.W.codeIn K cd_law_outcome "_law_outcome" = true)
    (k_law_outcome : PySem.W.keepIn K (.ref f_law_outcome) = true)
    (a_law_right : PySem.W.nsIn K mainGlobals "_law_right" = some (some (.ref f_law_right)))
    (l_law_right : K.lookup f_law_right = some ⟨oc_law_right, od_law_right, .func (PySem.W.fnOf "_law_right" "_law_right" (defArgs s_law_right) (defBody s_law_right) (defScope s_law_right) .none kV_law_right dc_law_right pm_law_right an_law_right cd_law_right ct_law_right), sl_law_right⟩)
    (c_law_right : PySem.W.codeIn K cd_law_right "_law_right" = true)
    (k_law_right : PySem.W.keepIn K (.ref f_law_right) = true)
    (a_law_spoilt_numbers : PySem.W.nsIn K mainGlobals "_law_spoilt_numbers" = some (some (.ref f_law_spoilt_numbers)))
    (l_law_spoilt_numbers : K.lookup f_law_spoilt_numbers = some ⟨oc_law_spoilt_numbers, od_law_spoilt_numbers, .func (PySem.W.fnOf "_law_spoilt_numbers" "_law_spoilt_numbers" (defArgs s_law_spoilt_numbers) (defBody s_law_spoilt_numbers) (defScope s_law_spoilt_numbers) .none kV_law_spoilt_numbers dc_law_spoilt_numbers pm_law_spoilt_numbers an_law_spoilt_numbers cd_law_spoilt_numbers ct_law_spoilt_numbers), sl_law_spoilt_numbers⟩)
    (c_law_spoilt_numbers : PySem.W.codeIn K cd_law_spoilt_numbers "_law_spoilt_numbers" = true)
    (k_law_spoilt_numbers : PySem.W.keepIn K (.ref f_law_spoilt_numbers) = true)
    (a_law_spoilt_texts : PySem.W.nsIn K mainGlobals "_law_spoilt_texts" = some (some (.ref f_law_spoilt_texts)))
    (l_law_spoilt_texts : K.lookup f_law_spoilt_texts = some ⟨oc_law_spoilt_texts, od_law_spoilt_texts, .func (PySem.W.fnOf "_law_spoilt_texts" "_law_spoilt_texts" (defArgs s_law_spoilt_texts) (defBody s_law_spoilt_texts) (defScope s_law_spoilt_texts) .none kV_law_spoilt_texts dc_law_spoilt_texts pm_law_spoilt_texts an_law_spoilt_texts cd_law_spoilt_texts ct_law_spoilt_texts), sl_law_spoilt_texts⟩)
    (c_law_spoilt_texts : PySem.W.codeIn K cd_law_spoilt_texts "_law_spoilt_texts" = true)
    (k_law_spoilt_texts : PySem.W.keepIn K (.ref f_law_spoilt_texts) = true)
    (a_law : PySem.W.nsIn K mainGlobals "law" = some (some (.ref f_law)))
    (l_law : K.lookup f_law = some ⟨oc_law, od_law, .func (PySem.W.fnOf "law" "law" (defArgs s_law) (defBody s_law) (defScope s_law) .none kV_law dc_law pm_law an_law cd_law ct_law), sl_law⟩)
    (c_law : PySem.W.codeIn K cd_law "law" = true)
    (k_law : PySem.W.keepIn K (.ref f_law) = true)
    (pg_CodeMap : PySem.W.plainGet K c_CodeMap Str.empty = true)
    (hd_CodeMap : PySem.W.hasDictIn K c_CodeMap = true)
    (po_CodeMap : PySem.W.plainOver K c_CodeMap = true)
    (sa_CodeMap : PySem.W.findIn K (.ref c_CodeMap) "__setattr__" = some (some (.builtin "object.__setattr__")))
    (mk_CodeMap : PySem.W.makesIn K c_CodeMap = true)
    (kc_CodeMap : PySem.W.keepIn K (.ref c_CodeMap) = true)
    (n_CodeMap_images : PySem.W.findIn K (.ref c_CodeMap) "images" = some none)
    (pg_NumberMap : PySem.W.plainGet K c_NumberMap Str.empty = true)
    (hd_NumberMap : PySem.W.hasDictIn K c_NumberMap = true)
    (po_NumberMap : PySem.W.plainOver K c_NumberMap = true)
    (sa_NumberMap : PySem.W.findIn K (.ref c_NumberMap) "__setattr__" = some (some (.builtin "object.__setattr__")))
    (mk_NumberMap : PySem.W.makesIn K c_NumberMap = true)
    (kc_NumberMap : PySem.W.keepIn K (.ref c_NumberMap) = true)
    (n_NumberMap_period : PySem.W.findIn K (.ref c_NumberMap) "period" = some none)
    (n_NumberMap_rows : PySem.W.findIn K (.ref c_NumberMap) "rows" = some none)
    (pg_TextMap : PySem.W.plainGet K c_TextMap Str.empty = true)
    (hd_TextMap : PySem.W.hasDictIn K c_TextMap = true)
    (po_TextMap : PySem.W.plainOver K c_TextMap = true)
    (sa_TextMap : PySem.W.findIn K (.ref c_TextMap) "__setattr__" = some (some (.builtin "object.__setattr__")))
    (mk_TextMap : PySem.W.makesIn K c_TextMap = true)
    (kc_TextMap : PySem.W.keepIn K (.ref c_TextMap) = true)
    (n_TextMap_ends : PySem.W.findIn K (.ref c_TextMap) "ends" = some none)
    (n_TextMap_letters : PySem.W.findIn K (.ref c_TextMap) "letters" = some none)
    (n_TextMap_rows : PySem.W.findIn K (.ref c_TextMap) "rows" = some none)
    (ex_BridgeError : PySem.W.subIn K (.ref c_BridgeError) (.type "BaseException") = some true)
    (ty_BridgeError : PySem.W.typeIn K (.ref c_BridgeError) = some (.type "type"))
    (yd_BridgeError : PySem.W.hasDictIn K c_BridgeError = true)
    (og_BridgeError : PySem.W.specialIn K (.ref c_BridgeError) "__getattribute__" = some (some (.builtin "type.__getattribute__")))
    (or_BridgeError : PySem.W.readsIn K c_BridgeError (.type "type") = true)
    (of_BridgeError : PySem.W.findCls K (.ref c_BridgeError) (.type "type") "__init__" = some (.val (.builtin "ValueError.__init__")))
    (ex_InvalidLanguage : PySem.W.subIn K (.ref c_InvalidLanguage) (.type "BaseException") = some true)
    (ty_InvalidLanguage : PySem.W.typeIn K (.ref c_InvalidLanguage) = some (.type "type"))
    (yd_InvalidLanguage : PySem.W.hasDictIn K c_InvalidLanguage = true)
    (ex_InvalidMap : PySem.W.subIn K (.ref c_InvalidMap) (.type "BaseException") = some true)
    (ty_InvalidMap : PySem.W.typeIn K (.ref c_InvalidMap) = some (.type "type"))
    (yd_InvalidMap : PySem.W.hasDictIn K c_InvalidMap = true)
    (xL_InvalidMap : K.lookup c_InvalidMap = some (excClassObj nm_InvalidMap q_InvalidMap c_InvalidMap N_InvalidMap bs_InvalidMap [.ref c_BridgeError, .type "ValueError", .type "Exception", .type "BaseException", .type "object"] true sn_InvalidMap sub_InvalidMap ab_InvalidMap col_InvalidMap dd_InvalidMap m0_InvalidMap m1_InvalidMap m2_InvalidMap m3_InvalidMap m5_InvalidMap "ValueError.__new__"))
    (sx_InvalidMap : PySem.W.findIn K (.ref c_InvalidMap) "__setattr__" = some (some (.builtin "object.__setattr__")))
    (kx_InvalidMap : PySem.W.keepIn K (.ref c_InvalidMap) = true)
    (tf_InvalidMap : PySem.W.typeIn K (.ref f_InvalidMap_init_) = some (.type "function"))
    (ya_InvalidMap : PySem.W.findIn K (.ref c_InvalidMap) "__getattribute__" = some (some (.builtin "BaseException.__getattribute__")))
    (yg_InvalidMap : PySem.W.findIn K (.ref c_InvalidMap) "__getattr__" = some none)
    (yk_InvalidMap : PySem.W.findIn K (.ref c_InvalidMap) "__class__" = some (some (.builtin "object.__class__")))
    (yo_InvalidMap : PySem.W.mroIn K c_InvalidMap (.type "object") = some true)
    (ex_InvalidProgram : PySem.W.subIn K (.ref c_InvalidProgram) (.type "BaseException") = some true)
    (ty_InvalidProgram : PySem.W.typeIn K (.ref c_InvalidProgram) = some (.type "type"))
    (yd_InvalidProgram : PySem.W.hasDictIn K c_InvalidProgram = true)
    (ex_InvalidRow : PySem.W.subIn K (.ref c_InvalidRow) (.type "BaseException") = some true)
    (ty_InvalidRow : PySem.W.typeIn K (.ref c_InvalidRow) = some (.type "type"))
    (yd_InvalidRow : PySem.W.hasDictIn K c_InvalidRow = true)
    (ex_InvalidTable : PySem.W.subIn K (.ref c_InvalidTable) (.type "BaseException") = some true)
    (ty_InvalidTable : PySem.W.typeIn K (.ref c_InvalidTable) = some (.type "type"))
    (yd_InvalidTable : PySem.W.hasDictIn K c_InvalidTable = true)
    (nx_InvalidMap_what : PySem.W.findIn K (.ref c_InvalidMap) "what" = some none)
    (sb_InvalidMap_InvalidMap : PySem.W.subIn K (.ref c_InvalidMap) (.ref c_InvalidMap) = some true)
    (kt_InvalidMap_BridgeError : PySem.W.kitOne K (.ref c_InvalidMap) (.ref c_BridgeError) = some true)
    (kt_InvalidMap_ValueError : PySem.W.kitOne K (.ref c_InvalidMap) (.type "ValueError") = some true)
    (kt_InvalidMap_InvalidRow : PySem.W.kitOne K (.ref c_InvalidMap) (.ref c_InvalidRow) = some false)
    (kt_InvalidMap_InvalidLanguage : PySem.W.kitOne K (.ref c_InvalidMap) (.ref c_InvalidLanguage) = some false)
    (kt_InvalidMap_InvalidTable : PySem.W.kitOne K (.ref c_InvalidMap) (.ref c_InvalidTable) = some false)
    (kt_InvalidMap_InvalidProgram : PySem.W.kitOne K (.ref c_InvalidMap) (.ref c_InvalidProgram) = some false)
    (is_get : PySem.W.specialIn K (.builtin "object.__class__") "__get__" = some (some (.builtin "getset_descriptor.__get__")))
    (is_tk : PySem.W.takesIn K (.builtin "object.__class__") = some true)
    (z_ValueError : PySem.W.nsIn K mainGlobals "ValueError" = some none)
    (z_abs : PySem.W.nsIn K mainGlobals "abs" = some none)
    (z_int : PySem.W.nsIn K mainGlobals "int" = some none)
    (z_isinstance : PySem.W.nsIn K mainGlobals "isinstance" = some none)
    (z_len : PySem.W.nsIn K mainGlobals "len" = some none)
    (z_list : PySem.W.nsIn K mainGlobals "list" = some none)
    (z_range : PySem.W.nsIn K mainGlobals "range" = some none)
    (z_str : PySem.W.nsIn K mainGlobals "str" = some none)
    : ∃ ad : Ad, Txt K mg ad ∧ fa = ad.a_law ∧ ∀ (s : Shared) (v : Value), BindsTo s ad.d_law ⟨[v], []⟩ [("script", v)] := by
  have e := hfa.symm.trans (PySem.W.mg_of X G a_law)
  cases e
  have F_law_take := fun_mk (st := s_law_take) l_law_take c_law_take k_law_take
  have b_law_take := F_law_take.binds (ps := ["deck", "many"]) fun _ _ _ _ _ _ us hl => match us, hl with | [_, _], _ => rfl
  have F_law_deck := fun_mk (st := s_law_deck) l_law_deck c_law_deck k_law_deck
  have b_law_deck := F_law_deck.binds (ps := ["script", "cells", "each"]) fun _ _ _ _ _ _ us hl => match us, hl with | [_, _, _], _ => rfl
  have F_InvalidMap_init_ := fun_mk (st := s_InvalidMap_init_) l_InvalidMap_init_ c_InvalidMap_init_ k_InvalidMap_init_
  have b_InvalidMap_init_ := F_InvalidMap_init_.binds (ps := ["self", "what"]) fun _ _ _ _ _ _ us hl => match us, hl with | [_, _], _ => rfl
  have F_law_whole := fun_mk (st := s_law_whole) l_law_whole c_law_whole k_law_whole
  have b_law_whole := F_law_whole.binds (ps := ["deck"]) fun _ _ _ _ _ _ us hl => match us, hl with | [_], _ => rfl
  have F_law_parts := fun_mk (st := s_law_parts) l_law_parts c_law_parts k_law_parts
  have b_law_parts := F_law_parts.binds (ps := ["deck", "most"]) fun _ _ _ _ _ _ us hl => match us, hl with | [_, _], _ => rfl
  have F_law_word := fun_mk (st := s_law_word) l_law_word c_law_word k_law_word
  have b_law_word := F_law_word.binds (ps := ["deck", "signs", "most"]) fun _ _ _ _ _ _ us hl => match us, hl with | [_, _, _], _ => rfl
  have F_law_machine := fun_mk (st := s_law_machine) l_law_machine c_law_machine k_law_machine
  have b_law_machine := F_law_machine.binds (ps := ["deck", "letters", "signs", "most"]) fun _ _ _ _ _ _ us hl => match us, hl with | [_, _, _, _], _ => rfl
  have F_NumberMap_init_ := fun_mk (st := s_NumberMap_init_) l_NumberMap_init_ c_NumberMap_init_ k_NumberMap_init_
  have b_NumberMap_init_ := F_NumberMap_init_.binds (ps := ["self", "period", "rows"]) fun _ _ _ _ _ _ us hl => match us, hl with | [_, _, _], _ => rfl
  have F_check_machine := fun_mk (st := s_check_machine) l_check_machine c_check_machine k_check_machine
  have b_check_machine := F_check_machine.binds (ps := ["letters", "rows", "ends"]) fun _ _ _ _ _ _ us hl => match us, hl with | [_, _, _], _ => rfl
  have F_TextMap_init_ := fun_mk (st := s_TextMap_init_) l_TextMap_init_ c_TextMap_init_ k_TextMap_init_
  have b_TextMap_init_ := F_TextMap_init_.binds (ps := ["self", "letters", "rows", "ends"]) fun _ _ _ _ _ _ us hl => match us, hl with | [_, _, _, _], _ => rfl
  have F_CodeMap_init_ := fun_mk (st := s_CodeMap_init_) l_CodeMap_init_ c_CodeMap_init_ k_CodeMap_init_
  have b_CodeMap_init_ := F_CodeMap_init_.binds (ps := ["self", "images"]) fun _ _ _ _ _ _ us hl => match us, hl with | [_, _], _ => rfl
  have F_law_build := fun_mk (st := s_law_build) l_law_build c_law_build k_law_build
  have b_law_build := F_law_build.binds (ps := ["kind", "parts"]) fun _ _ _ _ _ _ us hl => match us, hl with | [_, _], _ => rfl
  have F_law_copied := fun_mk (st := s_law_copied) l_law_copied c_law_copied k_law_copied
  have b_law_copied := F_law_copied.binds (ps := ["kind", "parts"]) fun _ _ _ _ _ _ us hl => match us, hl with | [_, _], _ => rfl
  have F_law_outcome := fun_mk (st := s_law_outcome) l_law_outcome c_law_outcome k_law_outcome
  have b_law_outcome := F_law_outcome.binds (ps := ["kind", "parts"]) fun _ _ _ _ _ _ us hl => match us, hl with | [_, _], _ => rfl
  have F_law_right := fun_mk (st := s_law_right) l_law_right c_law_right k_law_right
  have b_law_right := F_law_right.binds (ps := ["kind", "parts", "expected"]) fun _ _ _ _ _ _ us hl => match us, hl with | [_, _, _], _ => rfl
  have F_law_spoilt_numbers := fun_mk (st := s_law_spoilt_numbers) l_law_spoilt_numbers c_law_spoilt_numbers k_law_spoilt_numbers
  have b_law_spoilt_numbers := F_law_spoilt_numbers.binds (ps := ["deck", "parts"]) fun _ _ _ _ _ _ us hl => match us, hl with | [_, _], _ => rfl
  have F_law_spoilt_texts := fun_mk (st := s_law_spoilt_texts) l_law_spoilt_texts c_law_spoilt_texts k_law_spoilt_texts
  have b_law_spoilt_texts := F_law_spoilt_texts.binds (ps := ["deck", "parts"]) fun _ _ _ _ _ _ us hl => match us, hl with | [_, _], _ => rfl
  have F_law := fun_mk (st := s_law) l_law c_law k_law
  have b_law := F_law.binds (ps := ["script"]) fun _ _ _ _ _ _ us hl => match us, hl with | [_], _ => rfl
  refine ⟨⟨f_law_take, (PySem.W.fnOf "_law_take" "_law_take" (defArgs s_law_take) (defBody s_law_take) (defScope s_law_take) .none kV_law_take dc_law_take pm_law_take an_law_take cd_law_take ct_law_take), f_law_deck, (PySem.W.fnOf "_law_deck" "_law_deck" (defArgs s_law_deck) (defBody s_law_deck) (defScope s_law_deck) .none kV_law_deck dc_law_deck pm_law_deck an_law_deck cd_law_deck ct_law_deck), f_InvalidMap_init_, (PySem.W.fnOf "__init__" "InvalidMap.__init__" (defArgs s_InvalidMap_init_) (defBody s_InvalidMap_init_) (defScope s_InvalidMap_init_) .none kV_InvalidMap_init_ dc_InvalidMap_init_ pm_InvalidMap_init_ an_InvalidMap_init_ cd_InvalidMap_init_ ct_InvalidMap_init_), f_law_whole, (PySem.W.fnOf "_law_whole" "_law_whole" (defArgs s_law_whole) (defBody s_law_whole) (defScope s_law_whole) .none kV_law_whole dc_law_whole pm_law_whole an_law_whole cd_law_whole ct_law_whole), f_law_parts, (PySem.W.fnOf "_law_parts" "_law_parts" (defArgs s_law_parts) (defBody s_law_parts) (defScope s_law_parts) .none kV_law_parts dc_law_parts pm_law_parts an_law_parts cd_law_parts ct_law_parts), f_law_word, (PySem.W.fnOf "_law_word" "_law_word" (defArgs s_law_word) (defBody s_law_word) (defScope s_law_word) .none kV_law_word dc_law_word pm_law_word an_law_word cd_law_word ct_law_word), f_law_machine, (PySem.W.fnOf "_law_machine" "_law_machine" (defArgs s_law_machine) (defBody s_law_machine) (defScope s_law_machine) .none kV_law_machine dc_law_machine pm_law_machine an_law_machine cd_law_machine ct_law_machine), f_NumberMap_init_, (PySem.W.fnOf "__init__" "NumberMap.__init__" (defArgs s_NumberMap_init_) (defBody s_NumberMap_init_) (defScope s_NumberMap_init_) .none kV_NumberMap_init_ dc_NumberMap_init_ pm_NumberMap_init_ an_NumberMap_init_ cd_NumberMap_init_ ct_NumberMap_init_), f_check_machine, (PySem.W.fnOf "check_machine" "check_machine" (defArgs s_check_machine) (defBody s_check_machine) (defScope s_check_machine) .none kV_check_machine dc_check_machine pm_check_machine an_check_machine cd_check_machine ct_check_machine), f_TextMap_init_, (PySem.W.fnOf "__init__" "TextMap.__init__" (defArgs s_TextMap_init_) (defBody s_TextMap_init_) (defScope s_TextMap_init_) .none kV_TextMap_init_ dc_TextMap_init_ pm_TextMap_init_ an_TextMap_init_ cd_TextMap_init_ ct_TextMap_init_), f_CodeMap_init_, (PySem.W.fnOf "__init__" "CodeMap.__init__" (defArgs s_CodeMap_init_) (defBody s_CodeMap_init_) (defScope s_CodeMap_init_) .none kV_CodeMap_init_ dc_CodeMap_init_ pm_CodeMap_init_ an_CodeMap_init_ cd_CodeMap_init_ ct_CodeMap_init_), f_law_build, (PySem.W.fnOf "_law_build" "_law_build" (defArgs s_law_build) (defBody s_law_build) (defScope s_law_build) .none kV_law_build dc_law_build pm_law_build an_law_build cd_law_build ct_law_build), f_law_copied, (PySem.W.fnOf "_law_copied" "_law_copied" (defArgs s_law_copied) (defBody s_law_copied) (defScope s_law_copied) .none kV_law_copied dc_law_copied pm_law_copied an_law_copied cd_law_copied ct_law_copied), f_law_outcome, (PySem.W.fnOf "_law_outcome" "_law_outcome" (defArgs s_law_outcome) (defBody s_law_outcome) (defScope s_law_outcome) .none kV_law_outcome dc_law_outcome pm_law_outcome an_law_outcome cd_law_outcome ct_law_outcome), f_law_right, (PySem.W.fnOf "_law_right" "_law_right" (defArgs s_law_right) (defBody s_law_right) (defScope s_law_right) .none kV_law_right dc_law_right pm_law_right an_law_right cd_law_right ct_law_right), f_law_spoilt_numbers, (PySem.W.fnOf "_law_spoilt_numbers" "_law_spoilt_numbers" (defArgs s_law_spoilt_numbers) (defBody s_law_spoilt_numbers) (defScope s_law_spoilt_numbers) .none kV_law_spoilt_numbers dc_law_spoilt_numbers pm_law_spoilt_numbers an_law_spoilt_numbers cd_law_spoilt_numbers ct_law_spoilt_numbers), f_law_spoilt_texts, (PySem.W.fnOf "_law_spoilt_texts" "_law_spoilt_texts" (defArgs s_law_spoilt_texts) (defBody s_law_spoilt_texts) (defScope s_law_spoilt_texts) .none kV_law_spoilt_texts dc_law_spoilt_texts pm_law_spoilt_texts an_law_spoilt_texts cd_law_spoilt_texts ct_law_spoilt_texts), fa, (PySem.W.fnOf "law" "law" (defArgs s_law) (defBody s_law) (defScope s_law) .none kV_law dc_law pm_law an_law cd_law ct_law), c_BridgeError, c_CodeMap, c_InvalidLanguage, c_InvalidMap, c_InvalidProgram, c_InvalidRow, c_InvalidTable, c_NumberMap, c_TextMap⟩, ?_, rfl, fun s v => .of_eq rfl⟩
  exact {
    F_law_take := F_law_take
    b_law_take := b_law_take
    m_law_take := PySem.W.mg_of X G a_law_take
    F_law_deck := F_law_deck
    b_law_deck := b_law_deck
    m_law_deck := PySem.W.mg_of X G a_law_deck
    F_InvalidMap_init_ := F_InvalidMap_init_
    b_InvalidMap_init_ := b_InvalidMap_init_
    F_law_whole := F_law_whole
    b_law_whole := b_law_whole
    m_law_whole := PySem.W.mg_of X G a_law_whole
    F_law_parts := F_law_parts
    b_law_parts := b_law_parts
    m_law_parts := PySem.W.mg_of X G a_law_parts
    F_law_word := F_law_word
    b_law_word := b_law_word
    m_law_word := PySem.W.mg_of X G a_law_word
    F_law_machine := F_law_machine
    b_law_machine := b_law_machine
    m_law_machine := PySem.W.mg_of X G a_law_machine
    F_NumberMap_init_ := F_NumberMap_init_
    b_NumberMap_init_ := b_NumberMap_init_
    F_check_machine := F_check_machine
    b_check_machine := b_check_machine
    m_check_machine := PySem.W.mg_of X G a_check_machine
    F_TextMap_init_ := F_TextMap_init_
    b_TextMap_init_ := b_TextMap_init_
    F_CodeMap_init_ := F_CodeMap_init_
    b_CodeMap_init_ := b_CodeMap_init_
    F_law_build := F_law_build
    b_law_build := b_law_build
    m_law_build := PySem.W.mg_of X G a_law_build
    F_law_copied := F_law_copied
    b_law_copied := b_law_copied
    m_law_copied := PySem.W.mg_of X G a_law_copied
    F_law_outcome := F_law_outcome
    b_law_outcome := b_law_outcome
    m_law_outcome := PySem.W.mg_of X G a_law_outcome
    F_law_right := F_law_right
    b_law_right := b_law_right
    m_law_right := PySem.W.mg_of X G a_law_right
    F_law_spoilt_numbers := F_law_spoilt_numbers
    b_law_spoilt_numbers := b_law_spoilt_numbers
    m_law_spoilt_numbers := PySem.W.mg_of X G a_law_spoilt_numbers
    F_law_spoilt_texts := F_law_spoilt_texts
    b_law_spoilt_texts := b_law_spoilt_texts
    m_law_spoilt_texts := PySem.W.mg_of X G a_law_spoilt_texts
    F_law := F_law
    b_law := b_law
    m_law := PySem.W.mg_of X G a_law
    cl_CodeMap := ⟨pg_CodeMap, hd_CodeMap, po_CodeMap, sa_CodeMap⟩
    mg_CodeMap := PySem.W.mg_of X G A_CodeMap
    mk_CodeMap := ⟨mk_CodeMap, a_CodeMap_init_, i_CodeMap_init_, kc_CodeMap⟩
    n_CodeMap_images := n_CodeMap_images
    cl_NumberMap := ⟨pg_NumberMap, hd_NumberMap, po_NumberMap, sa_NumberMap⟩
    mg_NumberMap := PySem.W.mg_of X G A_NumberMap
    mk_NumberMap := ⟨mk_NumberMap, a_NumberMap_init_, i_NumberMap_init_, kc_NumberMap⟩
    n_NumberMap_period := n_NumberMap_period
    n_NumberMap_rows := n_NumberMap_rows
    cl_TextMap := ⟨pg_TextMap, hd_TextMap, po_TextMap, sa_TextMap⟩
    mg_TextMap := PySem.W.mg_of X G A_TextMap
    mk_TextMap := ⟨mk_TextMap, a_TextMap_init_, i_TextMap_init_, kc_TextMap⟩
    n_TextMap_ends := n_TextMap_ends
    n_TextMap_letters := n_TextMap_letters
    n_TextMap_rows := n_TextMap_rows
    mg_BridgeError := PySem.W.mg_of X G A_BridgeError
    ov_BridgeError := ⟨og_BridgeError, or_BridgeError, of_BridgeError⟩
    mg_InvalidLanguage := PySem.W.mg_of X G A_InvalidLanguage
    mg_InvalidMap := PySem.W.mg_of X G A_InvalidMap
    ox_InvalidMap := ⟨⟨_, _, _, _, _, _, _, _, _, _, _, _, _, _, _, xL_InvalidMap, by rfl⟩, sx_InvalidMap, ex_InvalidMap, ty_InvalidMap, kx_InvalidMap⟩
    ix_InvalidMap := a_InvalidMap_init_
    tx_InvalidMap := tf_InvalidMap
    xd_InvalidMap := ⟨(by obtain ⟨cd, hc, _⟩ := PySem.W.any_some yd_InvalidMap; rw [hc]; rfl), ya_InvalidMap, yg_InvalidMap, ex_InvalidMap, yd_InvalidMap, yk_InvalidMap, is_get, is_tk, yo_InvalidMap⟩
    mg_InvalidProgram := PySem.W.mg_of X G A_InvalidProgram
    mg_InvalidRow := PySem.W.mg_of X G A_InvalidRow
    mg_InvalidTable := PySem.W.mg_of X G A_InvalidTable
    nx_InvalidMap_what := nx_InvalidMap_what
    em_InvalidMap_InvalidMap := PySem.W.exm_ref ex_InvalidMap yd_InvalidMap ty_InvalidMap sb_InvalidMap_InvalidMap
    kt_InvalidMap_BridgeError := kt_InvalidMap_BridgeError
    kt_InvalidMap_ValueError := kt_InvalidMap_ValueError
    kt_InvalidMap_InvalidRow := kt_InvalidMap_InvalidRow
    kt_InvalidMap_InvalidLanguage := kt_InvalidMap_InvalidLanguage
    kt_InvalidMap_InvalidTable := kt_InvalidMap_InvalidTable
    kt_InvalidMap_InvalidProgram := kt_InvalidMap_InvalidProgram
    z_ValueError := PySem.W.mg_none_of X G z_ValueError
    z_abs := PySem.W.mg_none_of X G z_abs
    z_int := PySem.W.mg_none_of X G z_int
    z_isinstance := PySem.W.mg_none_of X G z_isinstance
    z_len := PySem.W.mg_none_of X G z_len
    z_list := PySem.W.mg_none_of X G z_list
    z_range := PySem.W.mg_none_of X G z_range
    z_str := PySem.W.mg_none_of X G z_str
  }
theorem walk {l : PySem.W.OpenLaw} {q : Program} {loose : List Str} {XP : (Str → Option Value) → Heap → Prop} {YP : World → Heap → Prop} {d : DefRec} {K : Params → PySem.W.Frag} (hn : l.most = some 63) (hdf : d.params.defaults = [])
    (hY : ∀ (w : World) (h : Heap), YP w h → (K w.params).In h)
    (F : ∀ (w : World) (mg : Str → Option Value) (fa : Addr) (h : Heap), (K w.params).In h → h.Ns mainGlobals mg → mg d.name = some (.ref fa) →
      ∃ ad : Ad, Txt (K w.params) mg ad ∧ fa = ad.a_law ∧ ∀ (s : Shared) (v : Value), BindsTo s ad.d_law ⟨[v], []⟩ [("script", v)]) :
    PySem.W.WalkO q loose XP YP l.row.toRowW d [] (fun f vs => PySem.call f vs) := by
  refine L2.walk_of (n := 63) (k := 9) (x := "script") (CX := fun _ => CX0) (sp := fun w => spLaw (K w.params)) hn (by decide) hdf ⟨rfl, by decide, by decide⟩ hY (fun w mg fa h KX G hmg => ?_) (fun _ _ a ns hl _ hS => ⟨a, ns, rfl, hS, hl, fun _ => rfl⟩) fun _ _ _ _ _ z => z
  obtain ⟨ad, T, rfl, hb⟩ := F w mg fa h KX G hmg
  exact ⟨ad.d_law, hb, fun base _ _ => ok_law T⟩
end Toy
open PySem PySem.W PyProof.Rows
set_option maxRecDepth 100000 in
set_option maxHeartbeats 0 in
theorem PySem.Challenge.cw_surebridge_k13_maps_refused_holds : PySem.Challenge.rw_surebridge_k13_maps_refused.Holds := by
  w_on; o_law; k_head; (case hw => w_witness2)
  k_fill
  refine Toy.walk (l := PySem.Challenge.rw_surebridge_k13_maps_refused) rfl rfl (fun w h Y => PySem.W.kIn_of Y) ?F
  case F =>
    intro w mg fa h KX G hmg
    refine' Toy.all_mk KX G hmg ?A_BridgeError ?A_CodeMap ?A_InvalidLanguage ?A_InvalidMap ?A_InvalidProgram ?A_InvalidRow ?A_InvalidTable ?A_NumberMap ?A_TextMap ?a_law_take ?l_law_take ?c_law_take ?k_law_take ?a_law_deck ?l_law_deck ?c_law_deck ?k_law_deck ?a_InvalidMap_init_ ?i_InvalidMap_init_ ?l_InvalidMap_init_ ?c_InvalidMap_init_ ?k_InvalidMap_init_ ?a_law_whole ?l_law_whole ?c_law_whole ?k_law_whole ?a_law_parts ?l_law_parts ?c_law_parts ?k_law_parts ?a_law_word ?l_law_word ?c_law_word ?k_law_word ?a_law_machine ?l_law_machine ?c_law_machine ?k_law_machine ?a_NumberMap_init_ ?i_NumberMap_init_ ?l_NumberMap_init_ ?c_NumberMap_init_ ?k_NumberMap_init_ ?a_check_machine ?l_check_machine ?c_check_machine ?k_check_machine ?a_TextMap_init_ ?i_TextMap_init_ ?l_TextMap_init_ ?c_TextMap_init_ ?k_TextMap_init_ ?a_CodeMap_init_ ?i_CodeMap_init_ ?l_CodeMap_init_ ?c_CodeMap_init_ ?k_CodeMap_init_ ?a_law_build ?l_law_build ?c_law_build ?k_law_build ?a_law_copied ?l_law_copied ?c_law_copied ?k_law_copied ?a_law_outcome ?l_law_outcome ?c_law_outcome ?k_law_outcome ?a_law_right ?l_law_right ?c_law_right ?k_law_right ?a_law_spoilt_numbers ?l_law_spoilt_numbers ?c_law_spoilt_numbers ?k_law_spoilt_numbers ?a_law_spoilt_texts ?l_law_spoilt_texts ?c_law_spoilt_texts ?k_law_spoilt_texts ?a_law ?l_law ?c_law ?k_law ?pg_CodeMap ?hd_CodeMap ?po_CodeMap ?sa_CodeMap ?mk_CodeMap ?kc_CodeMap ?n_CodeMap_images ?pg_NumberMap ?hd_NumberMap ?po_NumberMap ?sa_NumberMap ?mk_NumberMap ?kc_NumberMap ?n_NumberMap_period ?n_NumberMap_rows ?pg_TextMap ?hd_TextMap ?po_TextMap ?sa_TextMap ?mk_TextMap ?kc_TextMap ?n_TextMap_ends ?n_TextMap_letters ?n_TextMap_rows ?ex_BridgeError ?ty_BridgeError ?yd_BridgeError ?og_BridgeError ?or_BridgeError ?of_BridgeError ?ex_InvalidLanguage ?ty_InvalidLanguage ?yd_InvalidLanguage ?ex_InvalidMap ?ty_InvalidMap ?yd_InvalidMap ?xL_InvalidMap ?sx_InvalidMap ?kx_InvalidMap ?tf_InvalidMap ?ya_InvalidMap ?yg_InvalidMap ?yk_InvalidMap ?yo_InvalidMap ?ex_InvalidProgram ?ty_InvalidProgram ?yd_InvalidProgram ?ex_InvalidRow ?ty_InvalidRow ?yd_InvalidRow ?ex_InvalidTable ?ty_InvalidTable ?yd_InvalidTable ?nx_InvalidMap_what ?sb_InvalidMap_InvalidMap ?kt_InvalidMap_BridgeError ?kt_InvalidMap_ValueError ?kt_InvalidMap_InvalidRow ?kt_InvalidMap_InvalidLanguage ?kt_InvalidMap_InvalidTable ?kt_InvalidMap_InvalidProgram ?is_get ?is_tk ?z_ValueError ?z_abs ?z_int ?z_isinstance ?z_len ?z_list ?z_range ?z_str
    (case A_BridgeError => k_is)
    (case A_CodeMap => k_is)
    (case A_InvalidLanguage => k_is)
    (case A_InvalidMap => k_is)
    (case A_InvalidProgram => k_is)
    (case A_InvalidRow => k_is)
    (case A_InvalidTable => k_is)
    (case A_NumberMap => k_is)
    (case A_TextMap => k_is)
    (case a_law_take => k_is)
    (case l_law_take => k_is)
    (case c_law_take => k_is)
    (case k_law_take => k_is)
    (case a_law_deck => k_is)
    (case l_law_deck => k_is)
    (case c_law_deck => k_is)
    (case k_law_deck => k_is)
    (case a_InvalidMap_init_ => k_is)
    (case i_InvalidMap_init_ => k_is)
    (case l_InvalidMap_init_ => k_is)
    (case c_InvalidMap_init_ => k_is)
    (case k_InvalidMap_init_ => k_is)
    (case a_law_whole => k_is)
    (case l_law_whole => k_is)
    (case c_law_whole => k_is)
    (case k_law_whole => k_is)
    (case a_law_parts => k_is)
    (case l_law_parts => k_is)
    (case c_law_parts => k_is)
    (case k_law_parts => k_is)
    (case a_law_word => k_is)
    (case l_law_word => k_is)
    (case c_law_word => k_is)
    (case k_law_word => k_is)
    (case a_law_machine => k_is)
    (case l_law_machine => k_is)
    (case c_law_machine => k_is)
    (case k_law_machine => k_is)
    (case a_NumberMap_init_ => k_is)
    (case i_NumberMap_init_ => k_is)
    (case l_NumberMap_init_ => k_is)
    (case c_NumberMap_init_ => k_is)
    (case k_NumberMap_init_ => k_is)
    (case a_check_machine => k_is)
    (case l_check_machine => k_is)
    (case c_check_machine => k_is)
    (case k_check_machine => k_is)
    (case a_TextMap_init_ => k_is)
    (case i_TextMap_init_ => k_is)
    (case l_TextMap_init_ => k_is)
    (case c_TextMap_init_ => k_is)
    (case k_TextMap_init_ => k_is)
    (case a_CodeMap_init_ => k_is)
    (case i_CodeMap_init_ => k_is)
    (case l_CodeMap_init_ => k_is)
    (case c_CodeMap_init_ => k_is)
    (case k_CodeMap_init_ => k_is)
    (case a_law_build => k_is)
    (case l_law_build => k_is)
    (case c_law_build => k_is)
    (case k_law_build => k_is)
    (case a_law_copied => k_is)
    (case l_law_copied => k_is)
    (case c_law_copied => k_is)
    (case k_law_copied => k_is)
    (case a_law_outcome => k_is)
    (case l_law_outcome => k_is)
    (case c_law_outcome => k_is)
    (case k_law_outcome => k_is)
    (case a_law_right => k_is)
    (case l_law_right => k_is)
    (case c_law_right => k_is)
    (case k_law_right => k_is)
    (case a_law_spoilt_numbers => k_is)
    (case l_law_spoilt_numbers => k_is)
    (case c_law_spoilt_numbers => k_is)
    (case k_law_spoilt_numbers => k_is)
    (case a_law_spoilt_texts => k_is)
    (case l_law_spoilt_texts => k_is)
    (case c_law_spoilt_texts => k_is)
    (case k_law_spoilt_texts => k_is)
    (case a_law => k_is)
    (case l_law => k_is)
    (case c_law => k_is)
    (case k_law => k_is)
    (case pg_CodeMap => k_is)
    (case hd_CodeMap => k_is)
    (case po_CodeMap => k_is)
    (case sa_CodeMap => k_is)
    (case mk_CodeMap => k_is)
    (case kc_CodeMap => k_is)
    (case n_CodeMap_images => k_is)
    (case pg_NumberMap => k_is)
    (case hd_NumberMap => k_is)
    (case po_NumberMap => k_is)
    (case sa_NumberMap => k_is)
    (case mk_NumberMap => k_is)
    (case kc_NumberMap => k_is)
    (case n_NumberMap_period => k_is)
    (case n_NumberMap_rows => k_is)
    (case pg_TextMap => k_is)
    (case hd_TextMap => k_is)
    (case po_TextMap => k_is)
    (case sa_TextMap => k_is)
    (case mk_TextMap => k_is)
    (case kc_TextMap => k_is)
    (case n_TextMap_ends => k_is)
    (case n_TextMap_letters => k_is)
    (case n_TextMap_rows => k_is)
    (case ex_BridgeError => k_is)
    (case ty_BridgeError => k_is)
    (case yd_BridgeError => k_is)
    (case og_BridgeError => k_is)
    (case or_BridgeError => k_is)
    (case of_BridgeError => k_is)
    (case ex_InvalidLanguage => k_is)
    (case ty_InvalidLanguage => k_is)
    (case yd_InvalidLanguage => k_is)
    (case ex_InvalidMap => k_is)
    (case ty_InvalidMap => k_is)
    (case yd_InvalidMap => k_is)
    (case xL_InvalidMap => k_is)
    (case sx_InvalidMap => k_is)
    (case kx_InvalidMap => k_is)
    (case tf_InvalidMap => k_is)
    (case ya_InvalidMap => k_is)
    (case yg_InvalidMap => k_is)
    (case yk_InvalidMap => k_is)
    (case yo_InvalidMap => k_is)
    (case ex_InvalidProgram => k_is)
    (case ty_InvalidProgram => k_is)
    (case yd_InvalidProgram => k_is)
    (case ex_InvalidRow => k_is)
    (case ty_InvalidRow => k_is)
    (case yd_InvalidRow => k_is)
    (case ex_InvalidTable => k_is)
    (case ty_InvalidTable => k_is)
    (case yd_InvalidTable => k_is)
    (case nx_InvalidMap_what => k_is)
    (case sb_InvalidMap_InvalidMap => first | rfl | k_is)
    (case kt_InvalidMap_BridgeError => kit_is)
    (case kt_InvalidMap_ValueError => kit_is)
    (case kt_InvalidMap_InvalidRow => kit_is)
    (case kt_InvalidMap_InvalidLanguage => kit_is)
    (case kt_InvalidMap_InvalidTable => kit_is)
    (case kt_InvalidMap_InvalidProgram => kit_is)
    (case is_get => k_is)
    (case is_tk => k_is)
    (case z_ValueError => k_is)
    (case z_abs => k_is)
    (case z_int => k_is)
    (case z_isinstance => k_is)
    (case z_len => k_is)
    (case z_list => k_is)
    (case z_range => k_is)
    (case z_str => k_is)
#print axioms PySem.Challenge.cw_surebridge_k13_maps_refused_holds

