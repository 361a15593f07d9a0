import PyProof.Rows.All
import Wide.All
import OpenK.AllK
import Wide.FinOn
import KE.KStateDown
import HandS.Base
import HandS.Call
import HandS.List
import HandS.Comp
import HandS.Ends
import HandS.Dict
import HandS.Iter
import HandS.Text
import HandS.Words
import HandS.WordsList
import HandS.WordsDict
import HandS.WordsExc
import HandS.Exc
import HandS.ExcOwn
import HandS.Defaults
import HandS.Zip
import HandS.Flow
import HandS.Style
import HandS.More
import HandS.Head0
import HandS.Head1
import HandS.Head2
import HandS.Walk
import HandS.HeadEnd
import HandS.HeadHook1
import HandS.HeadHook2
import PySem.Challenge.RW_lentlines_k37_whole_works_far_apart
set_option Elab.async false
set_option linter.all false
set_option maxRecDepth 100000
set_option maxHeartbeats 4000000

namespace Ll
open PySem
def topS (i : Nat) : Stmt := PySem.Challenge.pw_lentlines_k37_whole_works_far_apart.main.body.getD i (.Pass ⟨0, 0, 0, 0⟩)
end Ll

namespace Ll
open PySem PySem.Spec PyProof.Rows L2
/-! ### heaps: what stays but for F -/
/-- all but F stays as it was -/
def But (F : Addr → Prop) (H H' : Hp) : Prop := ∀ b o, H b = some o → ¬ F b → H' b = some o
theorem But.refl {F : Addr → Prop} (H : Hp) : But F H H := fun _ _ h _ => h
theorem But.trans {F : Addr → Prop} {H H1 H2 : Hp} (a : But F H H1) (b : But F H1 H2) : But F H H2 := fun c o h n => b c o (a c o h n) n
theorem But.mono {F G : Addr → Prop} {H H' : Hp} (a : But F H H') (h : ∀ b, F b → G b) : But G H H' := fun c o e n => a c o e fun z => n (h c z)
theorem Same.new {H : Hp} {p : Addr} {o : HO} (h : H p = none) : Same H (upd H p o) := fun a u e => by
  rw [upd_ne (ne_of_none e h)]
  exact e
/-- what was free at the beginning may change -/
theorem Same.mut {H H' : Hp} {p : Addr} {o : HO} (e : Same H H') (h : H p = none) : Same H (upd H' p o) := fun a u ha => by
  rw [upd_ne (ne_of_none ha h)]
  exact e a u ha
theorem Same.by {H H1 H2 : Hp} {F : Addr → Prop} (e : Same H H1) (h : But F H1 H2) (n : ∀ b, F b → H b = none) : Same H H2 := fun a u ha =>
  h a u (e a u ha) fun z => by
    rw [n a z] at ha
    cases ha
theorem but1 {H : Hp} {d : Addr} {o : HO} : But (fun b => b = d) H (upd H d o) := fun b u e n => by
  rw [upd_ne n]
  exact e
theorem But.same {H H' : Hp} {F : Addr → Prop} (h : Same H H') : But F H H' := fun b o e _ => h b o e
/-- what never changes is kept -/
def Kp (H H' : Hp) : Prop := ∀ b o, H b = some o → ¬ Mut (some o) → H' b = some o
/-- all but F stays, and what never changes -/
structure Fr (F : Addr → Prop) (H H' : Hp) : Prop where
  but : But F H H'
  kp : Kp H H'
theorem Fr.refl {F : Addr → Prop} (H : Hp) : Fr F H H := ⟨But.refl H, fun _ _ h _ => h⟩
theorem Fr.trans {F : Addr → Prop} {H H1 H2 : Hp} (a : Fr F H H1) (b : Fr F H1 H2) : Fr F H H2 := ⟨a.but.trans b.but, fun c o h n => b.kp c o (a.kp c o h n) n⟩
theorem Fr.mono {F G : Addr → Prop} {H H' : Hp} (a : Fr F H H') (h : ∀ b, F b → G b) : Fr G H H' := ⟨a.but.mono h, a.kp⟩
theorem Fr.same {F : Addr → Prop} {H H' : Hp} (h : Same H H') : Fr F H H' := ⟨But.same h, fun b o e _ => h b o e⟩
theorem Fr.new {F : Addr → Prop} {H : Hp} {p : Addr} {o : HO} (h : H p = none) : Fr F H (upd H p o) := Fr.same (Same.new h)
theorem Fr.at {F : Addr → Prop} {H : Hp} {d : Addr} {o : HO} (m : Mut (H d)) (f : F d) : Fr F H (upd H d o) := ⟨fun b u e n => by
  rw [upd_ne fun z => n (by rw [z]; exact f)]
  exact e, fun b u e n => by
  rw [upd_ne fun z => n (by rw [z] at e; rw [← e]; exact m)]
  exact e⟩
theorem Fr.at1 {H : Hp} {d : Addr} {o : HO} (m : Mut (H d)) : Fr (fun b => b = d) H (upd H d o) := Fr.at m rfl
/-- what was free at the beginning may change -/
theorem Fr.late {F G : Addr → Prop} {H H1 H2 : Hp} (a : Fr F H H1) (b : Fr G H1 H2) (h : ∀ c, G c → F c ∨ H c = none) : Fr F H H2 := by
  refine ⟨fun c o e n => b.but c o (a.but c o e n) fun g => ?_, fun c o e n => b.kp c o (a.kp c o e n) n⟩
  rcases h c g with z | z
  · exact n z
  · rw [z] at e
    cases e
theorem Fr.toSame {F : Addr → Prop} {H H1 : Hp} (a : Fr F H H1) (h : ∀ b, F b → H b = none) : Same H H1 := fun c o e => a.but c o e fun f => by
  rw [h c f] at e
  cases e
theorem mut_lst {H : Hp} {d : Addr} {xs : List V} (h : H d = some (.lst xs)) : Mut (H d) := by
  rw [h]
  trivial
theorem mut_ins {H : Hp} {d C dx : Addr} {fs : List (Str × V)} (h : H d = some (.ins C dx fs)) : Mut (H d) := by
  rw [h]
  trivial
theorem mut_dK {H : Hp} {d : Addr} {xs : List (Key × V)} (h : H d = some (.dK xs)) : Mut (H d) := by
  rw [h]
  trivial
/-- a list that never changes -/
def FixL (K : PySem.W.Frag) (H : Hp) (a : Addr) (xs : List V) : Prop := (∃ o, H a = some (.frz o (.lst xs))) ∨
  ∃ (o : Obj) (its : Array Value) (n : Nat), K.lookup a = some o ∧ o.cls = .type "list" ∧ o.dict = none ∧ o.data = .seq its n ∧ its.size ≤ sizeLine ∧ Vals xs its.toList
theorem FixL.sq {K : PySem.W.Frag} {H : Hp} {a : Addr} {xs : List V} (h : FixL K H a xs) : SqL K H a xs := by
  rcases h with h | h
  · exact .inl (.inr h)
  · exact .inr h
theorem FixL.kp {K : PySem.W.Frag} {H H' : Hp} {a : Addr} {xs : List V} (h : FixL K H a xs) (k : Kp H H') : FixL K H' a xs := by
  rcases h with ⟨o, h⟩ | h
  · exact .inl ⟨o, k _ _ h fun z => z⟩
  · exact .inr h
theorem FixL.of {K : PySem.W.Frag} {H : Hp} {a : Addr} {xs : List V} (hO : Only H) (h : SqL K H a xs) : FixL K H a xs := by
  rcases h with (h | ⟨o, h⟩) | h
  · rcases hO a with z | ⟨o, ys, z⟩
    · rw [h] at z
      cases z
    · rw [h] at z
      cases z
  · exact .inl ⟨o, h⟩
  · exact .inr h
/-! ### data that never changes: scalars, tuples of such -/
mutual
def Imm : PyData → Bool
  | .none => true
  | .bool _ => true
  | .int _ => true
  | .str _ => true
  | .tuple xs => ImmAll xs
  | .list _ => false
  | .dict _ => false
def ImmAll : List PyData → Bool
  | [] => true
  | d :: ds => Imm d && ImmAll ds
end
theorem sqT_kp {K : PySem.W.Frag} {H H' : Hp} {a : Addr} {xs : List V} (h : SqT K H a xs) (k : Kp H H') : SqT K H' a xs := by
  rcases h with (h | ⟨o, h⟩) | h
  · exact .inl (.inl (k _ _ h fun z => z))
  · exact .inl (.inr ⟨o, k _ _ h fun z => z⟩)
  · exact .inr h
theorem sqL_but {K : PySem.W.Frag} {F : Addr → Prop} {H H' : Hp} {a : Addr} {xs : List V} (h : SqL K H a xs) (k : But F H H') (n : ¬ F a) : SqL K H' a xs := by
  rcases h with (h | ⟨o, h⟩) | h
  · exact .inl (.inl (k _ _ h n))
  · exact .inl (.inr ⟨o, k _ _ h n⟩)
  · exact .inr h
mutual
theorem dp_kp {K : PySem.W.Frag} {H H' : Hp} (k : Kp H H') : ∀ (d : PyData) (v : V), Imm d = true → Dp K H v d → Dp K H' v d
  | .none, _, _, h => by cases h; exact .non
  | .bool _, _, _, h => by cases h; exact .bl _
  | .int _, _, _, h => by cases h; exact .int _
  | .str _, _, _, h => by cases h; exact .str _
  | .tuple ds, _, i, h => by
    cases h with
    | tup hs ha => exact .tup (sqT_kp hs k) (dp_kpAll k ds _ i ha)
  | .list _, _, i, _ => by cases i
  | .dict _, _, i, _ => by cases i
theorem dp_kpAll {K : PySem.W.Frag} {H H' : Hp} (k : Kp H H') : ∀ (ds : List PyData) (vs : List V), ImmAll ds = true → DpAll K H vs ds → DpAll K H' vs ds
  | [], _, _, h => by cases h; exact .nil
  | d :: ds, _, i, h => by
    have i' : (Imm d && ImmAll ds) = true := i
    have i2 := Bool.and_eq_true_iff.mp i'
    cases h with
    | cons h1 h2 => exact .cons (dp_kp k d _ i2.1 h1) (dp_kpAll k ds _ i2.2 h2)
end
mutual
theorem dp_same {K : PySem.W.Frag} {H H' : Hp} (k : Same H H') : ∀ (d : PyData) (v : V), Dp K H v d → Dp K H' v d
  | .none, _, h => by cases h; exact .non
  | .bool _, _, h => by cases h; exact .bl _
  | .int _, _, h => by cases h; exact .int _
  | .str _, _, h => by cases h; exact .str _
  | .tuple ds, _, h => by
    cases h with
    | tup hs ha => exact .tup (sqT_kp hs fun b o e _ => k b o e) (dp_sameAll k ds _ ha)
  | .list ds, _, h => by
    cases h with
    | lst hs ha => exact .lst (Same.seq k hs) (dp_sameAll k ds _ ha)
  | .dict _, _, h => by cases h
theorem dp_sameAll {K : PySem.W.Frag} {H H' : Hp} (k : Same H H') : ∀ (ds : List PyData) (vs : List V), DpAll K H vs ds → DpAll K H' vs ds
  | [], _, h => by cases h; exact .nil
  | d :: ds, _, h => by
    cases h with
    | cons h1 h2 => exact .cons (dp_same k d _ h1) (dp_sameAll k ds _ h2)
end
theorem dpAll_get {K : PySem.W.Frag} {H : Hp} : ∀ {vs : List V} {ds : List PyData} {i : Nat} {v : V}, DpAll K H vs ds → vs[i]? = some v → ∃ d, ds[i]? = some d ∧ Dp K H v d
  | [], _, _, _, _, e => by simp at e
  | v0 :: vs, _, 0, v, h, e => by
    cases h with
    | cons h1 h2 =>
      have e2 : v0 = v := by simpa using e
      subst e2
      exact ⟨_, rfl, h1⟩
  | v0 :: vs, _, i + 1, v, h, e => by
    cases h with
    | cons h1 h2 =>
      obtain ⟨d, e1, h3⟩ := dpAll_get (i := i) h2 (by simpa using e)
      exact ⟨d, by simpa using e1, h3⟩
theorem dpAll_len {K : PySem.W.Frag} {H : Hp} : ∀ {vs : List V} {ds : List PyData}, DpAll K H vs ds → vs.length = ds.length
  | [], _, h => by cases h; rfl
  | _ :: _, _, h => by
    cases h with
    | cons h1 h2 => rw [List.length_cons, List.length_cons, dpAll_len h2]
theorem dpAll_snoc {K : PySem.W.Frag} {H : Hp} : ∀ {vs : List V} {ds : List PyData} {v : V} {d : PyData}, DpAll K H vs ds → Dp K H v d → DpAll K H (vs ++ [v]) (ds ++ [d])
  | [], _, _, _, h, h1 => by cases h; exact .cons h1 .nil
  | _ :: _, _, _, _, h, h1 => by
    cases h with
    | cons h2 h3 => exact .cons h2 (dpAll_snoc h3 h1)
theorem dpAll_ints {K : PySem.W.Frag} {H : Hp} : ∀ (l : List Int), DpAll K H (l.map V.int) (l.map PyData.int)
  | [] => .nil
  | _ :: l => .cons (.int _) (dpAll_ints l)
/-- a pair of ints as data -/
def prD (p : Int × Int) : PyData := .tuple [.int p.1, .int p.2]
theorem dp_pr {K : PySem.W.Frag} {H : Hp} {v : V} {p : Int × Int} (h : Dp K H v (prD p)) : ∃ t, v = .ref t ∧ SqT K H t [.int p.1, .int p.2] := by
  cases h with
  | tup hs ha =>
    cases ha with
    | cons h1 h2 =>
      cases h1
      cases h2 with
      | cons h3 h4 =>
        cases h3
        cases h4
        exact ⟨_, rfl, hs⟩
theorem imm_prs : ∀ l : List (Int × Int), ImmAll (l.map prD) = true
  | [] => rfl
  | _ :: l => by
    show (true && ImmAll (l.map prD)) = true
    rw [imm_prs l]
    rfl
/-! ### a def of the module, by its promise -/
def FnG (P : Program) (w : World) (K : PySem.W.Frag) (mg : Str → Option Value) (base : Heap) (CX : CXT) (k : Nat) (x : Str) (ps : List Str) (dvs : List V) (sp : Sp) : Prop :=
  ∃ (f : Addr) (fd : FuncData) (ds : List Value), FnOk P w K mg base CX k f fd ps sp ∧ mg x = some (.ref f) ∧ PySem.W.keepIn K (.ref f) = true ∧ Binds K fd ps ds ∧ Vals dvs ds
section
variable {X : Cx} {CX : CXT} {k : Nat} {x : Str} {ps : List Str} {dvs : List V} {sp : Sp} {E : XK} {e : Expr} {es : List Expr} {t : TA} {p pos : Pos}
theorem pe_callG (F : FnG X.prog X.w X.K X.mg X.base CX k x ps dvs sp) (hr : Room k X.A) (hg : Gl X x) (hx : Passes CX X E) (ha : PA X (e :: es) t)
    (hdb : (x == ("__debug__" : Str)) = false := by decide) (he : starEach (e :: es) X.env = (false, eval e X.env) :: starEach es X.env := by rfl) (hpl : (backTo pos (starEach es X.env)).any (·.1) = false := by rfl) :
    PE X (.Call (.Name x p) (e :: es) [] pos) (tCall sp dvs E t) := by
  obtain ⟨f, fd, ds, F, hm, hk, hb, hd⟩ := F
  exact pe_call F hr hg hm hk hb hd hx ha hdb he hpl
theorem pe_call0G (F : FnG X.prog X.w X.K X.mg X.base CX k x ps dvs sp) (hr : Room k X.A) (hg : Gl X x) (hx : Passes CX X E)
    (hdb : (x == ("__debug__" : Str)) = false := by decide) : PE X (.Call (.Name x p) [] [] pos) (tCall sp dvs E tNil) := by
  obtain ⟨f, fd, ds, F, hm, hk, hb, hd⟩ := F
  exact pe_call0 F hr hg hm hk hb hd hx hdb
end
/-- a module's name holds v -/
def GlV (mg : Str → Option Value) (x : Str) (v : V) : Prop := ∃ u, mg x = some u ∧ RelV v u
theorem pe_gV {X : Cx} {x : Str} {v : V} {pos : Pos} (hg : Gl X x) (h : GlV X.mg x v) (hdb : (x == ("__debug__" : Str)) = false := by decide) : PE X (.Name x pos) (tC v) := by
  obtain ⟨u, h1, h2⟩ := h
  exact pe_glob hg h1 h2 hdb
/-! ### lists -/
theorem take_more {α : Type} : ∀ {l : List α} {i : Nat} {x : α}, l[i]? = some x → l.take (i + 1) = l.take i ++ [x]
  | [], i, x, h => by simp at h
  | a :: l, 0, x, h => by
    have e : a = x := Option.some.inj h
    subst e
    rfl
  | a :: l, i + 1, x, h => by
    have ih := take_more (l := l) (i := i) (x := x) h
    show a :: l.take (i + 1) = a :: l.take i ++ [x]
    rw [ih]
    rfl
theorem map_get {α β : Type} {f : α → β} {l : List α} {i : Nat} {y : β} (h : (l.map f)[i]? = some y) : ∃ x, l[i]? = some x ∧ y = f x := by
  rw [List.getElem?_map] at h
  cases e : l[i]? with
  | none =>
    rw [e] at h
    cases h
  | some x =>
    rw [e] at h
    exact ⟨x, rfl, (Option.some.inj h).symm⟩
end Ll
namespace Ll
theorem iteD {p : Prop} [Decidable p] {A B : Prop} (h1 : p → A) (h2 : ¬ p → B) : if decide p = true then A else B := by
  by_cases h : p
  · rw [decide_eq_true h, if_pos rfl]
    exact h1 h
  · rw [decide_eq_false h, if_neg Bool.false_ne_true]
    exact h2 h
theorem iteDT {p : Prop} [Decidable p] {A B : Prop} (h : p) (q : A) : if decide p = true then A else B := by
  rw [decide_eq_true h, if_pos rfl]
  exact q
theorem iteDF {p : Prop} [Decidable p] {A B : Prop} (h : ¬ p) (q : B) : if decide p = true then A else B := by
  rw [decide_eq_false h, if_neg Bool.false_ne_true]
  exact q
theorem iteNT {p : Prop} [Decidable p] {A B : Prop} (h : ¬ p) (q : A) : if (!decide p) = true then A else B := by
  rw [decide_eq_false h]
  exact q
theorem iteNF {p : Prop} [Decidable p] {A B : Prop} (h : p) (q : B) : if (!decide p) = true then A else B := by
  rw [decide_eq_true h]
  exact q
theorem iteN {p : Prop} [Decidable p] {A B : Prop} (h1 : ¬ p → A) (h2 : p → B) : if (!decide p) = true then A else B := by
  by_cases h : p
  · rw [decide_eq_true h]
    exact h2 h
  · rw [decide_eq_false h]
    exact h1 h
end Ll

/-! ### steps of a reading: sd a side, hp what stands at an address, hs a sequence, rd as far as it goes by itself -/
local macro_rules | `(tactic| walk_at "sd") => `(tactic| (show (_ : Prop); first
  | omega | decide
  | exact ⟨by omega, by omega⟩ | exact ⟨by decide, by decide⟩ | exact Or.inl ⟨by omega, by omega⟩ | exact Or.inr ⟨by omega, by omega⟩ | exact ⟨by omega, by omega, by omega⟩ | exact ⟨by omega, by omega, by omega, by omega⟩
  | (show _ ≤ PySem.sizeLine; decide) | (show _ < PySem.sizeLine; decide)))
local macro_rules | `(tactic| walk_at "hp") => `(tactic| first | assumption | exact L2.upd_same | exact Ll.Same.new (by assumption) _ _ (by assumption))
local macro_rules | `(tactic| walk_at "hm") => `(tactic| first | exact Ll.mut_lst (by walk_at "hp") | exact Ll.mut_ins (by walk_at "hp") | exact Ll.mut_dK (by walk_at "hp"))
local macro_rules | `(tactic| walk_at "hb") => `(tactic| first | exact Ll.Fr.refl _ | exact Ll.Fr.at1 (by walk_at "hm") | exact Ll.Fr.trans (Ll.Fr.at1 (by walk_at "hm")) (Ll.Fr.at1 (by walk_at "hm")))
local macro_rules | `(tactic| walk_at "hs") => `(tactic| first | exact L2.SqL.of (by walk_at "hp") | assumption | exact (‹∀ H', Ll.Fr _ _ H' → L2.SqL _ H' _ _› _ (by walk_at "hb")))
local macro_rules | `(tactic| walk_at "ht") => `(tactic| first | exact L2.SqT.of (by walk_at "hp") | assumption)
local macro_rules | `(tactic| walk_at "ln") => `(tactic| first | omega | (simp only [List.length_map, List.length_append, List.length_replicate, List.length_cons, List.length_nil, List.length_singleton, List.length_set, List.length_range, List.length_take, List.length_drop]; omega))
local macro_rules | `(tactic| walk_at "sz") => `(tactic| (show (_ : Prop); first | decide | exact Nat.lt_of_le_of_lt (m := 100000) (by walk_at "ln") (by decide) | exact Nat.le_trans (m := 100000) (by walk_at "ln") (by decide)))
local macro_rules | `(tactic| walk_at "rd1") => `(tactic| first
  | refine ⟨_, rfl, ?_⟩
  | refine ⟨_, _, rfl, rfl, (by walk_at "sd"), ?_⟩
  | refine ⟨_, _, rfl, rfl, ?_⟩
  | refine ⟨_, _, _, _, rfl, rfl, (by walk_at "hs"), (by first | rfl | assumption), ?_⟩
  | refine ⟨_, _, _, _, rfl, rfl, (by walk_at "hp"), (by rfl), ?_⟩
  | refine ⟨_, _, rfl, .inl (by walk_at "hs"), ?_⟩
  | refine ⟨.inl ⟨rfl, _, (by walk_at "hs")⟩, ?_⟩
  | refine ⟨_, _, _, rfl, rfl, (by walk_at "hp"), (by walk_at "sz"), ?_⟩
  | refine ⟨_, _, rfl, (by walk_at "ht"), rfl, ?_⟩
  | refine ⟨_, _, rfl, (show L2.SqL _ _ _ _ from by walk_at "hs"), ?_⟩
  | refine ⟨_, _, rfl, ?_⟩
  | refine ⟨rfl, ?_⟩
  | refine ⟨(by (show _ ≤ PySem.sizeLine); walk_at "sz"), ?_⟩
  | refine ⟨(by assumption), (by walk_at "sd"), (by walk_at "sd"), ?_⟩
  | refine L2.iteT ?_
  | refine L2.iteF ?_
  | refine Ll.iteDT (by omega) ?_
  | refine Ll.iteDF (by omega) ?_
  | refine Ll.iteNT (by omega) ?_
  | refine Ll.iteNF (by omega) ?_)
local macro_rules | `(tactic| walk_at "rd") => `(tactic| repeat walk_at "rd1")

namespace Ll
open PySem PySem.Spec PyProof.Rows L2
/-! ### the dice -/
/-- dice stand at d: their list holds the script's, a place, a mixed number, a rest -/
def DiceAt (K : PySem.W.Frag) (H : Hp) (d : Addr) : Prop := ∃ (scr : Addr) (ns : List Int) (i m r : Int), FixL K H scr (ns.map V.int) ∧ ns.length ≤ 63 ∧ 0 ≤ i ∧ 0 ≤ m ∧ m < 2147483647 ∧ H d = some (.lst [.ref scr, .int i, .int m, .int r])
theorem DiceAt.fr {K : PySem.W.Frag} {F : Addr → Prop} {H H' : Hp} {d : Addr} (h : DiceAt K H d) (k : Fr F H H') (n : ¬ F d) : DiceAt K H' d := by
  obtain ⟨scr, ns, i, m, r, h1, h2, h3, h4, h5, h6⟩ := h
  exact ⟨scr, ns, i, m, r, h1.kp k.kp, h2, h3, h4, h5, k.but _ _ h6 n⟩
theorem DiceAt.mut {K : PySem.W.Frag} {H : Hp} {d : Addr} (h : DiceAt K H d) : Mut (H d) := by
  obtain ⟨scr, ns, i, m, r, h1, h2, h3, h4, h5, h6⟩ := h
  exact mut_lst h6
theorem DiceAt.ex {K : PySem.W.Frag} {H : Hp} {d : Addr} (h : DiceAt K H d) : ∃ xs, H d = some (.lst xs) := by
  obtain ⟨scr, ns, i, m, r, h1, h2, h3, h4, h5, h6⟩ := h
  exact ⟨_, h6⟩
def spDice (K : PySem.W.Frag) : Sp := fun vs H Q _ => ∃ (a : Addr) (ns : List Int), vs = [.ref a] ∧ FixL K H a (ns.map V.int) ∧ ns.length ≤ 63 ∧
  ∀ (H' : Hp) (d : Addr), H d = none → Same H H' → DiceAt K H' d → Q (.ref d) H'
def spNext (K : PySem.W.Frag) : Sp := fun vs H Q _ => ∃ (d : Addr) (many : Int), vs = [.ref d, .int many] ∧ DiceAt K H d ∧ 0 < many ∧ many < 1073741824 ∧
  ∀ (v : Int) (H' : Hp), 0 ≤ v → v < many → Fr (fun b => b = d) H H' → DiceAt K H' d → Q (.int v) H'
structure TxDice (K : PySem.W.Frag) (mg : Str → Option Value) : Prop where
  len : mg "len" = none
  int : mg "int" = none
section
variable {P : Program} {w : World} {K : PySem.W.Frag} {mg : Str → Option Value} {base : Heap} {CX : CXT}
abbrev sscDi : Stmt := topS 13
abbrev nscDi : List Str := ["_law_script", "_law_mixed", "_law_cell"]
theorem scDi : FnScope nscDi ["_law_script"] (defScope sscDi) := ⟨rfl, rfl, rfl, by decide +kernel, rfl, by decide +kernel, by decide +kernel⟩
theorem ok_dice {f : Addr} {fd : FuncData} (F : FunD K "_law_dice" "_law_dice" (defArgs sscDi) (defBody sscDi) (defScope sscDi) [] [] f fd) (T : TxDice K mg) : FnOk P w K mg base CX 1 f fd ["_law_script"] (spDice K) := by
  refine F.ok scDi (fun vs H Q E h => ?_) (fun cdv A outer s H vs Q E hr h => ?_)
  · obtain ⟨a, ns, rfl, _⟩ := h
    rfl
  · obtain ⟨a, ns, rfl, hX, hl, k⟩ := h
    have hS := hX.sq
    refine ⟨_, PSs.nox (pss_cons (ps_set (i := 1) scDi.nd rfl (Or.inl rfl) pe_int)
      (pss_cons (ps_for PassesOwn.never rfl (pi_list (pv 0)) (pg_name (i := 2) scDi.nd rfl (.inl rfl)) (pss_one (ps_set (i := 1) scDi.nd rfl (Or.inl rfl) (pe_op op_mod (pe_op op_add (pe_op op_add (pe_op op_mul (pv 1) pe_int) (pe_op op_mul (pe_op op_mod (pv 2) pe_int) pe_int)) pe_int) pe_int))))
      (pss_one (ps_ret (pe_lst (pa_cons (pv 0) (pa_cons pe_int (pa_cons (pe_op op_mul (pv 1) (pe_callTy call_int1 (by rfl) T.int (by decide +kernel) (pa_cons (pe_cmpR (op_gt) (pe_callB call_len_seq (by rfl) T.len PySem.boot_len (pa_cons (pv 0) pa_nil)) pe_int (nomark _)) pa_nil))) (pa_cons pe_int pa_nil))))))))), ?_⟩
    refine ⟨_, rfl, a, rfl, ⟨_, hS⟩, for_list (K := K) (a := a) (xs := ns.map V.int) (fun i σ H' => ∃ (m : Int) (v : Option V), 0 ≤ m ∧ m < 2147483647 ∧ σ = [some (.ref a), some (.int m), v] ∧ H' = H)
      ⟨0, none, by decide, by decide, rfl, rfl⟩ (fun i σ H' _ ⟨_, _, _, _, _, e⟩ => by rw [e]; exact hS) ?_ ?_⟩
    · rintro i y σ H' hi ⟨m, v, h0, h1, rfl, rfl⟩
      obtain ⟨z, _, rfl⟩ := map_get hi
      walk_at "rd"
      exact ⟨_, _, Int.emod_nonneg _ (by decide), Int.emod_lt_of_pos _ (by decide), rfl, rfl⟩
    · rintro σ H' ⟨m, v, h0, h1, rfl, rfl⟩
      walk_at "rd"
      refine Or.inr ⟨_, rfl, ?_⟩
      walk_at "rd"
      refine fun d hd => k _ d hd (Same.new hd) ⟨a, ns, 0, _, 0, hX.kp (Fr.new (F := fun _ => False) hd).kp, hl, by decide, ?_, ?_, upd_same⟩
      · exact Int.mul_nonneg h0 (by split <;> decide)
      · split <;> omega
abbrev sscNx : Stmt := topS 14
abbrev nscNx : List Str := ["_law_dice_here", "_law_many", "_law_found", "_law_cell"]
theorem scNx : FnScope nscNx ["_law_dice_here", "_law_many"] (defScope sscNx) := ⟨rfl, rfl, rfl, by decide +kernel, rfl, by decide +kernel, by decide +kernel⟩
theorem ok_next {f : Addr} {fd : FuncData} (F : FunD K "_law_next" "_law_next" (defArgs sscNx) (defBody sscNx) (defScope sscNx) [] [] f fd) (T : TxDice K mg) : FnOk P w K mg base CX 1 f fd ["_law_dice_here", "_law_many"] (spNext K) := by
  refine F.ok scNx (fun vs H Q E h => ?_) (fun cdv A outer s H vs Q E hr h => ?_)
  · obtain ⟨d, many, rfl, _⟩ := h
    rfl
  · obtain ⟨d, many, rfl, ⟨scr, ns, i, m, r, hX, hl, hi, hm0, hm1, hd⟩, h0, h1, k⟩ := h
    have f1 : ∀ o, Fr (fun b => b = d) H (upd H d o) := fun o => Fr.at1 (mut_lst hd)
    have f2 : ∀ xs o, Fr (fun b => b = d) H (upd (upd H d (.lst xs)) d o) := fun xs o => (f1 _).trans (Fr.at1 (mut_lst upd_same))
    have hS1 : ∀ H', Fr (fun b => b = d) H H' → SqL K H' scr (ns.map V.int) := fun H' e => (hX.kp e.kp).sq
    have hX1 := fun o => hX.kp (f1 o).kp
    have hX2 := fun xs o => hX.kp (f2 xs o).kp
    refine ⟨_, PSs.nox (pss_cons (ps_if (pt_cmpR (op_gt) (pe_ix ix_list (pv 0) pe_int (fun _ _ => rfl)) pe_int (nomark _)) (pss_cons (ps_set (i := 2) scNx.nd rfl (Or.inl rfl) (pe_op op_modN (pe_ix ix_list (pv 0) pe_int (fun _ _ => rfl)) (pv 1)))
      (pss_cons (ps_asg (pe_op op_fdivN (pe_ix ix_list (pv 0) pe_int (fun _ _ => rfl)) (pv 1)) (pg_sub (pv 0) pe_int set_list))
      (pss_one (ps_ret (pv 2))))) pss_nil)
      (pss_cons (ps_asg (pe_op op_add (pe_ix ix_list (pv 0) pe_int (fun _ _ => rfl)) pe_int) (pg_sub (pv 0) pe_int set_list))
      (pss_cons (ps_if (pt_cmpR (op_le) (pe_ix ix_list (pv 0) pe_int (fun _ _ => rfl)) (pe_callB call_len_seq (by rfl) T.len PySem.boot_len (pa_cons (pe_ix ix_list (pv 0) pe_int (fun _ _ => rfl)) pa_nil)) (nomark _)) (pss_cons (ps_set (i := 3) scNx.nd rfl (Or.inl rfl) (pe_ix ix_list (pe_ix ix_list (pv 0) pe_int (fun _ _ => rfl)) (pe_op op_sub (pe_ix ix_list (pv 0) pe_int (fun _ _ => rfl)) pe_int) (fun _ _ => rfl)))
      (pss_cons (ps_asg (pe_ifExp (pt_cmpR (op_ge) (pv 3) (pe_op op_pow pe_int pe_int) (nomark _)) (pe_op op_fdivN (pv 3) (pv 1)) pe_int) (pg_sub (pv 0) pe_int set_list))
      (pss_one (ps_ret (pe_op op_modN (pv 3) (pv 1)))))) pss_nil)
      (pss_cons (ps_asg (pe_op op_mod (pe_op op_mul (pe_ix ix_list (pv 0) pe_int (fun _ _ => rfl)) pe_int) pe_int) (pg_sub (pv 0) pe_int set_list))
      (pss_one (ps_ret (pe_op op_modN (pe_op op_fdiv (pe_ix ix_list (pv 0) pe_int (fun _ _ => rfl)) pe_int) (pv 1)))))))), ?_⟩
    walk_at "rd"
    refine iteD (fun hr => ?_) (fun hr => ?_)
    · walk_at "rd"
      exact k _ _ (Int.fmod_nonneg_of_pos _ h0) (Int.fmod_lt_of_pos _ h0) (f1 _) ⟨scr, ns, i, m, _, hX1 _, hl, hi, hm0, hm1, upd_same⟩
    · walk_at "rd"
      refine iteD (fun hc => ?_) (fun hc => ?_)
      · rw [List.length_map] at hc
        have hi2 : ∃ z, (ns.map V.int)[(i + 1 - 1).toNat]? = some (.int z) := by
          have hlt : (i + 1 - 1).toNat < ns.length := by omega
          exact ⟨ns[(i + 1 - 1).toNat], by rw [List.getElem?_map, List.getElem?_eq_getElem hlt]; rfl⟩
        obtain ⟨z, hz⟩ := hi2
        have hat : atI (ns.map V.int) (i + 1 - 1) = some (.int z) := at_of (j := (i + 1 - 1).toNat) (by omega) hz
        walk_at "rd"
        refine iteD (fun hz => ?_) (fun hz => ?_)
        · walk_at "rd"
          exact k _ _ (Int.fmod_nonneg_of_pos _ h0) (Int.fmod_lt_of_pos _ h0) (f2 _ _) ⟨scr, ns, i + 1, m, _, hX2 _ _, hl, by omega, hm0, hm1, upd_same⟩
        · walk_at "rd"
          exact k _ _ (Int.fmod_nonneg_of_pos _ h0) (Int.fmod_lt_of_pos _ h0) (f2 _ _) ⟨scr, ns, i + 1, m, _, hX2 _ _, hl, by omega, hm0, hm1, upd_same⟩
      · walk_at "rd"
        exact k _ _ (Int.fmod_nonneg_of_pos _ h0) (Int.fmod_lt_of_pos _ h0) (f2 _ _) ⟨scr, ns, i + 1, _, r, hX2 _ _, hl, by omega, Int.emod_nonneg _ (by decide), Int.emod_lt_of_pos _ (by decide), upd_same⟩
end
end Ll

namespace Ll
open PySem PySem.Spec PyProof.Rows L2
/-! ### == of data without bools -/
mutual
def noB : PyData → Bool
  | .none => true
  | .bool _ => false
  | .int _ => true
  | .str _ => true
  | .tuple xs => noBAll xs
  | .list xs => noBAll xs
  | .dict _ => false
def noBAll : List PyData → Bool
  | [] => true
  | d :: ds => noB d && noBAll ds
end
theorem noB_cons {d : PyData} {ds : List PyData} (h : noBAll (d :: ds) = true) : noB d = true ∧ noBAll ds = true := Bool.and_eq_true_iff.mp (show (noB d && noBAll ds) = true from h)
mutual
theorem eqv_is : ∀ (d e : PyData), noB d = true → noB e = true → (PyData.eqv d e = true ↔ d = e)
  | .none, e, _, h => by
    cases e <;> first | exact ⟨fun _ => rfl, fun _ => by simp [PyData.eqv]⟩ | exact ⟨fun z => by simp [PyData.eqv] at z, fun z => by cases z⟩
  | .bool _, _, h, _ => by cases h
  | .int i, e, _, h => by
    cases e with
    | int j => exact ⟨fun z => by simp [PyData.eqv] at z; rw [z], fun z => by cases z; simp [PyData.eqv]⟩
    | bool b => cases h
    | _ => exact ⟨fun z => by simp [PyData.eqv] at z, fun z => by cases z⟩
  | .str x, e, _, h => by
    cases e with
    | str j => exact ⟨fun z => by simp [PyData.eqv] at z; rw [z], fun z => by cases z; simp [PyData.eqv]⟩
    | bool b => cases h
    | _ => exact ⟨fun z => by simp [PyData.eqv] at z, fun z => by cases z⟩
  | .list ds, e, h1, h => by
    cases e with
    | list es =>
      have q := eqvAll_is ds es h1 h
      exact ⟨fun z => by rw [PyData.eqv] at z; rw [q.mp z], fun z => by cases z; rw [PyData.eqv]; exact q.mpr rfl⟩
    | bool b => cases h
    | _ => exact ⟨fun z => by simp [PyData.eqv] at z, fun z => by cases z⟩
  | .tuple ds, e, h1, h => by
    cases e with
    | tuple es =>
      have q := eqvAll_is ds es h1 h
      exact ⟨fun z => by rw [PyData.eqv] at z; rw [q.mp z], fun z => by cases z; rw [PyData.eqv]; exact q.mpr rfl⟩
    | bool b => cases h
    | _ => exact ⟨fun z => by simp [PyData.eqv] at z, fun z => by cases z⟩
  | .dict _, _, h, _ => by cases h
theorem eqvAll_is : ∀ (ds es : List PyData), noBAll ds = true → noBAll es = true → (PyData.eqvAll ds es = true ↔ ds = es)
  | [], [], _, _ => ⟨fun _ => rfl, fun _ => by simp [PyData.eqvAll]⟩
  | [], _ :: _, _, _ => ⟨fun z => by simp [PyData.eqvAll] at z, fun z => by cases z⟩
  | _ :: _, [], _, _ => ⟨fun z => by simp [PyData.eqvAll] at z, fun z => by cases z⟩
  | d :: ds, e :: es, h1, h2 => by
    have a := noB_cons h1
    have b := noB_cons h2
    have q1 := eqv_is d e a.1 b.1
    have q2 := eqvAll_is ds es a.2 b.2
    rw [PyData.eqvAll, Bool.and_eq_true_iff, q1, q2]
    exact ⟨fun z => by rw [z.1, z.2], fun z => by cases z; exact ⟨rfl, rfl⟩⟩
end
theorem eqv_t {d e : PyData} (h1 : noB d = true) (h2 : noB e = true) (h : d = e) : PyData.eqv d e = true := (eqv_is d e h1 h2).mpr h
theorem eqv_f {d e : PyData} (h1 : noB d = true) (h2 : noB e = true) (h : d ≠ e) : PyData.eqv d e = false := by
  cases q : PyData.eqv d e with
  | false => rfl
  | true => exact absurd ((eqv_is d e h1 h2).mp q) h
/-! ### what may be compared: depth below k, texts that are texts -/
mutual
def shp : Nat → PyData → Bool
  | _, .none => true
  | _, .bool _ => true
  | _, .int _ => true
  | _, .str x => PyData.strOk x
  | 0, .tuple _ => false
  | k + 1, .tuple xs => shpAll k xs
  | 0, .list _ => false
  | k + 1, .list xs => shpAll k xs
  | _, .dict _ => false
def shpAll : Nat → List PyData → Bool
  | _, [] => true
  | k, d :: ds => shp k d && shpAll k ds
end
mutual
theorem shp_ok : ∀ (d : PyData) (k : Nat), shp k d = true → d.canLay0 = true ∧ d.depth ≤ k
  | .none, _, _ => ⟨by simp [PyData.canLay0], by simp [PyData.depth]⟩
  | .bool _, _, _ => ⟨by simp [PyData.canLay0], by simp [PyData.depth]⟩
  | .int _, _, _ => ⟨by simp [PyData.canLay0], by simp [PyData.depth]⟩
  | .str x, k, h => by
    have h' : PyData.strOk x = true := by
      cases k <;> exact h
    exact ⟨by simpa [PyData.canLay0] using h', by simp [PyData.depth]⟩
  | .tuple ds, 0, h => by cases h
  | .tuple ds, k + 1, h => by
    have q := shpAll_ok ds k h
    exact ⟨by simpa [PyData.canLay0] using q.1, by rw [PyData.depth]; omega⟩
  | .list ds, 0, h => by cases h
  | .list ds, k + 1, h => by
    have q := shpAll_ok ds k h
    exact ⟨by simpa [PyData.canLay0] using q.1, by rw [PyData.depth]; omega⟩
  | .dict _, k, h => by
    cases k <;> cases h
theorem shpAll_ok : ∀ (ds : List PyData) (k : Nat), shpAll k ds = true → PyData.canLayAll0 ds = true ∧ PyData.depthAll ds ≤ k
  | [], _, _ => ⟨by simp [PyData.canLayAll0], by simp [PyData.depthAll]⟩
  | d :: ds, k, h => by
    have h' : (shp k d && shpAll k ds) = true := h
    have a := Bool.and_eq_true_iff.mp h'
    have q1 := shp_ok d k a.1
    have q2 := shpAll_ok ds k a.2
    exact ⟨by rw [PyData.canLayAll0, q1.1, q2.1]; rfl, by rw [PyData.depthAll]; omega⟩
end
theorem shaped_of {d : PyData} (k : Nat) (h : shp k d = true) (hk : k ≤ 64 := by decide) : SeqAt.shaped d = true := by
  have q := shp_ok d k h
  unfold SeqAt.shaped
  rw [q.1, decide_eq_true (by omega)]
  rfl
theorem shpAll_map {α : Type} {f : α → PyData} {k : Nat} (h : ∀ x, shp k (f x) = true) : ∀ l : List α, shpAll k (l.map f) = true
  | [] => rfl
  | x :: l => by
    show (shp k (f x) && shpAll k (l.map f)) = true
    rw [h x, shpAll_map h l]
    rfl
theorem noBAll_map {α : Type} {f : α → PyData} (h : ∀ x, noB (f x) = true) : ∀ l : List α, noBAll (l.map f) = true
  | [] => rfl
  | x :: l => by
    show (noB (f x) && noBAll (l.map f)) = true
    rw [h x, noBAll_map h l]
    rfl
theorem shp_int (k : Nat) (i : Int) : shp k (.int i) = true := by cases k <;> rfl
/-- a list of ints -/
def inD (l : List Int) : PyData := .list (l.map PyData.int)
theorem noB_inD (l : List Int) : noB (inD l) = true := noBAll_map (fun _ => rfl) l
theorem shaped_inD (l : List Int) : SeqAt.shaped (inD l) = true := shaped_of 1 (shpAll_map (fun x => shp_int 0 x) l)
theorem inD_inj {a b : List Int} (h : inD a = inD b) : a = b := by
  have h1 := PyData.list.inj h
  have h2 := congrArg (List.map fun d => match d with | PyData.int i => i | _ => 0) h1
  simpa [List.map_map, Function.comp_def] using h2
theorem dp_ints {K : PySem.W.Frag} {H : Hp} {a : Addr} {l : List Int} (h : SqL K H a (l.map V.int)) : Dp K H (.ref a) (inD l) := .lst h (dpAll_ints l)
theorem eqv_ints (a b : List Int) : PyData.eqv (inD a) (inD b) = decide (a = b) := by
  by_cases h : a = b
  · rw [decide_eq_true h]
    exact eqv_t (noB_inD a) (noB_inD b) (by rw [h])
  · rw [decide_eq_false h]
    exact eqv_f (noB_inD a) (noB_inD b) fun z => h (inD_inj z)
end Ll

namespace Ll
open PySem PySem.Spec PyProof.Rows L2
theorem ixN_nat {n j : Nat} (hj : j < n) : ixN n (j : Int) = some j := by
  unfold ixN
  rw [if_pos (by omega), if_pos (by omega)]
  simp
theorem index_ints {l : List Int} {x : Int} (hx : x ∈ l) : (l.map V.int).all flatV = true ∧ (l.map V.int)[l.idxOf x]? = some (.int x) ∧ eqV (.int x) (.int x) = true ∧
    ∀ (m : Nat) (z' : V), m < l.idxOf x → (l.map V.int)[m]? = some z' → eqV z' (.int x) = false := by
  have hlt : l.idxOf x < l.length := List.idxOf_lt_length_of_mem hx
  refine ⟨?_, ?_, ?_, fun m z' hm e => ?_⟩
  · rw [List.all_map]
    exact List.all_eq_true.mpr fun _ _ => rfl
  · rw [List.getElem?_map, List.getElem?_eq_getElem hlt, List.getElem_idxOf]
    rfl
  · show (x == x) = true
    exact beq_self_eq_true x
  · rw [List.getElem?_map] at e
    cases e2 : l[m]? with
    | none =>
      rw [e2] at e
      cases e
    | some y =>
      rw [e2] at e
      have e3 : V.int y = z' := Option.some.inj e
      subst e3
      show (y == x) = false
      obtain ⟨h1, h2⟩ := List.getElem?_eq_some_iff.mp e2
      have h3 := List.not_of_lt_findIdx (p := fun z => z == x) (xs := l) hm
      rw [← h2]
      simpa using h3
theorem pick3 {x0 x1 x2 y : Int} (h0 : 0 ≤ y) (h1 : y < 3) : ∃ z, atI [V.int x0, V.int x1, V.int x2] y = some (.int z) ∧ (z = x0 ∨ z = x1 ∨ z = x2) := by
  rcases (by omega : y = 0 ∨ y = 1 ∨ y = 2) with e | e | e
  · subst e
    exact ⟨x0, rfl, .inl rfl⟩
  · subst e
    exact ⟨x1, rfl, .inr (.inl rfl)⟩
  · subst e
    exact ⟨x2, rfl, .inr (.inr rfl)⟩
theorem pick2 {x0 x1 y : Int} (h0 : 0 ≤ y) (h1 : y < 2) : ∃ z, atI [V.int x0, V.int x1] y = some (.int z) ∧ (z = x0 ∨ z = x1) := by
  rcases (by omega : y = 0 ∨ y = 1) with e | e
  · subst e
    exact ⟨x0, rfl, .inl rfl⟩
  · subst e
    exact ⟨x1, rfl, .inr rfl⟩
/-- a comprehension that changes nothing of what stood: its items by the turn -/
theorem lc_pure {J : It} {n : Nat} {G : Hp → Prop} {Y : Nat → Hp → V → Hp → Prop} (w : Walk J n G Y) {g : TG} {tt : TT} {te : TE} {vs : List Nat} {σ : L2.St} {H1 : Hp} {D : Addr} {Qd : Hp → Prop} (f : Nat → Option V) (nD : H1 D = none) (hn : n ≤ 100000)
    (hG : ∀ H, Same H1 H → G H)
    (hs : ∀ (i : Nat) (x : V) (H H' : Hp) (Qy : V → Hp → Prop) (Qn : Hp → Prop), i < n → Same H1 H → Y i H x H' → (∀ y H4, f i = some y → Same H H4 → Qy y H4) → (∀ H3, f i = none → Same H H3 → Qn H3) →
      g x (wipe σ vs) H' fun σ2 H2 => wipe σ2 vs = wipe σ vs ∧ tt σ2 H2 fun b H3 => if b = true then te σ2 H3 Qy else Qn H3)
    (hd : ∀ H, Same H1 H → H D = some (.lst ((List.range n).filterMap f)) → Qd H) :
    ∃ W : Nat → Nat → Hp → Prop, (∃ m, W 0 m (upd H1 D (.lst []))) ∧ ∀ i m H, W i m H →
      (J.stop i H ∧ Qd H) ∨ (J.go i H ∧ ∃ Nx : Hp → Prop, (∀ H', Nx H' → ∃ m', m' < m ∧ W (i + 1) m' H') ∧ ∀ x H', J.yld i H x H' → g x (wipe σ vs) H' fun σ2 H2 => wipe σ2 vs = wipe σ vs ∧ tt σ2 H2 fun b H3 =>
        if b = true then te σ2 H3 fun y H4 => ∃ acc, H4 D = some (.lst acc) ∧ acc.length < sizeLine ∧ Nx (upd H4 D (.lst (acc ++ [y]))) else Nx H3) := by
  have hr : ∀ i, (List.range (i + 1)).filterMap f = (List.range i).filterMap f ++ (f i).toList := fun i => by
    rw [List.range_succ, List.filterMap_append]
    cases h : f i <;> simp [h]
  have hl : ∀ i, ((List.range i).filterMap f).length ≤ i := fun i => by
    have := List.length_filterMap_le f (List.range i)
    rw [List.length_range] at this
    exact this
  refine lc_it w (fun i H => Same H1 H ∧ H D = some (.lst ((List.range i).filterMap f))) ⟨Same.new nD, upd_same⟩ (fun i H _ p => hG H p.1) (fun i x H H' hi p y => ?_) (fun H p => hd H p.1 p.2)
  refine hs i x H H' _ _ hi p.1 y (fun y H4 e s => ?_) (fun H3 e s => ?_)
  · refine ⟨_, s _ _ p.2, ?_, ?_, ?_⟩
    · have := hl i
      exact Nat.lt_of_le_of_lt (Nat.le_trans this (by omega : i ≤ 100000)) (by decide)
    · intro b o e2
      have ne : b ≠ D := ne_of_none e2 nD
      rw [upd_ne ne]
      exact s b o (p.1 b o e2)
    · rw [upd_same, hr i, e]
      rfl
  · refine ⟨fun b o e2 => s b o (p.1 b o e2), ?_⟩
    rw [hr i, e, s _ _ p.2]
    simp
theorem immAll_append : ∀ {a b : List PyData}, ImmAll a = true → ImmAll b = true → ImmAll (a ++ b) = true
  | [], _, _, h => h
  | d :: a, b, h1, h2 => by
    have h' : (Imm d && ImmAll a) = true := h1
    have q := Bool.and_eq_true_iff.mp h'
    show (Imm d && ImmAll (a ++ b)) = true
    rw [q.1, immAll_append q.2 h2]
    rfl
/-- a comprehension that changes nothing of what stood: its items' data by the turn -/
theorem lc_data {K : PySem.W.Frag} {J : It} {n : Nat} {G : Hp → Prop} {Y : Nat → Hp → V → Hp → Prop} (w : Walk J n G Y) {g : TG} {tt : TT} {te : TE} {vs : List Nat} {σ : L2.St} {H1 : Hp} {D : Addr} {Qd : Hp → Prop} (f : Nat → Option PyData) (nD : H1 D = none) (hn : n ≤ 100000)
    (hi : ∀ i d, f i = some d → Imm d = true) (hG : ∀ H, Same H1 H → G H)
    (hs : ∀ (i : Nat) (x : V) (H H' : Hp) (Qy : V → Hp → Prop) (Qn : Hp → Prop), i < n → Same H1 H → Y i H x H' → (∀ y H4 d, f i = some d → Dp K H4 y d → Same H H4 → Qy y H4) → (∀ H3, f i = none → Same H H3 → Qn H3) →
      g x (wipe σ vs) H' fun σ2 H2 => wipe σ2 vs = wipe σ vs ∧ tt σ2 H2 fun b H3 => if b = true then te σ2 H3 Qy else Qn H3)
    (hd : ∀ H ys, Same H1 H → H D = some (.lst ys) → DpAll K H ys ((List.range n).filterMap f) → Qd H) :
    ∃ W : Nat → Nat → Hp → Prop, (∃ m, W 0 m (upd H1 D (.lst []))) ∧ ∀ i m H, W i m H →
      (J.stop i H ∧ Qd H) ∨ (J.go i H ∧ ∃ Nx : Hp → Prop, (∀ H', Nx H' → ∃ m', m' < m ∧ W (i + 1) m' H') ∧ ∀ x H', J.yld i H x H' → g x (wipe σ vs) H' fun σ2 H2 => wipe σ2 vs = wipe σ vs ∧ tt σ2 H2 fun b H3 =>
        if b = true then te σ2 H3 fun y H4 => ∃ acc, H4 D = some (.lst acc) ∧ acc.length < sizeLine ∧ Nx (upd H4 D (.lst (acc ++ [y]))) else Nx H3) := by
  have hr : ∀ i, (List.range (i + 1)).filterMap f = (List.range i).filterMap f ++ (f i).toList := fun i => by
    rw [List.range_succ, List.filterMap_append]
    cases h : f i <;> simp [h]
  have hl : ∀ i, ((List.range i).filterMap f).length ≤ i := fun i => by
    have := List.length_filterMap_le f (List.range i)
    rw [List.length_range] at this
    exact this
  have him : ∀ i, ImmAll ((List.range i).filterMap f) = true := fun i => by
    induction i with
    | zero => rfl
    | succ i ih =>
      rw [hr i]
      refine immAll_append ih ?_
      cases h : f i with
      | none => rfl
      | some d =>
        show (Imm d && true) = true
        rw [hi i d h]
        rfl
  refine lc_it w (fun i H => Same H1 H ∧ ∃ ys, H D = some (.lst ys) ∧ DpAll K H ys ((List.range i).filterMap f)) ⟨Same.new nD, [], upd_same, .nil⟩ (fun i H _ p => hG H p.1) (fun i x H H' hi p y => ?_) (fun H p => by
    obtain ⟨p1, ys, p2, p3⟩ := p
    exact hd H ys p1 p2 p3)
  obtain ⟨p1, ys, p2, p3⟩ := p
  refine hs i x H H' _ _ hi p1 y (fun y H4 d e hy s => ?_) (fun H3 e s => ?_)
  · refine ⟨_, s _ _ p2, ?_, ?_, _, upd_same, ?_⟩
    · have := hl i
      rw [dpAll_len p3]
      exact Nat.lt_of_le_of_lt (Nat.le_trans this (by omega : i ≤ 100000)) (by decide)
    · intro b o e2
      have ne : b ≠ D := ne_of_none e2 nD
      rw [upd_ne ne]
      exact s b o (p1 b o e2)
    · have f1 : Fr (fun b => b = D) H4 (upd H4 D (.lst (ys ++ [y]))) := Fr.at1 (mut_lst (s _ _ p2))
      have q := him (i + 1)
      rw [hr i, e] at q ⊢
      exact dp_kpAll f1.kp _ _ q (dpAll_snoc (dp_sameAll s _ _ p3) hy)
  · refine ⟨fun b o e2 => s b o (p1 b o e2), ys, s _ _ p2, ?_⟩
    rw [hr i, e]
    show DpAll K H3 ys ((List.range i).filterMap f ++ [])
    rw [List.append_nil]
    exact dp_sameAll s _ _ p3
theorem filterMap_get {α β : Type} (l : List α) (h : α → β) : (List.range l.length).filterMap (fun i => (l[i]?).map h) = l.map h := by
  have key : ∀ (n : Nat), n ≤ l.length → (List.range n).filterMap (fun i => (l[i]?).map h) = (l.take n).map h := fun n => by
    induction n with
    | zero => intro _; simp
    | succ n ih =>
      intro hn
      have hlt : n < l.length := by omega
      rw [List.range_succ, List.filterMap_append, ih (by omega), List.take_succ_eq_append_getElem hlt, List.map_append]
      simp [List.getElem?_eq_getElem hlt]
  have := key l.length (Nat.le_refl _)
  rw [List.take_length] at this
  exact this
theorem filterMap_bind {α β : Type} (l : List α) (h : α → Option β) : (List.range l.length).filterMap (fun i => (l[i]?).bind h) = l.filterMap h := by
  have key : ∀ (n : Nat), n ≤ l.length → (List.range n).filterMap (fun i => (l[i]?).bind h) = (l.take n).filterMap h := fun n => by
    induction n with
    | zero => intro _; simp
    | succ n ih =>
      intro hn
      have hlt : n < l.length := by omega
      rw [List.range_succ, List.filterMap_append, ih (by omega), List.take_succ_eq_append_getElem hlt, List.filterMap_append]
      congr 1
      simp only [List.filterMap_cons, List.filterMap_nil, List.getElem?_eq_getElem hlt, Option.bind_some]
  have := key l.length (Nat.le_refl _)
  rw [List.take_length] at this
  exact this
theorem sIx_nat {n d i : Nat} (h : i ≤ n) : HT.sIx n d (some (i : Int)) = i := by
  show (if (i : Int) < 0 then ((i : Int) + (n : Int)).toNat else min (i : Int).toNat n) = i
  rw [if_neg (by omega)]
  omega
theorem cut_take {xs : List V} {k : Int} {i : Nat} (e : k = (i : Int)) (h : i ≤ xs.length) : cutV xs none (some k) = xs.take i := by
  subst e
  show (xs.drop 0).take (HT.sIx xs.length xs.length (some (i : Int)) - 0) = xs.take i
  rw [sIx_nat h]
  rfl
theorem cut_drop {xs : List V} {k : Int} {i : Nat} (e : k = (i : Int)) (h : i ≤ xs.length) : cutV xs (some k) none = xs.drop i := by
  subst e
  show (xs.drop (HT.sIx xs.length 0 (some (i : Int)))).take (xs.length - HT.sIx xs.length 0 (some (i : Int))) = xs.drop i
  rw [sIx_nat h]
  exact List.take_of_length_le (by rw [List.length_drop]; exact Nat.le_refl _)
theorem dpAll_erase {K : PySem.W.Frag} {H : Hp} : ∀ {xs : List V} {ds : List PyData} (i : Nat), DpAll K H xs ds → DpAll K H (xs.eraseIdx i) (ds.eraseIdx i)
  | [], _, _, h => by cases h; exact .nil
  | _ :: _, _, 0, h => by
    cases h with
    | cons _ h2 => exact h2
  | _ :: _, _, i + 1, h => by
    cases h with
    | cons h1 h2 => exact .cons h1 (dpAll_erase i h2)
theorem inV_ints (x : Int) (l : List Int) : inV (.int x) (l.map V.int) = decide (x ∈ l) := by
  unfold inV
  rw [List.any_map]
  induction l with
  | nil => rfl
  | cons a l ih =>
    rw [List.any_cons, ih]
    show ((a == x) || decide (x ∈ l)) = decide (x ∈ a :: l)
    by_cases h : a = x
    · subst h
      simp
    · have h2 : ¬ x = a := fun z => h z.symm
      simp [h, h2]
theorem flat_ints (l : List Int) : (l.map V.int).all flatV = true := by
  rw [List.all_map]
  exact List.all_eq_true.mpr fun _ _ => rfl
/-- how many a comprehension keeps -/
theorem count_keep {α : Type} {P : α → Bool} (g : Nat → V) (l : List α) : ((List.range l.length).filterMap fun j => (l[j]?).bind fun q => if P q then some (g j) else none).length = l.countP P := by
  have key : ∀ (n : Nat), n ≤ l.length → ((List.range n).filterMap fun j => (l[j]?).bind fun q => if P q then some (g j) else none).length = (l.take n).countP P := fun n => by
    induction n with
    | zero => intro _; simp
    | succ n ih =>
      intro hn
      have hlt : n < l.length := by omega
      rw [List.range_succ, List.filterMap_append, List.length_append, ih (by omega), List.take_succ_eq_append_getElem hlt, List.countP_append]
      congr 1
      simp only [List.filterMap_cons, List.filterMap_nil, List.getElem?_eq_getElem hlt, Option.bind_some]
      by_cases h : P l[n] = true
      · simp [h]
      · simp [h]
  have := key l.length (Nat.le_refl _)
  rw [List.take_length] at this
  exact this
theorem dpAll_app {K : PySem.W.Frag} {H : Hp} : ∀ {xs ys : List V} {ds es : List PyData}, DpAll K H xs ds → DpAll K H ys es → DpAll K H (xs ++ ys) (ds ++ es)
  | [], _, _, _, h, h1 => by cases h; exact h1
  | _ :: _, _, _, _, h, h1 => by
    cases h with
    | cons h2 h3 => exact .cons h2 (dpAll_app h3 h1)
end Ll

namespace Sv
/-! ### served, as plain functions -/
def lo : List Int → Int
  | [] => 0
  | a :: r => r.foldl min a
theorem foldl_min : ∀ (r : List Int) (a : Int), (r.foldl min a ∈ a :: r) ∧ ∀ y ∈ a :: r, r.foldl min a ≤ y
  | [], a => ⟨by simp, fun y h => by
    have e : y = a := by simpa using h
    rw [e]
    exact Int.le_refl _⟩
  | b :: r, a => by
    obtain ⟨h1, h2⟩ := foldl_min r (min a b)
    refine ⟨?_, fun y h => ?_⟩
    · show r.foldl min (min a b) ∈ a :: b :: r
      rcases List.mem_cons.mp h1 with e | e
      · rw [e]
        by_cases c : a ≤ b
        · rw [Int.min_eq_left c]
          exact List.mem_cons_self
        · rw [Int.min_eq_right (by omega)]
          exact List.mem_cons_of_mem _ List.mem_cons_self
      · exact List.mem_cons_of_mem _ (List.mem_cons_of_mem _ e)
    · show r.foldl min (min a b) ≤ y
      have h3 := h2 (min a b) List.mem_cons_self
      rcases List.mem_cons.mp h with e | e
      · rw [e]
        have := Int.min_le_left a b
        omega
      · rcases List.mem_cons.mp e with e | e
        · rw [e]
          have := Int.min_le_right a b
          omega
        · exact h2 y (List.mem_cons_of_mem _ e)
theorem lo_mem {l : List Int} (h : 0 < l.length) : lo l ∈ l := by
  cases l with
  | nil => cases h
  | cons a r => exact (foldl_min r a).1
theorem lo_le {l : List Int} {y : Int} (h : y ∈ l) : lo l ≤ y := by
  cases l with
  | nil => cases h
  | cons a r => exact (foldl_min r a).2 y h
theorem lo_is {l : List Int} {m : Int} (h : m ∈ l) (h2 : ∀ y, y ∈ l → m ≤ y) : lo l = m := by
  have h3 := lo_le h
  have h4 := h2 _ (lo_mem (l := l) (List.length_pos_of_mem h))
  omega
/-- one work is served -/
def step (s : List Int × List Int) (p : Int × Int) : List Int × List Int :=
  (s.1.set (s.1.idxOf (lo s.1)) (max p.1 (lo s.1) + p.2), s.2 ++ [max p.1 (lo s.1)])
def run (c : Nat) (w : List (Int × Int)) : List Int × List Int := w.foldl step (List.replicate c 0, [])
def starts (c : Nat) (w : List (Int × Int)) : List Int := (run c w).2
theorem run_more {c : Nat} {w : List (Int × Int)} {i : Nat} {p : Int × Int} (h : w[i]? = some p) : run c (w.take (i + 1)) = step (run c (w.take i)) p := by
  unfold run
  rw [Ll.take_more h, List.foldl_append]
  rfl
theorem run_len1 {c : Nat} : ∀ (w : List (Int × Int)) (s : List Int × List Int), s.1.length = c → (w.foldl step s).1.length = c
  | [], _, h => h
  | p :: w, s, h => run_len1 (c := c) w (step s p) (by
    show (s.1.set _ _).length = c
    rw [List.length_set, h])
theorem run_len {c : Nat} {w : List (Int × Int)} : (run c w).1.length = c := run_len1 w _ (by simp)
theorem run_len2 : ∀ (w : List (Int × Int)) (s : List Int × List Int), (w.foldl step s).2.length = s.2.length + w.length
  | [], _ => rfl
  | p :: w, s => by
    show (w.foldl step (step s p)).2.length = _
    rw [run_len2 w (step s p)]
    show (s.2 ++ [_]).length + w.length = s.2.length + (w.length + 1)
    rw [List.length_append, List.length_singleton]
    omega
theorem starts_len {c : Nat} {w : List (Int × Int)} : (starts c w).length = w.length := by
  unfold starts run
  rw [run_len2]
  simp
/-- works that can be -/
def GoodFrom (last : Int) : List (Int × Int) → Prop
  | [] => True
  | p :: r => last ≤ p.1 ∧ p.1 ≤ 9999 ∧ 0 ≤ p.2 ∧ p.2 ≤ 99 ∧ GoodFrom p.1 r
def Good (w : List (Int × Int)) : Prop := GoodFrom 0 w
/-- the j-th waits longer than l -/
def late (w : List (Int × Int)) (st : List Int) (l : Int) (j : Nat) : Bool := match w[j]?, st[j]? with
  | some q, some s => decide (l < s - q.1)
  | _, _ => false
/-- nobody waits longer with so many lines -/
def fits (w : List (Int × Int)) (l : Int) (c : Nat) : Bool := (List.range w.length).all fun j => !late w (starts c w) l j
theorem ones {α : Type} {p : Nat → Bool} {x : α} : ∀ r : List Nat, r.filterMap (fun j => if p j then some x else none) = List.replicate (r.countP p) x
  | [] => rfl
  | j :: r => by
    have ih := ones (p := p) (x := x) r
    by_cases h : p j = true
    · rw [List.filterMap_cons_some (b := x) (by simp [h]), ih, List.countP_cons_of_pos h]
      rfl
    · rw [List.filterMap_cons_none (by simp [h]), ih, List.countP_cons_of_neg h]
theorem fits_iff {w : List (Int × Int)} {l : Int} {c : Nat} : fits w l c = true ↔ (List.range w.length).countP (late w (starts c w) l) = 0 := by
  unfold fits
  rw [List.countP_eq_zero, List.all_eq_true]
  exact ⟨fun h a ha => by simpa using h a ha, fun h a ha => by simpa using h a ha⟩
def fewest (w : List (Int × Int)) (l : Int) : Option Nat := ((List.range 8).map (· + 1)).find? fun c => fits w l c
theorem fewest_some {w : List (Int × Int)} {l : Int} {c : Nat} (h1 : 1 ≤ c) (h2 : c ≤ 8) (h : fits w l c = true) (hf : ∀ d, 1 ≤ d → d < c → fits w l d = false) : fewest w l = some c := by
  unfold fewest
  rw [List.find?_map, Option.map_eq_some_iff]
  refine ⟨c - 1, ?_, by omega⟩
  rw [List.find?_range_eq_some]
  refine ⟨?_, by simp; omega, fun j hj => ?_⟩
  · show fits w l (c - 1 + 1) = true
    rw [show c - 1 + 1 = c by omega]
    exact h
  · show (!fits w l (j + 1)) = true
    rw [hf (j + 1) (by omega) (by omega)]
    rfl
theorem fewest_none {w : List (Int × Int)} {l : Int} (hf : ∀ d, 1 ≤ d → d ≤ 8 → fits w l d = false) : fewest w l = none := by
  unfold fewest
  rw [List.find?_eq_none]
  intro x hx
  obtain ⟨j, hj, rfl⟩ := List.mem_map.mp hx
  have := List.mem_range.mp hj
  rw [hf (j + 1) (by omega) (by omega)]
  decide
end Sv

namespace Ll
open PySem PySem.Spec PyProof.Rows L2
structure TxSrv (K : PySem.W.Frag) (mg : Str → Option Value) : Prop where
  len : mg "len" = none
  int : mg "int" = none
  min : mg "min" = none
  max : mg "max" = none
  range : mg "range" = none
  zip : mg "zip" = none
  enumerate : mg "enumerate" = none
  sorted : mg "sorted" = none
  c_LATEST : GlV mg "LATEST" (.int 9999)
  c_MOST_LINES : GlV mg "MOST_LINES" (.int 8)
  c_MOST_HOLD : GlV mg "MOST_HOLD" (.int 99)
/-- a list of works at a -/
def WorkAt (K : PySem.W.Frag) (H : Hp) (a : Addr) (w : List (Int × Int)) : Prop := ∃ xs, SqL K H a xs ∧ DpAll K H xs (w.map prD)
theorem WorkAt.same {K : PySem.W.Frag} {H H' : Hp} {a : Addr} {w : List (Int × Int)} (h : WorkAt K H a w) (s : Same H H') : WorkAt K H' a w := by
  obtain ⟨xs, h1, h2⟩ := h
  exact ⟨xs, s.seq h1, dp_sameAll s _ _ h2⟩
def spStarts (K : PySem.W.Frag) : Sp := fun vs H Q _ => ∃ (a : Addr) (w : List (Int × Int)) (c : Nat), vs = [.ref a, .int c] ∧ WorkAt K H a w ∧ 1 ≤ c ∧ c ≤ 8 ∧ w.length ≤ 1000 ∧
  ∀ (H' : Hp) (p : Addr), H p = none → Same H H' → H' p = some (.lst ((Sv.starts c w).map V.int)) → Q (.ref p) H'
def spNeed (K : PySem.W.Frag) : Sp := fun vs H Q _ => ∃ (a : Addr) (w : List (Int × Int)), vs = [.ref a] ∧ WorkAt K H a w ∧ Sv.Good w ∧ ∀ (H' : Hp), Same H H' → Q .non H'
def spServed (K : PySem.W.Frag) : Sp := fun vs H Q _ => ∃ (a : Addr) (w : List (Int × Int)) (c : Nat), vs = [.ref a, .int c] ∧ WorkAt K H a w ∧ Sv.Good w ∧ 1 ≤ c ∧ c ≤ 8 ∧ w.length ≤ 1000 ∧
  ∀ (H' : Hp) (p : Addr), H p = none → Same H H' → H' p = some (.lst ((Sv.starts c w).map V.int)) → Q (.ref p) H'
def oV : Option Nat → V
  | none => .non
  | some c => .int c
def spFewest (K : PySem.W.Frag) : Sp := fun vs H Q _ => ∃ (a : Addr) (w : List (Int × Int)) (l : Int), vs = [.ref a, .int l] ∧ WorkAt K H a w ∧ Sv.Good w ∧ w.length ≤ 1000 ∧
  ∀ (H' : Hp), Same H H' → Q (oV (Sv.fewest w l)) H'
/-- 1 where one waits longer -/
def tooLate (w : List (Int × Int)) (st : List Int) (l : Int) (j : Nat) : Option V := if Sv.late w st l j then some (.int 1) else none
section
variable {P : Program} {w : World} {K : PySem.W.Frag} {mg : Str → Option Value} {base : Heap} {CX : CXT}
abbrev sscSt : Stmt := topS 9
abbrev nscSt : List Str := ["work", "count", "ends", "found", "moment", "hold", "first", "start"]
theorem scSt : FnScope nscSt ["work", "count"] (defScope sscSt) := ⟨rfl, rfl, rfl, by decide +kernel, rfl, by decide +kernel, by decide +kernel⟩
theorem ok_starts {f : Addr} {fd : FuncData} (F : FunD K "starts" "starts" (defArgs sscSt) (defBody sscSt) (defScope sscSt) [] [] f fd) (T : TxSrv K mg) : FnOk P w K mg base CX 1 f fd ["work", "count"] (spStarts K) := by
  refine F.ok scSt (fun vs H Q E h => ?_) (fun cdv A outer s H vs Q E hr h => ?_)
  · obtain ⟨a, w, c, rfl, _⟩ := h
    rfl
  · obtain ⟨a, w, c, rfl, ⟨xs, hS, hD⟩, hc1, hc8, hl, k⟩ := h
    refine ⟨_, PSs.nox (pss_cons (ps_set (i := 2) scSt.nd rfl (Or.inl rfl) (pe_op op_rep (pe_lst (pa_cons pe_int pa_nil)) (pv 1)))
      (pss_cons (ps_set (i := 3) scSt.nd rfl (Or.inl rfl) (pe_lst pa_nil))
      (pss_cons (ps_for PassesOwn.never rfl (pi_list (pv 0)) (pg_tup rfl (pgs_cons (pg_name (i := 4) scSt.nd rfl (.inl rfl)) (pgs_cons (pg_name (i := 5) scSt.nd rfl (.inl rfl)) pgs_nil))) (pss_cons (ps_set (i := 6) scSt.nd rfl (Or.inl rfl) (pe_callB (cr_min rfl) (by rfl) T.min (by decide +kernel) (pa_cons (pv 2) pa_nil)))
      (pss_cons (ps_set (i := 7) scSt.nd rfl (Or.inl rfl) (pe_callB (call_max2 rfl) (by rfl) T.max (by decide +kernel) (pa_cons (pv 4) (pa_cons (pv 6) pa_nil))))
      (pss_cons (ps_asg (pe_op op_add (pv 7) (pv 5)) (pg_sub (pv 2) (pe_bm PySem.F.plainAttrs_list PySem.F.slot_list_index PySem.F.type_list_index mt_index (pv 2) (pa_cons (pv 6) pa_nil)) set_list))
      (pss_one (ps_expr (pe_bm PySem.F.plainAttrs_list PySem.F.slot_list_append PySem.F.type_list_append mt_append (pv 3) (pa_cons (pv 7) pa_nil))))))))
      (pss_one (ps_ret (pv 3)))))), ?_⟩
    refine ⟨(by decide), fun p1 n1 => ?_⟩
    refine ⟨_, rfl, _, _, _, rfl, rfl, upd_same, (by omega), (by omega), ?_, fun e ne => ?_⟩
    · show 1 * (c : Int).toNat ≤ sizeLine
      exact Nat.le_trans (by omega : _ ≤ 8) (by decide)
    refine ⟨(by decide), fun f nf => ?_⟩
    have n2 : H e = none := (Same.new n1).free ne
    have n3 : H f = none := ((Same.new n1).trans (Same.new ne)).free nf
    have nef : e ≠ f := ne_of_none upd_same nf
    have s1 : Same H (upd (upd (upd H p1 (.lst [V.int 0])) e (.lst (List.replicate (c : Int).toNat [V.int 0]).flatten)) f (.lst [])) := ((Same.new n1).trans (Same.new ne)).trans (Same.new nf)
    have e0 : (List.replicate (c : Int).toNat [V.int 0]).flatten = (List.replicate c (0 : Int)).map V.int := by simp
    refine ⟨_, rfl, a, rfl, ⟨xs, s1.seq hS⟩, for_list (K := K) (a := a) (xs := xs) (fun i σ H' => ∃ v4 v5 v6 v7 : Option V, σ = [some (.ref a), some (.int c), some (.ref e), some (.ref f), v4, v5, v6, v7] ∧ Same H H' ∧
        H' e = some (.lst ((Sv.run c (w.take i)).1.map V.int)) ∧ H' f = some (.lst ((Sv.run c (w.take i)).2.map V.int)))
      ⟨none, none, none, none, rfl, s1, by rw [upd_ne nef, upd_same, e0]; rfl, upd_same⟩ (fun i σ H' _ ⟨_, _, _, _, _, s2, _, _⟩ => s2.seq hS) ?_ ?_⟩
    · rintro i y σ H' hi ⟨v4, v5, v6, v7, rfl, s2, he, hf⟩
      obtain ⟨d, hd, hy⟩ := dpAll_get hD hi
      obtain ⟨⟨m, h⟩, hw, rfl⟩ := map_get hd
      obtain ⟨t, rfl, ht⟩ := dp_pr (dp_same s2 _ _ hy)
      refine ⟨t, _, rfl, ht, rfl, _, _, rfl, _, _, rfl, rfl, ?_⟩
      have hlen : (Sv.run c (w.take i)).1.length = c := Sv.run_len
      refine ⟨_, rfl, e, _, rfl, SqL.of he, by omega, fun z hz1 hz2 => ?_⟩
      have hz := Sv.lo_is hz1 hz2
      subst hz
      have hlen2 : (Sv.run c (w.take i)).2.length ≤ 1000 := by
        have := Sv.run_len2 (w.take i) (List.replicate c 0, [])
        unfold Sv.run
        rw [this, List.length_take]
        simp
        omega
      walk_at "rd"
      obtain ⟨i1, i2, i3, i4⟩ := index_ints hz1
      refine ⟨e, _, _, _, _, rfl, rfl, .of he, rfl, i1, i2, i3, i4, ?_⟩
      have hj : (Sv.run c (w.take i)).1.idxOf (Sv.lo (Sv.run c (w.take i)).1) < ((Sv.run c (w.take i)).1.map V.int).length := by
        rw [List.length_map]
        exact List.idxOf_lt_length_of_mem hz1
      refine ⟨e, _, _, _, rfl, rfl, he, ixN_nat hj, ?_⟩
      have hf2 : ∀ o, upd H' e o f = some (.lst ((Sv.run c (w.take i)).2.map V.int)) := fun o => by rw [upd_ne nef.symm]; exact hf
      refine ⟨_, rfl, .inl ⟨rfl, _, .of (hf2 _)⟩, ?_⟩
      walk_at "rd"
      refine ⟨_, _, _, rfl, rfl, hf2 _, (by walk_at "sz"), ?_⟩
      have e3 : (if Sv.lo (Sv.run c (w.take i)).1 > m then Sv.lo (Sv.run c (w.take i)).1 else m) = max m (Sv.lo (Sv.run c (w.take i)).1) := by
        split <;> omega
      rw [Sv.run_more hw]
      refine ⟨_, _, _, _, rfl, Same.mut (Same.mut s2 n2) n3, ?_, ?_⟩
      · rw [upd_ne nef, upd_same]
        show some (HO.lst (((Sv.run c (w.take i)).1.map V.int).set _ (V.int ((if Sv.lo (Sv.run c (w.take i)).1 > m then Sv.lo (Sv.run c (w.take i)).1 else m) + h)))) = _
        rw [e3, ← List.map_set]
        rfl
      · rw [upd_same]
        show some (HO.lst ((Sv.run c (w.take i)).2.map V.int ++ [V.int (if Sv.lo (Sv.run c (w.take i)).1 > m then Sv.lo (Sv.run c (w.take i)).1 else m)])) = _
        rw [e3]
        show _ = some (HO.lst (((Sv.run c (w.take i)).2 ++ [max m (Sv.lo (Sv.run c (w.take i)).1)]).map V.int))
        rw [List.map_append]
        rfl
    · rintro σ H' ⟨v4, v5, v6, v7, rfl, s2, he, hf⟩
      have e1 : (w.take xs.length) = w := by
        rw [dpAll_len hD, List.length_map, List.take_length]
      rw [e1] at hf
      exact ⟨_, rfl, k _ _ n3 s2 hf⟩
abbrev sscNw : Stmt := topS 8
abbrev nscNw : List Str := ["work", "last", "at", "moment", "hold"]
theorem scNw : FnScope nscNw ["work"] (defScope sscNw) := ⟨rfl, rfl, rfl, by decide +kernel, rfl, by decide +kernel, by decide +kernel⟩
theorem ok_need {f : Addr} {fd : FuncData} (F : FunD K "need_work" "need_work" (defArgs sscNw) (defBody sscNw) (defScope sscNw) [] [] f fd) (T : TxSrv K mg) : FnOk P w K mg base CX 1 f fd ["work"] (spNeed K) := by
  refine F.ok scNw (fun vs H Q E h => ?_) (fun cdv A outer s H vs Q E hr h => ?_)
  · obtain ⟨a, w, rfl, _⟩ := h
    rfl
  · obtain ⟨a, w, rfl, ⟨xs, hS, hD⟩, hG, k⟩ := h
    have hlen : xs.length = w.length := by rw [dpAll_len hD, List.length_map]
    refine ⟨_, PSs.nox (pss_cons (ps_set (i := 1) scNw.nd rfl (Or.inl rfl) pe_int)
      (pss_one (ps_for PassesOwn.never rfl (pi_enum (by rfl) T.enumerate (pa_cons (pv 0) pa_nil)) (pg_tup rfl (pgs_cons (pg_name (i := 2) scNw.nd rfl (.inl rfl)) (pgs_cons (pg_tup rfl (pgs_cons (pg_name (i := 3) scNw.nd rfl (.inl rfl)) (pgs_cons (pg_name (i := 4) scNw.nd rfl (.inl rfl)) pgs_nil))) pgs_nil))) (pss_cons (ps_if (PW.pt (pw_or (pt_not (pt_chain (op_le) (op_le) (pv 1) (pv 3) (pe_gV rfl T.c_LATEST))) (pw_or1 (pt_not (pt_chain (op_le) (op_le) pe_int (pv 4) (pe_gV rfl T.c_MOST_HOLD)))))) (pss_one ps_never) pss_nil)
      (pss_one (ps_set (i := 1) scNw.nd rfl (Or.inl rfl) (pv 3))))))), ?_⟩
    refine ⟨_, rfl, a, xs, rfl, hS, for_it (walk_enum (K := K) (a := a) (xs := xs)) (fun i σ H' => ∃ (l : Int) (v2 v3 v4 : Option V), σ = [some (.ref a), some (.int l), v2, v3, v4] ∧ Same H H' ∧ Sv.GoodFrom l (w.drop i))
      ⟨0, none, none, none, rfl, Same.refl H, hG⟩ (fun i σ H' _ ⟨_, _, _, _, _, s2, _⟩ => s2.seq hS) ?_ ?_⟩
    · rintro i y σ H1 H2 hi ⟨l, v2, v3, v4, rfl, s2, g⟩ ⟨T1, x, z, rfl, hT, rfl, e1, e2⟩
      obtain ⟨d, hd, hy⟩ := dpAll_get hD e2
      obtain ⟨⟨m, h⟩, hw, rfl⟩ := map_get hd
      have s3 : Same H (upd H1 T1 (.tup [x, z])) := s2.trans (Same.new hT)
      obtain ⟨t, rfl, ht⟩ := dp_pr (dp_same s3 _ _ hy)
      cases e1
      have hdr : w.drop i = (m, h) :: w.drop (i + 1) := by
        obtain ⟨h1, h2⟩ := List.getElem?_eq_some_iff.mp hw
        rw [List.drop_eq_getElem_cons h1, h2]
      rw [hdr] at g
      obtain ⟨g1, g2, g3, g4, g5⟩ := g
      have g1 : l ≤ m := g1
      have g2 : m ≤ 9999 := g2
      have g3 : 0 ≤ h := g3
      have g4 : h ≤ 99 := g4
      refine ⟨T1, _, rfl, .of upd_same, rfl, _, _, rfl, _, _, rfl, ⟨t, _, rfl, ht, rfl, _, _, rfl, _, _, rfl, rfl, ?_⟩⟩
      walk_at "rd"
      exact ⟨_, _, _, _, rfl, s3, g5⟩
    · rintro σ H' ⟨l, v2, v3, v4, rfl, s2, _⟩
      exact k _ s2
abbrev sscSv : Stmt := topS 10
abbrev nscSv : List Str := ["work", "count"]
theorem scSv : FnScope nscSv ["work", "count"] (defScope sscSv) := ⟨rfl, rfl, rfl, by decide +kernel, rfl, by decide +kernel, by decide +kernel⟩
theorem ok_served {f : Addr} {fd : FuncData} (F : FunD K "served" "served" (defArgs sscSv) (defBody sscSv) (defScope sscSv) [] [] f fd) (T : TxSrv K mg)
    (G_need_work : FnG P w K mg base CX0 1 "need_work" ["work"] [] (spNeed K)) (G_starts : FnG P w K mg base CX0 1 "starts" ["work", "count"] [] (spStarts K)) : FnOk P w K mg base CX 2 f fd ["work", "count"] (spServed K) := by
  refine F.ok scSv (fun vs H Q E h => ?_) (fun cdv A outer s H vs Q E hr h => ?_)
  · obtain ⟨a, w, c, rfl, _⟩ := h
    rfl
  · obtain ⟨a, w, c, rfl, hW, hG, hc1, hc8, hl, k⟩ := h
    refine ⟨_, PSs.nox (pss_cons (ps_expr (pe_callG G_need_work (hr.mono (by decide)) rfl pass0 (pa_cons (pv 0) pa_nil)))
      (pss_cons (ps_if (pt_not (pt_chain (op_le) (op_le) pe_int (pv 1) (pe_gV rfl T.c_MOST_LINES))) (pss_one ps_never) pss_nil)
      (pss_one (ps_ret (pe_callG G_starts (hr.mono (by decide)) rfl pass0 (pa_cons (pv 0) (pa_cons (pv 1) pa_nil))))))), ?_⟩
    walk_at "rd"
    refine ⟨a, w, rfl, hW, hG, fun H1 s1 => ?_⟩
    walk_at "rd"
    exact ⟨a, w, c, rfl, hW.same s1, hc1, hc8, hl, fun H2 p n s2 h2 => k H2 p (s1.free n) (s1.trans s2) h2⟩
abbrev sscFw : Stmt := topS 11
abbrev nscFw : List Str := ["work", "longest", "count", "found", "start", "moment", "hold"]
theorem scFw : FnScope nscFw ["work", "longest"] (defScope sscFw) := ⟨rfl, rfl, rfl, by decide +kernel, rfl, by decide +kernel, by decide +kernel⟩
theorem ok_fewest {f : Addr} {fd : FuncData} (F : FunD K "fewest" "fewest" (defArgs sscFw) (defBody sscFw) (defScope sscFw) [] [] f fd) (T : TxSrv K mg)
    (G_need_work : FnG P w K mg base CX0 1 "need_work" ["work"] [] (spNeed K)) (G_starts : FnG P w K mg base CX0 1 "starts" ["work", "count"] [] (spStarts K)) : FnOk P w K mg base CX 2 f fd ["work", "longest"] (spFewest K) := by
  refine F.ok scFw (fun vs H Q E h => ?_) (fun cdv A outer s H vs Q E hr h => ?_)
  · obtain ⟨a, w, l, rfl, _⟩ := h
    rfl
  · obtain ⟨a, w, l, rfl, hW, hG, hl, k⟩ := h
    refine ⟨_, PSs.nox (pss_cons (ps_expr (pe_callG G_need_work (hr.mono (by decide)) rfl pass0 (pa_cons (pv 0) pa_nil)))
      (pss_cons (ps_for PassesOwn.never rfl (pi_range2 (by rfl) T.range (pa_cons pe_int (pa_cons (pe_op op_add (pe_gV rfl T.c_MOST_LINES) pe_int) pa_nil))) (pg_name (i := 2) scFw.nd rfl (.inl rfl)) (pss_cons (ps_set (i := 3) scFw.nd rfl (Or.inl rfl) (pe_callG G_starts (hr.mono (by decide)) rfl pass0 (pa_cons (pv 0) (pa_cons (pv 2) pa_nil))))
      (pss_one (ps_if (pt_cmpR (op_eqD hr.units) (pe_lc (own := [("start", 4), ("moment", 5), ("hold", 6)]) (g := (gTup K 2 (gCons (gTup K 2 (gCons (gName 5) (gCons (gName 6) gNil))) (gCons (gName 4) gNil)))) (tt := (tTest (tOp (rI0 fun i j => .bl (decide (j < i))) (tOp (rI0 fun i j => .int (i - j)) (tVar 4) (tVar 5)) (tVar 1)))) (te := (tC (.int 1))) rfl scFw.nd (pi_zip (by rfl) T.zip (pa_cons (pv 0) (pa_cons (pv 3) pa_nil))) (blkOk_by (N := nscFw) (sc := defScope sscFw) (by decide +kernel)) (fun _ _ _ _ _ => (pg_tup rfl (pgs_cons (pg_tup rfl (pgs_cons (pg_name (i := 5) scFw.nd rfl (.inl rfl)) (pgs_cons (pg_name (i := 6) scFw.nd rfl (.inl rfl)) pgs_nil))) (pgs_cons (pg_name (i := 4) scFw.nd rfl (.inl rfl)) pgs_nil)))) (fun _ _ _ _ _ => (pts_one (pt_cmpR (op_gt) (pe_op op_sub (pv 4) (pv 5)) (pv 1) (nomark _)))) (fun _ _ _ _ _ => pe_int)) (pe_lst pa_nil) (nomark _)) (pss_one (ps_ret (pv 2))) pss_nil))))
      (pss_one (ps_ret pe_non)))), ?_⟩
    walk_at "rd"
    refine ⟨a, w, rfl, hW, hG, fun H1 s1 => ?_⟩
    walk_at "rd"
    have hn : (((8 : Int) + 1 - 1).toNat) = 8 := by decide
    refine ⟨by decide, for_range (lo := 1) (n := ((8 : Int) + 1 - 1).toNat) (fun i σ H' => ∃ v2 v3 : Option V, σ = [some (.ref a), some (.int l), v2, v3, none, none, none] ∧ Same H H' ∧ ∀ c, 1 ≤ c → c ≤ i → Sv.fits w l c = false)
      ⟨none, none, rfl, s1, fun c h1 h2 => by omega⟩ ?_ ?_⟩
    · rintro i σ H2 hi ⟨v2, v3, rfl, s2, hf⟩
      have hi8 : i < 8 := by omega
      walk_at "rd"
      refine ⟨a, w, i + 1, congrArg (fun z : Int => [V.ref a, V.int z]) (by omega), hW.same s2, by omega, by omega, hl, fun H3 p np s3 hp => ?_⟩
      obtain ⟨xs, hS, hD⟩ := hW.same (s2.trans s3)
      have hxl : xs.length = w.length := by rw [dpAll_len hD, List.length_map]
      walk_at "rd"
      have hsl : ((Sv.starts (i + 1) w).map V.int).length = w.length := by rw [List.length_map, Sv.starts_len]
      refine ⟨a, p, xs, _, rfl, hS, .of hp, fun D nD => lc_pure (walk_zip (n := w.length) (by rw [hsl, hxl]; simp)) (tooLate w (Sv.starts (i + 1) w) l) nD (by omega) (fun H4 s4 => ⟨s4.seq hS, s4.seq (.of hp)⟩) ?_ ?_⟩
      · rintro j x H4 H5 Qy Qn hj s4 ⟨T1, x1, z1, rfl, hT, rfl, e1, e2⟩ hy hn'
        obtain ⟨d, hd, hyd⟩ := dpAll_get hD e1
        obtain ⟨⟨m, h⟩, hw, rfl⟩ := map_get hd
        obtain ⟨s, hs, rfl⟩ := map_get e2
        obtain ⟨t, rfl, ht⟩ := dp_pr (dp_same (s4.trans (Same.new (o := .tup [x1, .int s]) hT)) _ _ hyd)
        refine ⟨T1, _, rfl, .of upd_same, rfl, _, _, rfl, ⟨t, _, rfl, ht, rfl, _, _, rfl, _, _, rfl, rfl, _, _, rfl, rfl, rfl, ?_⟩⟩
        walk_at "rd"
        have hlt : Sv.late w (Sv.starts (i + 1) w) l j = decide (l < s - m) := by
          unfold Sv.late
          rw [hw, hs]
        refine iteD (fun hc => hy _ _ ?_ (Same.new hT)) (fun hc => hn' _ ?_ (Same.new hT))
        · unfold tooLate
          rw [hlt, decide_eq_true hc]
          rfl
        · unfold tooLate
          rw [hlt, decide_eq_false hc]
          rfl
      · intro H4 s4 hD4
        have e1 : (List.range w.length).filterMap (tooLate w (Sv.starts (i + 1) w) l) = (List.replicate ((List.range w.length).countP (Sv.late w (Sv.starts (i + 1) w) l)) (1 : Int)).map V.int := by
          rw [List.map_replicate]
          exact Sv.ones _
        rw [e1] at hD4
        refine ⟨by decide, fun q nq => ?_⟩
        have hq : Dp K (upd H4 q (.lst [])) (.ref q) (inD []) := dp_ints (l := []) (.of upd_same)
        refine ⟨_, _, dp_ints (.of (Same.new nq _ _ hD4)), hq, shaped_inD _, shaped_inD _, ?_⟩
        rw [eqv_ints]
        have s5 := ((s2.trans s3).trans s4).trans (Same.new (o := .lst []) nq)
        refine ⟨_, rfl, iteD (fun hc => ?_) (fun hc => ?_)⟩
        · have hfit : Sv.fits w l (i + 1) = true := Sv.fits_iff.mpr (by
            have := congrArg List.length hc
            simpa using this)
          walk_at "rd"
          have ef := Sv.fewest_some (w := w) (l := l) (c := i + 1) (by omega) (by omega) hfit fun d h1 h2 => hf d h1 (by omega)
          have kk := k _ s5
          rw [ef] at kk
          have ec : (1 : Int) + i = ((i + 1 : Nat) : Int) := by omega
          rw [ec]
          exact kk
        · have hfit : Sv.fits w l (i + 1) = false := by
            cases q2 : Sv.fits w l (i + 1) with
            | false => rfl
            | true =>
              refine absurd ?_ hc
              rw [Sv.fits_iff.mp q2]
              rfl
          refine ⟨_, _, rfl, s5, fun c h1 h2 => ?_⟩
          by_cases hc2 : c = i + 1
          · rw [hc2]
            exact hfit
          · exact hf c h1 (by omega)
    · rintro σ H2 ⟨v2, v3, rfl, s2, hf⟩
      rw [hn] at hf
      have ef := Sv.fewest_none (w := w) (l := l) hf
      have kk := k _ s2
      rw [ef] at kk
      exact kk
end
end Ll

namespace Sv
/-! ### ends as bags: what counts is what they are, cut below by the moment -/
theorem set_perm : ∀ {l : List Int} {a b : Int}, a ∈ l → (l.set (l.idxOf a) b).Perm (b :: l.erase a)
  | [], a, b, h => by cases h
  | c :: l, a, b, h => by
    by_cases e : c = a
    · subst e
      simp
    · have hm : a ∈ l := by
        rcases List.mem_cons.mp h with q | q
        · exact absurd q.symm e
        · exact q
      have hb : (c == a) = false := by simpa using e
      rw [List.idxOf_cons, hb]
      show (c :: l.set (l.idxOf a) b).Perm (b :: (c :: l).erase a)
      rw [List.erase_cons, hb]
      exact ((set_perm hm).cons c).trans (List.Perm.swap b c _)
/-- l's numbers, none less than m -/
def cl (m : Int) (l : List Int) : List Int := l.map (max m)
theorem lo_perm {a b : List Int} (h : a.Perm b) : lo a = lo b := by
  by_cases hl : 0 < a.length
  · have h1 := lo_mem hl
    exact lo_is ((h.mem_iff).mpr (lo_mem (by rw [← h.length_eq]; exact hl))) fun y hy => lo_le ((h.mem_iff).mp hy)
  · have ea : a = [] := List.length_eq_zero_iff.mp (by omega)
    subst ea
    rw [h.symm.eq_nil]
theorem lo_cl {m : Int} {l : List Int} (h : 0 < l.length) : lo (cl m l) = max m (lo l) := by
  refine lo_is (List.mem_map.mpr ⟨_, lo_mem h, rfl⟩) fun y hy => ?_
  obtain ⟨z, hz, rfl⟩ := List.mem_map.mp hy
  have := lo_le hz
  omega
theorem cl_cl {m m' : Int} (h : m ≤ m') (l : List Int) : cl m' (cl m l) = cl m' l := by
  unfold cl
  rw [List.map_map]
  exact List.map_congr_left fun x _ => by show max m' (max m x) = max m' x; omega
/-- a step's ends -/
def nx (l : List Int) (p : Int × Int) : List Int := l.set (l.idxOf (lo l)) (max p.1 (lo l) + p.2)
theorem nx_perm {l : List Int} {p : Int × Int} (h : 0 < l.length) : (nx l p).Perm ((max p.1 (lo l) + p.2) :: l.erase (lo l)) := set_perm (lo_mem h)
theorem nx_len {l : List Int} {p : Int × Int} : (nx l p).length = l.length := by
  unfold nx
  rw [List.length_set]
theorem cl_split {m : Int} {l : List Int} (h : 0 < l.length) : (cl m l).Perm (max m (lo l) :: cl m (l.erase (lo l))) :=
  (List.perm_cons_erase (lo_mem h)).map _
theorem cl_nx {l : List Int} {p : Int × Int} (h : 0 < l.length) (hp : 0 ≤ p.2) : (cl p.1 (nx l p)).Perm ((max p.1 (lo l) + p.2) :: cl p.1 (l.erase (lo l))) := by
  have q := (nx_perm (p := p) h).map (max p.1)
  have e : (((max p.1 (lo l) + p.2) :: l.erase (lo l)).map (max p.1)) = (max p.1 (lo l) + p.2) :: cl p.1 (l.erase (lo l)) := by
    show max p.1 (max p.1 (lo l) + p.2) :: _ = _
    rw [show max p.1 (max p.1 (lo l) + p.2) = max p.1 (lo l) + p.2 by omega]
    rfl
  rw [e] at q
  exact q
/-- the same bag, cut at m -/
def Alike (m : Int) (a b : List Int) : Prop := (cl m a).Perm (cl m b)
theorem Alike.later {m m' : Int} {a b : List Int} (h : Alike m a b) (hm : m ≤ m') : Alike m' a b := by
  have q := h.map (max m')
  have e1 := cl_cl hm a
  have e2 := cl_cl hm b
  unfold cl at e1 e2
  unfold Alike cl
  rw [← e1, ← e2]
  exact q
theorem Alike.len {m : Int} {a b : List Int} (h : Alike m a b) : a.length = b.length := by
  have q := h.length_eq
  simpa [cl] using q
theorem Alike.lo {m : Int} {a b : List Int} (h : Alike m a b) (hl : 0 < a.length) : max m (lo a) = max m (lo b) := by
  rw [← lo_cl hl, ← lo_cl (by rw [← h.len]; exact hl), lo_perm h]
theorem Alike.nx {p : Int × Int} {a b : List Int} (h : Alike p.1 a b) (hl : 0 < a.length) (hp : 0 ≤ p.2) : Alike p.1 (nx a p) (nx b p) := by
  have hb : 0 < b.length := by rw [← h.len]; exact hl
  have e := h.lo hl
  have q1 := (cl_split (m := p.1) hl).symm.trans (h.trans (cl_split (m := p.1) hb))
  rw [e] at q1
  have q2 := List.Perm.cons_inv q1
  refine (cl_nx hl hp).trans (List.Perm.trans ?_ (cl_nx hb hp).symm)
  rw [e]
  exact q2.cons _
/-- one held for nothing changes nothing -/
theorem Alike.zero {m : Int} {a b : List Int} (h : Alike m a b) (hl : 0 < a.length) : Alike m (Sv.nx a (m, 0)) b := by
  refine List.Perm.trans (cl_nx (p := (m, 0)) hl (by show (0 : Int) ≤ 0; decide)) ?_
  show ((max m (Sv.lo a) + 0) :: cl m (a.erase (Sv.lo a))).Perm _
  rw [Int.add_zero]
  exact (cl_split hl).symm.trans h
/-- starts from ends -/
def startsE : List Int → List (Int × Int) → List Int
  | _, [] => []
  | l, p :: w => max p.1 (lo l) :: startsE (nx l p) w
theorem foldl_starts : ∀ (w : List (Int × Int)) (s : List Int × List Int), (w.foldl step s).2 = s.2 ++ startsE s.1 w
  | [], s => by simp [startsE]
  | p :: w, s => by
    show (w.foldl step (step s p)).2 = _
    rw [foldl_starts w (step s p)]
    show (s.2 ++ [max p.1 (lo s.1)]) ++ startsE (nx s.1 p) w = s.2 ++ (max p.1 (lo s.1) :: startsE (nx s.1 p) w)
    rw [List.append_assoc]
    rfl
theorem starts_eq (c : Nat) (w : List (Int × Int)) : starts c w = startsE (List.replicate c 0) w := by
  unfold starts run
  rw [foldl_starts]
  rfl
theorem startsE_alike : ∀ (w : List (Int × Int)) (m : Int) (a b : List Int), Alike m a b → 0 < a.length → GoodFrom m w → startsE a w = startsE b w
  | [], _, _, _, _, _, _ => rfl
  | p :: w, m, a, b, h, hl, g => by
    obtain ⟨g1, g2, g3, g4, g5⟩ := g
    have h1 := h.later g1
    have h2 := h1.nx hl g3
    show max p.1 (lo a) :: startsE (nx a p) w = max p.1 (lo b) :: startsE (nx b p) w
    rw [h1.lo hl, startsE_alike w p.1 _ _ h2 (by rw [nx_len]; exact hl) g5]
/-- works with such of hold nothing put in: (work, is it one of the first) -/
def pickT (st : List Int) (mo : List ((Int × Int) × Bool)) : List Int := ((List.zip st mo).filter fun q => q.2.2).map (·.1)
theorem pick_starts : ∀ (mo : List ((Int × Int) × Bool)) (m : Int) (a b : List Int), Alike m a b → 0 < a.length → GoodFrom m (mo.map (·.1)) → (∀ x ∈ mo, x.2 = false → x.1.2 = 0) →
    pickT (startsE a (mo.map (·.1))) mo = startsE b ((mo.filter (·.2)).map (·.1))
  | [], _, _, _, _, _, _, _ => rfl
  | (p, t) :: mo, m, a, b, h, hl, g, hz => by
    obtain ⟨g1, g2, g3, g4, g5⟩ := g
    have g1 : m ≤ p.1 := g1
    have h1 := h.later g1
    have hla : 0 < (nx a p).length := by rw [nx_len]; exact hl
    have hz' : ∀ x ∈ mo, x.2 = false → x.1.2 = 0 := fun x hx => hz x (List.mem_cons_of_mem _ hx)
    cases t with
    | true =>
      have ih := pick_starts mo p.1 _ _ (h1.nx hl g3) hla g5 hz'
      show max p.1 (lo a) :: pickT (startsE (nx a p) (mo.map (·.1))) mo = max p.1 (lo b) :: startsE (nx b p) ((mo.filter (·.2)).map (·.1))
      rw [h1.lo hl, ih]
    | false =>
      have e0 : p.2 = 0 := hz (p, false) List.mem_cons_self rfl
      have ep : p = (p.1, 0) := by rw [← e0]
      have h2 : Alike p.1 (nx a p) b := by
        have q := h1.zero hl
        rw [← ep] at q
        exact q
      show pickT (startsE (nx a p) (mo.map (·.1))) mo = startsE b ((mo.filter (·.2)).map (·.1))
      exact pick_starts mo p.1 _ _ h2 hla g5 hz'
/-- all at one moment with one hold -/
theorem cl_same : ∀ (n : Nat) (c : Nat) (q r : Nat) (m h : Int) (a : List Int), 0 < c → r < c → 0 ≤ m → 0 ≤ h → a.length = c → (cl m a).Perm (List.replicate (c - r) (m + q * h) ++ List.replicate r (m + (q + 1) * h)) →
    startsE a (List.replicate n (m, h)) = (List.range n).map fun k => m + (((q * c + r + k) / c : Nat) : Int) * h
  | 0, _, _, _, _, _, _, _, _, _, _, _, _ => rfl
  | n + 1, c, q, r, m, h, a, hc, hr, hm, hh, hl, hp => by
    have hl0 : 0 < a.length := by omega
    have hqh : 0 ≤ (q : Int) * h := Int.mul_nonneg (by omega) hh
    have hmul : ((q : Int) + 1) * h = (q : Int) * h + h := by rw [Int.add_mul, Int.one_mul]
    have elo : max m (lo a) = m + (q : Int) * h := by
      rw [← lo_cl hl0, lo_perm hp]
      refine lo_is (List.mem_append.mpr (.inl (List.mem_replicate.mpr ⟨by omega, rfl⟩))) fun y hy => ?_
      rcases List.mem_append.mp hy with z | z
      · rw [(List.mem_replicate.mp z).2]
        exact Int.le_refl _
      · rw [(List.mem_replicate.mp z).2, hmul]
        omega
    have hs : (cl m (nx a (m, h))).Perm ((m + (q : Int) * h + h) :: (List.replicate (c - r - 1) (m + (q : Int) * h) ++ List.replicate r (m + ((q : Int) + 1) * h))) := by
      have q1 := cl_nx (p := (m, h)) hl0 hh
      have q1 : (cl m (nx a (m, h))).Perm ((max m (lo a) + h) :: cl m (a.erase (lo a))) := q1
      have q2 := (cl_split (m := m) hl0).symm.trans hp
      rw [elo] at q1 q2
      rw [show c - r = (c - r - 1) + 1 by omega, List.replicate_succ, List.cons_append] at q2
      exact q1.trans ((List.Perm.cons_inv q2).cons _)
    have ediv : (q * c + r + 0) / c = q := by
      rw [Nat.add_zero, Nat.mul_comm, Nat.mul_add_div hc, Nat.div_eq_of_lt hr, Nat.add_zero]
    have tail : startsE (nx a (m, h)) (List.replicate n (m, h)) = (List.range n).map fun k => m + (((q * c + (r + 1) + k) / c : Nat) : Int) * h := by
      by_cases hr1 : r + 1 < c
      · refine cl_same n c q (r + 1) m h _ hc hr1 hm hh (by rw [nx_len]; exact hl) (hs.trans ?_)
        rw [show c - (r + 1) = c - r - 1 by omega, List.replicate_succ, hmul, Int.add_assoc]
        exact List.perm_middle.symm
      · have hcr : c = r + 1 := by omega
        have q3 := cl_same n c (q + 1) 0 m h (nx a (m, h)) hc hc hm hh (by rw [nx_len]; exact hl) (hs.trans (by
          rw [show c - r - 1 = 0 by omega]
          show ((m + (q : Int) * h + h) :: List.replicate r (m + ((q : Int) + 1) * h)).Perm (List.replicate c (m + ((q + 1 : Nat) : Int) * h) ++ [])
          rw [List.append_nil, hcr, List.replicate_succ, show ((q + 1 : Nat) : Int) = (q : Int) + 1 by omega, hmul, Int.add_assoc]))
        rw [q3]
        refine List.map_congr_left fun k _ => ?_
        rw [show (q + 1) * c + 0 + k = q * c + (r + 1) + k by rw [Nat.add_mul]; omega]
    rw [List.range_succ_eq_map, List.map_cons, List.map_map, ediv]
    show max m (lo a) :: startsE (nx a (m, h)) (List.replicate n (m, h)) = _
    rw [elo, tail]
    congr 1
    refine List.map_congr_left fun k _ => ?_
    show m + (((q * c + (r + 1) + k) / c : Nat) : Int) * h = m + (((q * c + r + (k + 1)) / c : Nat) : Int) * h
    rw [show q * c + (r + 1) + k = q * c + r + (k + 1) by omega]
theorem starts_same {c n : Nat} {m h : Int} (hc : 0 < c) (hm : 0 ≤ m) (hh : 0 ≤ h) : starts c (List.replicate n (m, h)) = (List.range n).map fun k => m + ((k / c : Nat) : Int) * h := by
  rw [starts_eq, cl_same n c 0 0 m h _ hc hc hm hh (by simp) (by
    unfold cl
    rw [List.map_replicate]
    have e1 : max m 0 = m + ((0 : Nat) : Int) * h := by
      rw [show ((0 : Nat) : Int) = 0 from rfl, Int.zero_mul]
      omega
    rw [e1]
    simp)]
  refine List.map_congr_left fun k _ => ?_
  rw [Nat.zero_mul, Nat.zero_add]
/-- the fewest of such -/
theorem late_same {c n : Nat} {m h l : Int} {k : Nat} (hc : 0 < c) (hm : 0 ≤ m) (hh : 0 ≤ h) (hk : k < n) : late (List.replicate n (m, h)) (starts c (List.replicate n (m, h))) l k = decide (l < ((k / c : Nat) : Int) * h) := by
  unfold late
  rw [starts_same hc hm hh, List.getElem?_replicate, if_pos hk, List.getElem?_map, List.getElem?_range hk]
  show decide (l < m + ((k / c : Nat) : Int) * h - m) = _
  congr 1
  rw [show m + ((k / c : Nat) : Int) * h - m = ((k / c : Nat) : Int) * h by omega]
theorem fits_same {c n : Nat} {m h : Int} (hc : 0 < c) (hm : 0 ≤ m) (hh : 0 ≤ h) : fits (List.replicate n (m, h)) (3 * h) c = decide (h = 0 ∨ n ≤ 4 * c) := by
  have hf : fits (List.replicate n (m, h)) (3 * h) c = true ↔ (h = 0 ∨ n ≤ 4 * c) := by
    unfold fits
    rw [List.all_eq_true, List.length_replicate]
    constructor
    · intro q
      by_cases h0 : h = 0
      · exact .inl h0
      · refine .inr ?_
        by_cases hn : n ≤ 4 * c
        · exact hn
        · have hk : 4 * c < n := by omega
          have q1 := q (4 * c) (List.mem_range.mpr hk)
          rw [late_same hc hm hh hk, Nat.mul_div_cancel _ hc] at q1
          have q2 : ¬ (3 * h < ((4 : Nat) : Int) * h) := by simpa using q1
          exact absurd (show (3 : Int) * h < ((4 : Nat) : Int) * h by omega) q2
    · intro q k hk
      have hk := List.mem_range.mp hk
      rw [late_same hc hm hh hk]
      rcases q with q | q
      · subst q
        simp
      · have h4 : k / c ≤ 3 := by
          have : k / c < 4 := (Nat.div_lt_iff_lt_mul hc).mpr (by omega)
          omega
        have h5 : ((k / c : Nat) : Int) * h ≤ 3 * h := Int.mul_le_mul_of_nonneg_right (by omega) hh
        have h6 : ¬ (3 * h < ((k / c : Nat) : Int) * h) := by omega
        rw [decide_eq_false h6]
        rfl
  by_cases z : h = 0 ∨ n ≤ 4 * c
  · rw [decide_eq_true z]
    exact hf.mpr z
  · rw [decide_eq_false z]
    cases q : fits (List.replicate n (m, h)) (3 * h) c with
    | false => rfl
    | true => exact absurd (hf.mp q) z
theorem fewest_zero {n : Nat} {m : Int} (hm : 0 ≤ m) : fewest (List.replicate n (m, 0)) 0 = some 1 :=
  fewest_some (by decide) (by decide) (by
    have := fits_same (c := 1) (n := n) (m := m) (h := 0) (by decide) hm (Int.le_refl 0)
    rw [Int.mul_zero] at this
    rw [this]
    simp) fun d h1 h2 => by omega
theorem fewest_few {n : Nat} {m h : Int} (hm : 0 ≤ m) (hh : 0 < h) (hn : n ≤ 32) : fewest (List.replicate n (m, h)) (3 * h) = some (max 1 ((n + 3) / 4)) := by
  refine fewest_some (by omega) (by omega) ?_ fun d h1 h2 => ?_
  · rw [fits_same (by omega) hm (by omega)]
    exact decide_eq_true (.inr (by omega))
  · rw [fits_same (by omega) hm (by omega)]
    exact decide_eq_false (by
      rintro (z | z)
      · omega
      · omega)
theorem fewest_many {n : Nat} {m h : Int} (hm : 0 ≤ m) (hh : 0 < h) (hn : 32 < n) : fewest (List.replicate n (m, h)) (3 * h) = none := by
  refine fewest_none fun d h1 h2 => ?_
  rw [fits_same (by omega) hm (by omega)]
  exact decide_eq_false (by
    rintro (z | z)
    · omega
    · omega)
end Sv

namespace Sv
/-! ### more lines, shorter holds: nobody later -/
def cnt (t : Int) (l : List Int) : Nat := l.countP fun x => decide (x ≤ t)
/-- l has at any time as many free as l' -/
def Dom (l l' : List Int) : Prop := ∀ t, cnt t l' ≤ cnt t l
theorem cnt_perm {t : Int} {a b : List Int} (h : a.Perm b) : cnt t a = cnt t b := h.countP_eq _
theorem cnt_cons {t x : Int} {l : List Int} : cnt t (x :: l) = cnt t l + (if x ≤ t then 1 else 0) := by
  unfold cnt
  rw [List.countP_cons]
  simp
theorem cnt_split {t : Int} {l : List Int} (h : 0 < l.length) : cnt t l = cnt t (l.erase (lo l)) + (if lo l ≤ t then 1 else 0) := by
  rw [cnt_perm (List.perm_cons_erase (lo_mem h)), cnt_cons]
theorem cnt_nx {t : Int} {l : List Int} {p : Int × Int} (h : 0 < l.length) : cnt t (nx l p) = cnt t (l.erase (lo l)) + (if max p.1 (lo l) + p.2 ≤ t then 1 else 0) := by
  rw [cnt_perm (nx_perm h), cnt_cons]
theorem cnt_zero {t : Int} {l : List Int} (h : t < lo l) : cnt t l = 0 := by
  unfold cnt
  rw [List.countP_eq_zero]
  intro x hx
  have := lo_le hx
  simp
  omega
theorem cnt_pos {t : Int} {l : List Int} (h : 0 < cnt t l) : lo l ≤ t := by
  unfold cnt at h
  obtain ⟨x, hx, hp⟩ := List.countP_pos_iff.mp h
  have := lo_le hx
  have hp : x ≤ t := of_decide_eq_true hp
  omega
theorem Dom.lo {l l' : List Int} (h : Dom l l') (hl : 0 < l'.length) : lo l ≤ Sv.lo l' := by
  refine cnt_pos (Nat.lt_of_lt_of_le ?_ (h (Sv.lo l')))
  rw [cnt_split hl, if_pos (Int.le_refl _)]
  omega
theorem Dom.step {l l' : List Int} {m h h' : Int} (d : Dom l l') (hl : 0 < l.length) (hl' : 0 < l'.length) (h0 : 0 ≤ h) (hh : h ≤ h') : Dom (nx l (m, h)) (nx l' (m, h')) := by
  intro t
  have e := d.lo hl'
  have q := d t
  rw [cnt_nx hl, cnt_nx hl']
  rw [cnt_split hl, cnt_split hl'] at q
  show cnt t (l'.erase (Sv.lo l')) + (if max m (Sv.lo l') + h' ≤ t then 1 else 0) ≤ cnt t (l.erase (Sv.lo l)) + (if max m (Sv.lo l) + h ≤ t then 1 else 0)
  by_cases c1 : Sv.lo l' ≤ t
  · rw [if_pos c1, if_pos (by omega)] at q
    have q2 : cnt t (l'.erase (Sv.lo l')) ≤ cnt t (l.erase (Sv.lo l)) := by omega
    by_cases c2 : max m (Sv.lo l') + h' ≤ t
    · rw [if_pos c2, if_pos (by omega)]
      omega
    · rw [if_neg c2]
      omega
  · have z := cnt_zero (t := t) (l := l') (by omega)
    rw [cnt_split hl'] at z
    rw [if_neg (by omega : ¬ max m (Sv.lo l') + h' ≤ t)]
    omega
/-- one work less -/
theorem Dom.skip {l l' : List Int} {p : Int × Int} (d : Dom l l') (hl' : 0 < l'.length) (h0 : 0 ≤ p.2) : Dom l (nx l' p) := by
  intro t
  have q := d t
  rw [cnt_nx hl']
  rw [cnt_split hl'] at q
  by_cases c2 : max p.1 (Sv.lo l') + p.2 ≤ t
  · rw [if_pos c2]
    rw [if_pos (by omega)] at q
    exact q
  · rw [if_neg c2]
    omega
/-- pointwise no greater -/
def LeAll : List Int → List Int → Prop
  | [], [] => True
  | a :: x, b :: y => a ≤ b ∧ LeAll x y
  | _, _ => False
theorem LeAll.at : ∀ {x y : List Int} {i : Nat} {a b : Int}, LeAll x y → x[i]? = some a → y[i]? = some b → a ≤ b
  | [], [], i, a, b, _, h, _ => by simp at h
  | a0 :: x, b0 :: y, 0, a, b, ⟨h1, _⟩, e1, e2 => by
    simp at e1 e2
    omega
  | a0 :: x, b0 :: y, i + 1, a, b, ⟨_, h2⟩, e1, e2 => LeAll.at (i := i) h2 (by simpa using e1) (by simpa using e2)
theorem LeAll.len : ∀ {x y : List Int}, LeAll x y → x.length = y.length
  | [], [], _ => rfl
  | _ :: x, _ :: y, ⟨_, h⟩ => by simp [LeAll.len h]
/-- the same works with shorter holds -/
def Shorter : List (Int × Int) → List (Int × Int) → Prop
  | [], [] => True
  | p :: x, q :: y => p.1 = q.1 ∧ 0 ≤ p.2 ∧ p.2 ≤ q.2 ∧ Shorter x y
  | _, _ => False
theorem dom_starts : ∀ {w w' : List (Int × Int)} {l l' : List Int}, Dom l l' → 0 < l.length → 0 < l'.length → Shorter w w' → LeAll (startsE l w) (startsE l' w')
  | [], [], _, _, _, _, _, _ => trivial
  | (m, h) :: w, (m', h') :: w', l, l', d, hl, hl', ⟨e1, e2, e3, e4⟩ => by
    have e1 : m = m' := e1
    subst e1
    have := d.lo hl'
    refine ⟨?_, dom_starts (d.step (m := m) hl hl' e2 e3) (by rw [nx_len]; exact hl) (by rw [nx_len]; exact hl') e4⟩
    show max m (lo l) ≤ max m (lo l')
    omega
theorem shorter_refl : ∀ {w : List (Int × Int)} {l : Int}, GoodFrom l w → Shorter w w
  | [], _, _ => trivial
  | _ :: _, _, ⟨_, _, g3, _, g5⟩ => ⟨rfl, g3, Int.le_refl _, shorter_refl g5⟩
theorem dom_more (c : Nat) : Dom (List.replicate (c + 1) 0) (List.replicate c 0) := fun t => by
  rw [List.replicate_succ, cnt_cons]
  omega
theorem dom_refl (l : List Int) : Dom l l := fun _ => Nat.le_refl _
theorem more_lines {c : Nat} {w : List (Int × Int)} (hc : 0 < c) (g : Good w) : LeAll (starts (c + 1) w) (starts c w) := by
  rw [starts_eq, starts_eq]
  exact dom_starts (dom_more c) (by simp) (by simp; omega) (shorter_refl g)
theorem shorter_holds {c : Nat} {w w' : List (Int × Int)} (hc : 0 < c) (h : Shorter w w') : LeAll (starts c w) (starts c w') := by
  rw [starts_eq, starts_eq]
  exact dom_starts (dom_refl _) (by simp; omega) (by simp; omega) h
/-- without the k-th -/
theorem without : ∀ {w : List (Int × Int)} {l l' : List Int} {m : Int} (k : Nat), Dom l l' → 0 < l.length → 0 < l'.length → GoodFrom m w → k < w.length → LeAll (startsE l (w.eraseIdx k)) ((startsE l' w).eraseIdx k)
  | [], _, _, _, k, _, _, _, _, hk => by simp at hk
  | (p, h) :: w, l, l', m, 0, d, hl, hl', ⟨g1, g2, g3, g4, g5⟩, _ => by
    show LeAll (startsE l w) (startsE (nx l' (p, h)) w)
    exact dom_starts (d.skip hl' g3) hl (by rw [nx_len]; exact hl') (shorter_refl g5)
  | (p, h) :: w, l, l', m, k + 1, d, hl, hl', ⟨g1, g2, g3, g4, g5⟩, hk => by
    have := d.lo hl'
    show LeAll (max p (lo l) :: startsE (nx l (p, h)) (w.eraseIdx k)) (max p (lo l') :: (startsE (nx l' (p, h)) w).eraseIdx k)
    refine ⟨by omega, without k (d.step (m := p) hl hl' g3 (Int.le_refl _)) (by rw [nx_len]; exact hl) (by rw [nx_len]; exact hl') g5 (by simpa using hk)⟩
theorem one_less {c : Nat} {w : List (Int × Int)} (hc : 0 < c) (g : Good w) {k : Nat} (hk : k < w.length) : LeAll (starts c (w.eraseIdx k)) ((starts c w).eraseIdx k) := by
  rw [starts_eq, starts_eq]
  exact without k (dom_refl _) (by simp; omega) (by simp; omega) g hk
/-! ### in turn; no sooner than wanted -/
theorem lo_nx {l : List Int} {p : Int × Int} (h : 0 < l.length) (hp : 0 ≤ p.2) : lo l ≤ lo (nx l p) := by
  have hm := lo_mem (l := nx l p) (by rw [nx_len]; exact h)
  have hm := (nx_perm (p := p) h).mem_iff.mp hm
  rcases List.mem_cons.mp hm with e | e
  · omega
  · exact lo_le (List.mem_of_mem_erase e)
theorem startsE_low : ∀ {w : List (Int × Int)} {l : List Int} {m : Int}, 0 < l.length → GoodFrom m w → ∀ s ∈ startsE l w, max m (lo l) ≤ s
  | [], _, _, _, _, s, hs => by cases hs
  | p :: w, l, m, hl, ⟨g1, g2, g3, g4, g5⟩, s, hs => by
    rcases List.mem_cons.mp hs with e | e
    · omega
    · have h1 := startsE_low (by rw [nx_len]; exact hl) g5 s e
      have h2 := lo_nx (p := p) hl g3
      omega
theorem startsE_sorted : ∀ {w : List (Int × Int)} {l : List Int} {m : Int}, 0 < l.length → GoodFrom m w → (startsE l w).Pairwise (· ≤ ·)
  | [], _, _, _, _ => List.Pairwise.nil
  | p :: w, l, m, hl, ⟨g1, g2, g3, g4, g5⟩ => by
    refine List.Pairwise.cons (fun s hs => ?_) (startsE_sorted (by rw [nx_len]; exact hl) g5)
    have h1 := startsE_low (by rw [nx_len]; exact hl) g5 s hs
    have h2 := lo_nx (p := p) hl g3
    omega
theorem starts_sorted {c : Nat} {w : List (Int × Int)} (hc : 0 < c) (g : Good w) : (starts c w).Pairwise (· ≤ ·) := by
  rw [starts_eq]
  exact startsE_sorted (by simp; omega) g
theorem startsE_wanted : ∀ {w : List (Int × Int)} {l : List Int} {i : Nat} {s : Int} {p : Int × Int}, (startsE l w)[i]? = some s → w[i]? = some p → p.1 ≤ s
  | [], _, _, _, _, h, _ => by simp [startsE] at h
  | q :: w, l, 0, s, p, h, h2 => by
    simp [startsE] at h h2
    subst h2
    omega
  | q :: w, l, i + 1, s, p, h, h2 => startsE_wanted (w := w) (l := nx l q) (i := i) (by simpa [startsE] using h) (by simpa using h2)
theorem starts_wanted {c : Nat} {w : List (Int × Int)} {i : Nat} {s : Int} {p : Int × Int} (h : (starts c w)[i]? = some s) (h2 : w[i]? = some p) : p.1 ≤ s := by
  rw [starts_eq] at h
  exact startsE_wanted h h2
/-! ### so many at most are held at any moment -/
def over (t : Int) (l : List Int) : Nat := l.countP fun x => decide (t < x)
theorem over_perm {t : Int} {a b : List Int} (h : a.Perm b) : over t a = over t b := h.countP_eq _
theorem over_cons {t x : Int} {l : List Int} : over t (x :: l) = over t l + (if t < x then 1 else 0) := by
  unfold over
  rw [List.countP_cons]
  simp
theorem over_nx {t : Int} {l : List Int} {p : Int × Int} (h : 0 < l.length) (ht : lo l ≤ t) : over t (nx l p) = over t l + (if t < max p.1 (lo l) + p.2 then 1 else 0) := by
  rw [over_perm (nx_perm h), over_cons, over_perm (List.perm_cons_erase (lo_mem h)), over_cons, if_neg (by omega : ¬ t < lo l), Nat.add_zero]
/-- who is held at t, of those served by then -/
def heldN (t : Int) : List Int → List (Int × Int) → Nat
  | s :: st, p :: w => (if s ≤ t ∧ t < s + p.2 then 1 else 0) + heldN t st w
  | _, _ => 0
theorem held_late {t : Int} : ∀ {st : List Int} {w : List (Int × Int)}, (∀ s ∈ st, t < s) → heldN t st w = 0
  | [], _, _ => by simp [heldN]
  | s :: st, [], _ => by simp [heldN]
  | s :: st, p :: w, h => by
    have h1 := h s List.mem_cons_self
    show (if s ≤ t ∧ t < s + p.2 then 1 else 0) + heldN t st w = 0
    rw [if_neg (by omega), held_late (w := w) fun s hs => h s (List.mem_cons_of_mem _ hs)]
theorem held_over {t : Int} : ∀ {w : List (Int × Int)} {l : List Int} {m : Int}, 0 < l.length → GoodFrom m w → over t l + heldN t (startsE l w) w ≤ l.length
  | [], l, _, _, _ => by
    show over t l + 0 ≤ l.length
    unfold over
    exact List.countP_le_length
  | p :: w, l, m, hl, ⟨g1, g2, g3, g4, g5⟩ => by
    show over t l + ((if max p.1 (lo l) ≤ t ∧ t < max p.1 (lo l) + p.2 then 1 else 0) + heldN t (startsE (nx l p) w) w) ≤ l.length
    by_cases c : max p.1 (lo l) ≤ t
    · have q := held_over (t := t) (l := nx l p) (by rw [nx_len]; exact hl) g5
      rw [over_nx hl (by omega), nx_len] at q
      have e : (if max p.1 (lo l) ≤ t ∧ t < max p.1 (lo l) + p.2 then 1 else 0) = (if t < max p.1 (lo l) + p.2 then 1 else 0) := by
        by_cases c2 : t < max p.1 (lo l) + p.2
        · rw [if_pos ⟨c, c2⟩, if_pos c2]
        · rw [if_neg (fun z => c2 z.2), if_neg c2]
      rw [e]
      omega
    · rw [if_neg (fun z => c z.1), held_late fun s hs => ?_]
      · unfold over
        have := List.countP_le_length (p := fun x => decide (t < x)) (l := l)
        omega
      · have h1 := startsE_low (by rw [nx_len]; exact hl) g5 s hs
        have h2 := lo_nx (p := p) hl g3
        omega
theorem held_most {c : Nat} {w : List (Int × Int)} (hc : 0 < c) (g : Good w) (t : Int) : heldN t (starts c w) w ≤ c := by
  have q := held_over (t := t) (l := List.replicate c 0) (by simp; omega) g
  rw [List.length_replicate, ← starts_eq] at q
  omega
/-! ### who waits is served as another one ends -/
theorem ends_mem : ∀ {w : List (Int × Int)} {l : List Int} {m : Int} {i : Nat} {s : Int} {p : Int × Int}, 0 < l.length → GoodFrom m w → (startsE l w)[i]? = some s → w[i]? = some p → p.1 < s →
    s ∈ l ∨ ∃ (j : Nat) (s' : Int) (q : Int × Int), j < i ∧ (startsE l w)[j]? = some s' ∧ w[j]? = some q ∧ s' + q.2 = s
  | [], _, _, _, _, _, _, _, h, _, _ => by simp [startsE] at h
  | q :: w, l, m, 0, s, p, hl, _, h, h2, h3 => by
    simp [startsE] at h h2
    subst h2
    refine .inl ?_
    have e : s = lo l := by omega
    rw [e]
    exact lo_mem hl
  | q :: w, l, m, i + 1, s, p, hl, ⟨g1, g2, g3, g4, g5⟩, h, h2, h3 => by
    rcases ends_mem (w := w) (l := nx l q) (i := i) (by rw [nx_len]; exact hl) g5 (by simpa [startsE] using h) (by simpa using h2) h3 with z | ⟨j, s', r, hj, e1, e2, e3⟩
    · rcases List.mem_cons.mp ((nx_perm hl).mem_iff.mp z) with e | e
      · exact .inr ⟨0, max q.1 (lo l), q, by omega, rfl, rfl, e.symm⟩
      · exact .inl (List.mem_of_mem_erase e)
    · exact .inr ⟨j + 1, s', r, by omega, by simpa [startsE] using e1, by simpa using e2, e3⟩
theorem starts_ends {c : Nat} {w : List (Int × Int)} {i : Nat} {s : Int} {p : Int × Int} (hc : 0 < c) (g : Good w) (h : (starts c w)[i]? = some s) (h2 : w[i]? = some p) (h3 : p.1 < s) (h0 : 0 ≤ p.1) :
    ∃ (j : Nat) (s' : Int) (q : Int × Int), j < i ∧ (starts c w)[j]? = some s' ∧ w[j]? = some q ∧ s' + q.2 = s := by
  rw [starts_eq] at h ⊢
  rcases ends_mem (by simp; omega) g h h2 h3 with z | z
  · have := (List.mem_replicate.mp z).2
    omega
  · exact z
theorem good_low0 : ∀ {w : List (Int × Int)} {m : Int}, GoodFrom m w → ∀ p ∈ w, m ≤ p.1
  | [], _, _, _, h => by cases h
  | q :: w, m, ⟨g1, _, _, _, g5⟩, p, h => by
    rcases List.mem_cons.mp h with e | e
    · rw [e]
      exact g1
    · have := good_low0 g5 p e
      omega
/-! ### the fewest fall as the longest wait grows -/
theorem fits_mono {w : List (Int × Int)} {l l' : Int} {c : Nat} (h : l ≤ l') (hf : fits w l c = true) : fits w l' c = true := by
  unfold fits at hf ⊢
  rw [List.all_eq_true] at hf ⊢
  intro j hj
  have q := hf j hj
  unfold late at q ⊢
  cases e1 : w[j]? with
  | none => rfl
  | some p =>
    cases e2 : (starts c w)[j]? with
    | none => rfl
    | some s =>
      rw [e1, e2] at q
      have q : (!decide (l < s - p.1)) = true := q
      show (!decide (l' < s - p.1)) = true
      have q2 : ¬ l < s - p.1 := by simpa using q
      rw [decide_eq_false (by omega)]
      rfl
theorem fewest_is {w : List (Int × Int)} {l : Int} {c : Nat} (h : fewest w l = some c) : 1 ≤ c ∧ c ≤ 8 ∧ fits w l c = true ∧ ∀ d, 1 ≤ d → d < c → fits w l d = false := by
  unfold fewest at h
  rw [List.find?_map, Option.map_eq_some_iff] at h
  obtain ⟨j, hj, rfl⟩ := h
  obtain ⟨h1, h2, h3⟩ := List.find?_range_eq_some.mp hj
  have h2 := List.mem_range.mp h2
  refine ⟨by omega, by omega, h1, fun d hd1 hd2 => ?_⟩
  have q := h3 (d - 1) (by omega)
  have q : (!fits w l (d - 1 + 1)) = true := q
  rw [show d - 1 + 1 = d by omega] at q
  simpa using q
theorem fewest_mono {w : List (Int × Int)} {l l' : Int} {c : Nat} (h : l ≤ l') (hf : fewest w l = some c) : ∃ d, fewest w l' = some d ∧ d ≤ c := by
  obtain ⟨h1, h2, h3, _⟩ := fewest_is hf
  have h4 := fits_mono h h3
  cases e : fewest w l' with
  | none =>
    unfold fewest at e
    rw [List.find?_eq_none] at e
    exact absurd h4 (e c (List.mem_map.mpr ⟨c - 1, List.mem_range.mpr (by omega), by omega⟩))
  | some d =>
    obtain ⟨h5, h6, h7, h8⟩ := fewest_is e
    refine ⟨d, rfl, ?_⟩
    by_cases z : d ≤ c
    · exact z
    · have := h8 c h1 (by omega)
      rw [h4] at this
      cases this
end Sv

namespace Sv
/-! ### works far apart -/
def endsE (l : List Int) (w : List (Int × Int)) : List Int := w.foldl nx l
theorem endsE_len : ∀ {w : List (Int × Int)} {l : List Int}, (endsE l w).length = l.length
  | [], _ => rfl
  | p :: w, l => by
    show (endsE (nx l p) w).length = l.length
    rw [endsE_len, nx_len]
theorem startsE_append : ∀ (w v : List (Int × Int)) (l : List Int), startsE l (w ++ v) = startsE l w ++ startsE (endsE l w) v
  | [], _, _ => rfl
  | p :: w, v, l => by
    show max p.1 (lo l) :: startsE (nx l p) (w ++ v) = max p.1 (lo l) :: (startsE (nx l p) w ++ startsE (endsE (nx l p) w) v)
    rw [startsE_append w v (nx l p)]
theorem endsE_le {L : Int} : ∀ {w : List (Int × Int)} {l : List Int}, 0 < l.length → (∀ x ∈ l, x ≤ L) → (∀ (i : Nat) (s : Int) (p : Int × Int), (startsE l w)[i]? = some s → w[i]? = some p → s + p.2 ≤ L) → ∀ x ∈ endsE l w, x ≤ L
  | [], _, _, h, _, x, hx => h x hx
  | p :: w, l, hl, h, hs, x, hx => by
    refine endsE_le (w := w) (l := nx l p) (by rw [nx_len]; exact hl) (fun y hy => ?_) (fun i s q h1 h2 => hs (i + 1) s q (by simpa [startsE] using h1) (by simpa using h2)) x hx
    rcases List.mem_cons.mp ((nx_perm hl).mem_iff.mp hy) with e | e
    · rw [e]
      exact hs 0 _ p rfl rfl
    · exact h y (List.mem_of_mem_erase e)
def shift (L : Int) (p : Int × Int) : Int × Int := (p.1 + L, p.2)
theorem lo_shift {L : Int} {l : List Int} (h : 0 < l.length) : lo (l.map (· + L)) = lo l + L := by
  refine lo_is (List.mem_map.mpr ⟨_, lo_mem h, rfl⟩) fun y hy => ?_
  obtain ⟨z, hz, rfl⟩ := List.mem_map.mp hy
  have := lo_le hz
  omega
theorem idx_shift {L : Int} : ∀ {l : List Int} {x : Int}, (l.map (· + L)).idxOf (x + L) = l.idxOf x
  | [], _ => rfl
  | a :: l, x => by
    rw [List.map_cons, List.idxOf_cons, List.idxOf_cons, idx_shift (l := l) (x := x)]
    have e : (a + L == x + L) = (a == x) := by
      by_cases c : a = x
      · subst c
        rw [beq_self_eq_true, beq_self_eq_true]
      · rw [beq_eq_false_iff_ne.mpr c, beq_eq_false_iff_ne.mpr (by omega : a + L ≠ x + L)]
    rw [e]
theorem nx_shift {L : Int} {l : List Int} {p : Int × Int} (h : 0 < l.length) : nx (l.map (· + L)) (shift L p) = (nx l p).map (· + L) := by
  unfold nx shift
  rw [lo_shift h, idx_shift, List.map_set]
  congr 1
  show max (p.1 + L) (lo l + L) + p.2 = max p.1 (lo l) + p.2 + L
  omega
theorem startsE_shift {L : Int} : ∀ {w : List (Int × Int)} {l : List Int}, 0 < l.length → startsE (l.map (· + L)) (w.map (shift L)) = (startsE l w).map (· + L)
  | [], _, _ => rfl
  | p :: w, l, h => by
    show max (shift L p).1 (lo (l.map (· + L))) :: startsE (nx (l.map (· + L)) (shift L p)) (w.map (shift L)) = (max p.1 (lo l) + L) :: (startsE (nx l p) w).map (· + L)
    rw [nx_shift h, startsE_shift (by rw [nx_len]; exact h), lo_shift h]
    congr 1
    show max (p.1 + L) (lo l + L) = max p.1 (lo l) + L
    omega
theorem good_shift {L : Int} : ∀ {w : List (Int × Int)} {m B : Int}, GoodFrom m w → 0 ≤ L → (∀ p ∈ w, p.1 ≤ B) → B + L ≤ 9999 → GoodFrom (m + L) (w.map (shift L))
  | [], _, _, _, _, _, _ => trivial
  | p :: w, m, B, ⟨g1, g2, g3, g4, g5⟩, h0, hB, hL => by
    have := hB p List.mem_cons_self
    refine ⟨?_, ?_, g3, g4, ?_⟩
    · show m + L ≤ p.1 + L
      omega
    · show p.1 + L ≤ 9999
      omega
    · exact good_shift g5 h0 (fun q hq => hB q (List.mem_cons_of_mem _ hq)) hL
theorem good_append : ∀ {w v : List (Int × Int)} {m L : Int}, GoodFrom m w → (∀ p ∈ w, p.1 ≤ L) → m ≤ L → GoodFrom L v → GoodFrom m (w ++ v)
  | [], [], _, _, _, _, _, _ => trivial
  | [], q :: v, _, _, _, _, h, ⟨g1, g2, g3, g4, g5⟩ => ⟨Int.le_trans h g1, g2, g3, g4, g5⟩
  | p :: w, v, _, _, ⟨g1, g2, g3, g4, g5⟩, hB, _, hv => ⟨g1, g2, g3, g4, good_append g5 (fun q hq => hB q (List.mem_cons_of_mem _ hq)) (hB p List.mem_cons_self) hv⟩
/-- what is behind another one's ends -/
theorem starts_apart {c : Nat} {w v : List (Int × Int)} {L : Int} (hc : 0 < c) (h0 : 0 ≤ L) (gv : Good v)
    (hs : ∀ (i : Nat) (s : Int) (p : Int × Int), (starts 1 w)[i]? = some s → w[i]? = some p → s + p.2 ≤ L) (gw : Good w) {B : Int} (hB : ∀ p ∈ v, p.1 ≤ B) (hL : B + L ≤ 9999) :
    starts c (w ++ v.map (shift L)) = starts c w ++ (starts c v).map (· + L) := by
  have hl : 0 < (List.replicate c (0 : Int)).length := by simp; omega
  have hdom : Dom (List.replicate c 0) (List.replicate 1 0) := fun t => by
    unfold cnt
    rw [List.countP_replicate, List.countP_replicate]
    split <;> omega
  have hle := dom_starts hdom hl (by simp) (shorter_refl gw)
  have hends : ∀ x ∈ endsE (List.replicate c 0) w, x ≤ L := endsE_le hl (fun x hx => by rw [(List.mem_replicate.mp hx).2]; exact h0) fun i s p h1 h2 => by
    have hlen := hle.len
    obtain ⟨s1, hs1⟩ : ∃ s1, (startsE (List.replicate 1 0) w)[i]? = some s1 := ⟨_, List.getElem?_eq_getElem (by
      have := (List.getElem?_eq_some_iff.mp h1).1
      rw [← hlen]
      exact this)⟩
    have q1 := hle.at h1 hs1
    have q2 := hs i s1 p (by rw [starts_eq]; exact hs1) h2
    omega
  rw [starts_eq, startsE_append, starts_eq, starts_eq]
  congr 1
  have hal : Alike L (endsE (List.replicate c 0) w) ((List.replicate c (0 : Int)).map (· + L)) := by
    have e1 : cl L (endsE (List.replicate c 0) w) = List.replicate c L := by
      refine List.eq_replicate_iff.mpr ⟨by unfold cl; rw [List.length_map, endsE_len, List.length_replicate], fun x hx => ?_⟩
      obtain ⟨y, hy, rfl⟩ := List.mem_map.mp hx
      have := hends y hy
      omega
    have e2 : cl L ((List.replicate c (0 : Int)).map (· + L)) = List.replicate c L := by
      unfold cl
      rw [List.map_replicate, List.map_replicate]
      congr 1
      omega
    unfold Alike
    rw [e1, e2]
  have g2 := good_shift (L := L) gv h0 hB hL
  rw [Int.zero_add] at g2
  rw [startsE_alike _ L _ _ hal (by rw [endsE_len]; exact hl) g2, startsE_shift hl]
theorem late_left {w v : List (Int × Int)} {s t : List Int} {l : Int} {j : Nat} (hs : s.length = w.length) (hj : j < w.length) : late (w ++ v) (s ++ t) l j = late w s l j := by
  unfold late
  rw [List.getElem?_append_left hj, List.getElem?_append_left (by omega)]
theorem late_right {w v : List (Int × Int)} {s t : List Int} {l L : Int} {j : Nat} (hs : s.length = w.length) : late (w ++ v.map (shift L)) (s ++ t.map (· + L)) l (w.length + j) = late v t l j := by
  unfold late
  rw [List.getElem?_append_right (by omega), List.getElem?_append_right (by omega), hs, show w.length + j - w.length = j by omega, List.getElem?_map, List.getElem?_map]
  cases v[j]? with
  | none => rfl
  | some p =>
    cases t[j]? with
    | none => rfl
    | some x =>
      show decide (l < x + L - (p.1 + L)) = decide (l < x - p.1)
      congr 1
      rw [show x + L - (p.1 + L) = x - p.1 by omega]
theorem fits_apart {c : Nat} {w v : List (Int × Int)} {L l : Int} (h : starts c (w ++ v.map (shift L)) = starts c w ++ (starts c v).map (· + L)) : fits (w ++ v.map (shift L)) l c = (fits w l c && fits v l c) := by
  have hs : (starts c w).length = w.length := starts_len
  have key : fits (w ++ v.map (shift L)) l c = true ↔ (fits w l c = true ∧ fits v l c = true) := by
    unfold fits
    rw [List.all_eq_true, List.all_eq_true, List.all_eq_true, h, List.length_append, List.length_map]
    constructor
    · intro q
      refine ⟨fun j hj => ?_, fun j hj => ?_⟩
      · have hj := List.mem_range.mp hj
        have := q j (List.mem_range.mpr (by omega))
        rw [late_left hs hj] at this
        exact this
      · have hj := List.mem_range.mp hj
        have := q (w.length + j) (List.mem_range.mpr (by omega))
        rw [late_right hs] at this
        exact this
    · rintro ⟨q1, q2⟩ j hj
      have hj := List.mem_range.mp hj
      by_cases c1 : j < w.length
      · rw [late_left hs c1]
        exact q1 j (List.mem_range.mpr c1)
      · have := q2 (j - w.length) (List.mem_range.mpr (by omega))
        rw [← late_right (w := w) (L := L) hs, show w.length + (j - w.length) = j by omega] at this
        exact this
  cases e : fits (w ++ v.map (shift L)) l c with
  | true =>
    obtain ⟨a, b⟩ := key.mp e
    rw [a, b]
    rfl
  | false =>
    cases e2 : (fits w l c && fits v l c) with
    | false => rfl
    | true =>
      have q := key.mpr (Bool.and_eq_true_iff.mp e2)
      rw [e] at q
      cases q
theorem fits_more {c : Nat} {w : List (Int × Int)} {l : Int} (hc : 0 < c) (g : Good w) (h : fits w l c = true) : fits w l (c + 1) = true := by
  have hle := more_lines hc g
  unfold fits at h ⊢
  rw [List.all_eq_true] at h ⊢
  intro j hj
  have q := h j hj
  have hj := List.mem_range.mp hj
  have hl1 : (starts c w).length = w.length := starts_len
  have hl2 : (starts (c + 1) w).length = w.length := starts_len
  have e1 := List.getElem?_eq_getElem (l := starts c w) (i := j) (by omega)
  have e2 := List.getElem?_eq_getElem (l := starts (c + 1) w) (i := j) (by omega)
  have e3 := List.getElem?_eq_getElem (l := w) (i := j) hj
  have hab := hle.at e2 e1
  unfold late at q ⊢
  rw [e1, e3] at q
  rw [e2, e3]
  have q : (!decide (l < (starts c w)[j] - (w[j]).1)) = true := q
  show (!decide (l < (starts (c + 1) w)[j] - (w[j]).1)) = true
  have q2 : ¬ l < (starts c w)[j] - (w[j]).1 := by simpa using q
  rw [decide_eq_false (by omega)]
  rfl
theorem fits_up {w : List (Int × Int)} {l : Int} (g : Good w) {c : Nat} (hc : 0 < c) (h : fits w l c = true) : ∀ d, fits w l (c + d) = true
  | 0 => h
  | d + 1 => fits_more (c := c + d) (Nat.lt_of_lt_of_le hc (Nat.le_add_right c d)) g (fits_up g hc h d)
theorem fewest_apart {w v u : List (Int × Int)} {l : Int} (gw : Good w) (gv : Good v) (h : ∀ c, 0 < c → fits u l c = (fits w l c && fits v l c)) :
    fewest u l = (match fewest w l, fewest v l with
      | some a, some b => some (max a b)
      | _, _ => none) := by
  cases e1 : fewest w l with
  | none =>
    refine fewest_none fun d h1 h2 => ?_
    rw [h d (by omega)]
    cases q : fits w l d with
    | false => rfl
    | true =>
      unfold fewest at e1
      rw [List.find?_eq_none] at e1
      exact absurd q (e1 d (List.mem_map.mpr ⟨d - 1, List.mem_range.mpr (by omega), by omega⟩))
  | some a =>
    cases e2 : fewest v l with
    | none =>
      refine fewest_none fun d h1 h2 => ?_
      rw [h d (by omega)]
      cases q : fits v l d with
      | false => rw [Bool.and_false]
      | true =>
        unfold fewest at e2
        rw [List.find?_eq_none] at e2
        exact absurd q (e2 d (List.mem_map.mpr ⟨d - 1, List.mem_range.mpr (by omega), by omega⟩))
    | some b =>
      obtain ⟨a1, a2, a3, a4⟩ := fewest_is e1
      obtain ⟨b1, b2, b3, b4⟩ := fewest_is e2
      show fewest u l = some (max a b)
      refine fewest_some (by omega) (by omega) ?_ fun d h1 h2 => ?_
      · rw [h _ (by omega)]
        have q1 := fits_up gw (by omega) a3 (max a b - a)
        have q2 := fits_up gv (by omega) b3 (max a b - b)
        rw [show a + (max a b - a) = max a b by omega] at q1
        rw [show b + (max a b - b) = max a b by omega] at q2
        rw [q1, q2]
        rfl
      · rw [h d h1]
        by_cases c : d < a
        · rw [a4 d h1 c]
          rfl
        · rw [b4 d h1 (by omega), Bool.and_false]
theorem startsE_up : ∀ {w : List (Int × Int)} {l : List Int} {m X : Int} {i : Nat} {s : Int}, 0 < l.length → (∀ x ∈ l, x ≤ X) → (∀ p ∈ w, p.1 ≤ X) → GoodFrom m w → (startsE l w)[i]? = some s → s ≤ X + 99 * (i : Int)
  | [], _, _, _, _, _, _, _, _, _, h => by simp [startsE] at h
  | p :: w, l, m, X, 0, s, hl, h1, h2, _, h => by
    have e : max p.1 (lo l) = s := by simpa [startsE] using h
    have a := h1 _ (lo_mem hl)
    have b := h2 p List.mem_cons_self
    omega
  | p :: w, l, m, X, i + 1, s, hl, h1, h2, ⟨g1, g2, g3, g4, g5⟩, h => by
    have a := h1 _ (lo_mem hl)
    have b := h2 p List.mem_cons_self
    have q := startsE_up (w := w) (l := nx l p) (X := X + 99) (i := i) (s := s) (by rw [nx_len]; exact hl) (fun x hx => by
      rcases List.mem_cons.mp ((nx_perm hl).mem_iff.mp hx) with e | e
      · omega
      · have := h1 x (List.mem_of_mem_erase e)
        omega) (fun q hq => by have := h2 q (List.mem_cons_of_mem _ hq); omega) g5 (by simpa [startsE] using h)
    omega
end Sv

namespace Ll
open PySem PySem.Spec PyProof.Rows L2
/-! ### works made by the dice: a list of pairs at wl -/
def spLaw (K : PySem.W.Frag) : Sp := fun vs H Q _ => ∃ (a : Addr) (ns : List Int), vs = [.ref a] ∧ FixL K H a (ns.map V.int) ∧ ns.length ≤ 63 ∧ ∀ H', Q (.bl true) H'
section
variable {K : PySem.W.Frag} {H H' : Hp}
theorem dp_mk2 {t : Addr} {p : Int × Int} (h : SqT K H t [.int p.1, .int p.2]) : Dp K H (.ref t) (prD p) := .tup h (.cons (.int _) (.cons (.int _) .nil))
theorem good_snoc : ∀ {w : List (Int × Int)} {l M h : Int}, Sv.GoodFrom l w → (∀ p ∈ w, p.1 ≤ M) → l ≤ M → M ≤ 9999 → 0 ≤ h → h ≤ 99 → Sv.GoodFrom l (w ++ [(M, h)])
  | [], _, _, _, _, _, h1, h2, h3, h4 => ⟨h1, h2, h3, h4, trivial⟩
  | p :: w, _, _, _, ⟨g1, g2, g3, g4, g5⟩, hm, _, h2, h3, h4 => ⟨g1, g2, g3, g4, good_snoc g5 (fun q hq => hm q (List.mem_cons_of_mem _ hq)) (hm p List.mem_cons_self) h2 h3 h4⟩
theorem good_low : ∀ {w : List (Int × Int)} {l m : Int}, Sv.GoodFrom m w → l ≤ m → Sv.GoodFrom l w
  | [], _, _, _, _ => trivial
  | p :: w, _, _, ⟨g1, g2, g3, g4, g5⟩, h => ⟨Int.le_trans h g1, g2, g3, g4, g5⟩
/-- what has been built, the moment M the last -/
structure OkW (M B : Int) (w : List (Int × Int)) : Prop where
  lo : 0 ≤ M
  hi : M ≤ B
  good : Sv.Good w
  last : ∀ x ∈ w, x.1 ≤ M
theorem OkW.nil {B : Int} (h : 0 ≤ B) : OkW 0 B [] := ⟨Int.le_refl 0, h, trivial, fun _ h => nomatch h⟩
theorem OkW.later {M B : Int} {w : List (Int × Int)} (h : OkW M B w) {z c : Int} (h0 : 0 ≤ z) (h1 : z ≤ c) : OkW (M + z) (B + c) w :=
  ⟨by have := h.lo; omega, by have := h.hi; omega, h.good, fun x hx => by have := h.last x hx; omega⟩
theorem OkW.add {M B : Int} {w : List (Int × Int)} (h : OkW M B w) {z : Int} (h0 : 0 ≤ z) (h1 : z ≤ 99) (hM : M ≤ 9999) : OkW M B (w ++ [(M, z)]) := by
  refine ⟨h.lo, h.hi, good_snoc h.good h.last h.lo hM h0 h1, fun x hx => ?_⟩
  rcases List.mem_append.mp hx with q | q
  · exact h.last x q
  · rw [List.mem_singleton.mp q]
    exact Int.le_refl _
/-- dice at d, works at wl -/
structure WrkAt (K : PySem.W.Frag) (H : Hp) (d wl : Addr) (w : List (Int × Int)) : Prop where
  dice : DiceAt K H d
  hw : ∃ xs, H wl = some (.lst xs) ∧ DpAll K H xs (w.map prD)
  n1 : d ≠ wl
variable {d wl : Addr} {w : List (Int × Int)}
theorem WrkAt.next (R : WrkAt K H d wl w) (f : Fr (fun b => b = d) H H') (dc : DiceAt K H' d) : WrkAt K H' d wl w := by
  obtain ⟨xs, h1, h2⟩ := R.hw
  exact ⟨dc, ⟨xs, f.but _ _ h1 R.n1.symm, dp_kpAll f.kp _ _ (imm_prs _) h2⟩, R.n1⟩
theorem WrkAt.same (R : WrkAt K H d wl w) (f : Same H H') : WrkAt K H' d wl w := by
  obtain ⟨xs, h1, h2⟩ := R.hw
  exact ⟨R.dice.fr (Fr.same f) (F := fun _ => False) id, ⟨xs, f _ _ h1, dp_sameAll f _ _ h2⟩, R.n1⟩
theorem WrkAt.add {ys : List V} {t : Addr} {q : Int × Int} (R : WrkAt K H d wl w) (hm : H wl = some (.lst ys)) (ht : SqT K H t [.int q.1, .int q.2]) :
    WrkAt K (upd H wl (.lst (ys ++ [.ref t]))) d wl (w ++ [q]) := by
  have f : Fr (fun b => b = wl) H (upd H wl (.lst (ys ++ [.ref t]))) := Fr.at1 (mut_lst hm)
  obtain ⟨zs, h3, h4⟩ := R.hw
  rw [hm] at h3
  cases h3
  refine ⟨R.dice.fr f R.n1, ⟨_, upd_same, ?_⟩, R.n1⟩
  rw [List.map_append]
  exact dp_kpAll f.kp _ _ (by rw [← List.map_append]; exact imm_prs _) (dpAll_snoc h4 (dp_mk2 ht))
theorem WrkAt.work (R : WrkAt K H d wl w) : WorkAt K H wl w := by
  obtain ⟨xs, h1, h2⟩ := R.hw
  exact ⟨xs, .of h1, h2⟩
theorem dp_pr_at {xs : List V} {i : Nat} {p : Int × Int} (h : DpAll K H xs (w.map prD)) (hp : w[i]? = some p) : ∃ t, xs[i]? = some (V.ref t) ∧ SqT K H t [.int p.1, .int p.2] := by
  have hl : xs.length = w.length := by rw [dpAll_len h, List.length_map]
  have hi := (List.getElem?_eq_some_iff.mp hp).1
  obtain ⟨v, hv⟩ : ∃ v, xs[i]? = some v := ⟨xs[i]'(by omega), List.getElem?_eq_getElem (by omega)⟩
  obtain ⟨dd, hd, hy⟩ := dpAll_get h hv
  obtain ⟨q, hq, rfl⟩ := map_get hd
  rw [hp] at hq
  cases hq
  obtain ⟨t, rfl, ht⟩ := dp_pr hy
  exact ⟨t, hv, ht⟩
theorem atI_map {l : List Int} {i : Nat} {x : Int} {k : Int} (e : k = (i : Int)) (h : l[i]? = some x) : atI (l.map V.int) k = some (.int x) := at_of e (by rw [List.getElem?_map, h]; rfl)
end
def endAt (st : List Int) (w : List (Int × Int)) (j : Nat) : Int := (st[j]?).getD 0 + ((w[j]?).getD (0, 0)).2
end Ll

namespace Ll
open PySem PySem.Spec PyProof.Rows L2
/-- two lists of works -/
structure I37 (K : PySem.W.Frag) (H : Hp) (d ws a0 a1 : Addr) (w0 w1 : List (Int × Int)) : Prop where
  k0 : WrkAt K H d a0 w0
  k1 : WrkAt K H d a1 w1
  hws : H ws = some (.lst [.ref a0, .ref a1])
  n0 : d ≠ ws
  o0 : OkW 600 600 w0
  o1 : OkW 600 600 w1
  l0 : w0.length ≤ 15
  l1 : w1.length ≤ 15
section
variable {K : PySem.W.Frag} {H H' : Hp} {d ws a0 a1 : Addr} {w0 w1 : List (Int × Int)}
theorem I37.next (R : I37 K H d ws a0 a1 w0 w1) (f : Fr (fun b => b = d) H H') (dc : DiceAt K H' d) : I37 K H' d ws a0 a1 w0 w1 :=
  ⟨R.k0.next f dc, R.k1.next f dc, f.but _ _ R.hws R.n0.symm, R.n0, R.o0, R.o1, R.l0, R.l1⟩
theorem I37.same (R : I37 K H d ws a0 a1 w0 w1) (f : Same H H') : I37 K H' d ws a0 a1 w0 w1 :=
  ⟨R.k0.same f, R.k1.same f, f _ _ R.hws, R.n0, R.o0, R.o1, R.l0, R.l1⟩
theorem OkW.up {M B M' B' : Int} {w : List (Int × Int)} (h : OkW M B w) (h1 : M ≤ M') (h2 : M' ≤ B') : OkW M' B' w :=
  ⟨by have := h.lo; omega, h2, h.good, fun x hx => by have := h.last x hx; omega⟩
end
theorem good_at : ∀ {w : List (Int × Int)} {l : Int} {i : Nat} {p : Int × Int}, Sv.GoodFrom l w → w[i]? = some p → 0 ≤ p.2 ∧ p.2 ≤ 99
  | [], _, _, _, _, h => by simp at h
  | q :: w, _, 0, p, ⟨_, _, g3, g4, _⟩, h => by
    simp at h
    subst h
    exact ⟨g3, g4⟩
  | q :: w, _, i + 1, p, ⟨_, _, _, _, g5⟩, h => good_at (i := i) g5 (by simpa using h)
/-- the lists that are built so far -/
structure B37 (K : PySem.W.Frag) (H : Hp) (d ws : Addr) (L : List (Addr × List (Int × Int))) : Prop where
  dice : DiceAt K H d
  hws : H ws = some (.lst (L.map fun q => V.ref q.1))
  n0 : d ≠ ws
  all : ∀ q ∈ L, (∃ xs, H q.1 = some (.lst xs) ∧ DpAll K H xs (q.2.map prD)) ∧ d ≠ q.1 ∧ q.1 ≠ ws ∧ OkW 600 600 q.2 ∧ q.2.length ≤ 15
theorem B37.fr {K : PySem.W.Frag} {H H' : Hp} {d ws : Addr} {L : List (Addr × List (Int × Int))} {F : Addr → Prop} (R : B37 K H d ws L) (f : Fr F H H') (dc : DiceAt K H' d) (n1 : ¬ F ws) (n2 : ∀ q ∈ L, ¬ F q.1) : B37 K H' d ws L :=
  ⟨dc, f.but _ _ R.hws n1, R.n0, fun q hq => by
    obtain ⟨⟨xs, h1, h2⟩, h3⟩ := R.all q hq
    exact ⟨⟨xs, f.but _ _ h1 (n2 q hq), dp_kpAll f.kp _ _ (imm_prs _) h2⟩, h3⟩⟩
theorem B37.next {K : PySem.W.Frag} {H H' : Hp} {d ws : Addr} {L : List (Addr × List (Int × Int))} (R : B37 K H d ws L) (f : Fr (fun b => b = d) H H') (dc : DiceAt K H' d) : B37 K H' d ws L :=
  R.fr f dc R.n0.symm fun q hq => (R.all q hq).2.1.symm
theorem B37.same {K : PySem.W.Frag} {H H' : Hp} {d ws : Addr} {L : List (Addr × List (Int × Int))} (R : B37 K H d ws L) (f : Same H H') : B37 K H' d ws L :=
  R.fr (F := fun _ => False) (Fr.same f) (R.dice.fr (F := fun _ => False) (Fr.same f) id) id fun _ _ => id
section
variable {P : Program} {wd : World} {K : PySem.W.Frag} {mg : Str → Option Value} {base : Heap} {CX : CXT}
abbrev sscLw : Stmt := topS 15
abbrev nscLw : List Str := ["_law_script", "_law_d", "_law_count", "_law_works", "_law_k", "_law_moment", "_law_work", "_law_j", "_law_first", "_law_second", "_law_later", "_law_ends", "_law_moved", "_law_longest", "_law_few", "_law_one"]
theorem scLw : FnScope nscLw ["_law_script"] (defScope sscLw) := ⟨rfl, rfl, rfl, by decide +kernel, rfl, by decide +kernel, by decide +kernel⟩
abbrev XL (P : Program) (wd : World) (K : PySem.W.Frag) (mg : Str → Option Value) (base : Heap) (CX : CXT) (f : Addr) (cdv : Value) (A : Around) (outer : List Env) (s : Shared) (H : Hp) (E : XK) : Cx :=
  (cxOf CX P wd K mg base nscLw "law" (defScope sscLw) f cdv A outer s H E).nox
/-- the rest of the body: its reading, and that it ends well -/
def Rest (P : Program) (wd : World) (K : PySem.W.Frag) (mg : Str → Option Value) (base : Heap) (CX : CXT) (n : Nat) (I : L2.St → Hp → Prop) : Prop :=
  ∀ (f : Addr) (cdv : Value) (A : Around) (outer : List Env) (s : Shared) (H : Hp) (E : XK), Room 2 (A.deeper (envOfC "law" (defScope sscLw) s.heap.objs.size f cdv)) →
    ∃ t, PSs (XL P wd K mg base CX f cdv A outer s H E) ((defBody sscLw).drop n) t ∧ ∀ (D : Ends) (σ : L2.St) (H' : Hp), I σ H' → (∀ H'', D.rt (.bl true) H'') → t D σ H'
variable (G__law_dice : FnG P wd K mg base CX0 1 "_law_dice" ["_law_script"] [] (spDice K)) (G__law_next : FnG P wd K mg base CX0 1 "_law_next" ["_law_dice_here", "_law_many"] [] (spNext K))
    (G_served : FnG P wd K mg base CX0 2 "served" ["work", "count"] [] (spServed K)) (G_fewest : FnG P wd K mg base CX0 2 "fewest" ["work", "longest"] [] (spFewest K)) (T : TxSrv K mg)
include G__law_dice G__law_next G_served G_fewest T
/-- what is known of both together -/
structure J37 (L : Int) (w0 w1 : List (Int × Int)) : Prop where
  L0 : 0 ≤ L
  L1 : L ≤ 5000
  ends : ∀ (i : Nat) (s : Int) (p : Int × Int), (Sv.starts 1 w0)[i]? = some s → w0[i]? = some p → s + p.2 ≤ L
  last : ∀ p ∈ w0, p.1 ≤ L
omit G__law_dice G__law_next G_served G_fewest T in
theorem J37.good {L : Int} {w0 w1 : List (Int × Int)} (J : J37 L w0 w1) (o0 : OkW 600 600 w0) (o1 : OkW 600 600 w1) : Sv.Good (w0 ++ w1.map (Sv.shift L)) := by
  have g := Sv.good_shift (L := L) (m := 0) (B := 600) o1.good J.L0 o1.last (by have := J.L1; omega)
  rw [Int.zero_add] at g
  exact Sv.good_append o0.good J.last J.L0 g
omit G__law_dice G__law_next G_served G_fewest T in
theorem J37.starts {L : Int} {w0 w1 : List (Int × Int)} (J : J37 L w0 w1) (o0 : OkW 600 600 w0) (o1 : OkW 600 600 w1) {c : Nat} (hc : 0 < c) :
    Sv.starts c (w0 ++ w1.map (Sv.shift L)) = Sv.starts c w0 ++ (Sv.starts c w1).map (· + L) :=
  Sv.starts_apart hc J.L0 o1.good J.ends o0.good o1.last (by have := J.L1; omega)
theorem rest9 : Rest P wd K mg base CX 9 (fun σ H' => ∃ a d c ws a0 a1 v4 v5 v6 v7 v8 v9 L v11 mv w0 w1, σ = [a, some (.ref d), c, some (.ref ws), v4, v5, v6, v7, v8, v9, some (.int L), v11, some (.ref mv), none, none, none] ∧ I37 K H' d ws a0 a1 w0 w1 ∧ J37 L w0 w1 ∧
    WrkAt K H' d mv (w1.map (Sv.shift L))) := by
  intro f cdv A outer s H E hr
  refine ⟨_, (pss_cons (ps_set (i := 13) scLw.nd rfl (Or.inl rfl) (pe_callG G__law_next (hr.mono (by decide)) rfl pass0 (pa_cons (pv 1) (pa_cons pe_int pa_nil))))
      (pss_cons (ps_set (i := 14) scLw.nd rfl (Or.inl rfl) (pe_lst (pa_cons (pe_callG G_fewest (hr.mono (by decide)) rfl pass0 (pa_cons (pe_ix ix_list (pv 3) pe_int (fun _ _ => rfl)) (pa_cons (pv 13) pa_nil))) (pa_cons (pe_callG G_fewest (hr.mono (by decide)) rfl pass0 (pa_cons (pe_ix ix_list (pv 3) pe_int (fun _ _ => rfl)) (pa_cons (pv 13) pa_nil))) (pa_cons (pe_callG G_fewest (hr.mono (by decide)) rfl pass0 (pa_cons (pe_op op_cat (pe_ix ix_list (pv 3) pe_int (fun _ _ => rfl)) (pv 12)) (pa_cons (pv 13) pa_nil))) pa_nil)))))
      (pss_cons (ps_if (pt_cmpR (op_in_seq) pe_non (pe_slice sl_list (pv 14) po_none (po_some pe_int)) rfl) (pss_one (ps_ret (pe_cmpR (op_isN) (pe_ix ix_list (pv 14) pe_int (fun _ _ => rfl)) pe_non (nomark _)))) pss_nil)
      (pss_one (ps_ret (pe_cmpR (op_eq) (pe_ix ix_list (pv 14) pe_int (fun _ _ => rfl)) (pe_callB (cr_max rfl) (by rfl) T.max (by decide +kernel) (pa_cons (pe_slice sl_list (pv 14) po_none (po_some pe_int)) pa_nil)) (nomark _))))))), ?_⟩
  rintro D σ H1 ⟨a, d, c, ws, a0, a1, v4, v5, v6, v7, v8, v9, L, v11, mv, w0, w1, rfl, R1, J, M1⟩ k
  have dc1 := R1.k0.dice
  walk_at "rd"
  intro l H2 l0 l1 f2 dc2
  have R2 := R1.next f2 dc2
  have M2 := M1.next f2 dc2
  have hws2 := R2.hws
  have hl0 := R2.l0
  have hl1 := R2.l1
  walk_at "rd"
  refine ⟨a0, w0, l, rfl, R2.k0.work, R2.o0.good, by omega, fun H3 s3 => ?_⟩
  have R3 := R2.same s3
  have hws3 := R3.hws
  walk_at "rd"
  refine ⟨a1, w1, l, rfl, R3.k1.work, R3.o1.good, by omega, fun H4 s4 => ?_⟩
  have R4 := R3.same s4
  have M4 := (M2.same s3).same s4
  have hws4 := R4.hws
  obtain ⟨x0, hx0, hd0⟩ := R4.k0.hw
  obtain ⟨xm, hxm, hdm⟩ := M4.hw
  have hxl0 : x0.length = w0.length := by rw [dpAll_len hd0, List.length_map]
  have hxlm : xm.length = w1.length := by rw [dpAll_len hdm, List.length_map, List.length_map]
  walk_at "rd"
  intro p np
  have s5 := Same.new (o := .lst (x0 ++ xm)) np
  have hp5 : WorkAt K (upd H4 p (.lst (x0 ++ xm))) p (w0 ++ w1.map (Sv.shift L)) := ⟨_, .of upd_same, by
    rw [List.map_append]
    exact dpAll_app (dp_sameAll s5 _ _ hd0) (dp_sameAll s5 _ _ hdm)⟩
  walk_at "rd"
  refine ⟨p, w0 ++ w1.map (Sv.shift L), l, rfl, hp5, J.good R1.o0 R1.o1, by rw [List.length_append, List.length_map]; omega, fun H6 s6 => ?_⟩
  have efew := Sv.fewest_apart (l := l) R1.o0.good R1.o1.good (fun c hc => Sv.fits_apart (l := l) (J.starts R1.o0 R1.o1 hc))
  walk_at "rd"
  intro p7 np7
  rw [efew]
  cases e0 : Sv.fewest w0 l with
  | none =>
    walk_at "rd"
    intro p8 np8
    have hp7 := Same.new (o := .lst (cutV [V.non, oV (Sv.fewest w1 l), V.non] none (some 2))) np8 _ _ upd_same
    refine ⟨p8, [V.non, oV (Sv.fewest w1 l)], rfl, .inl (.of upd_same), rfl, ?_, ?_⟩
    · cases Sv.fewest w1 l <;> rfl
    have ein : inV .non [V.non, oV (Sv.fewest w1 l)] = true := rfl
    rw [ein]
    walk_at "rd"
    exact k _
  | some b0 =>
    cases e1 : Sv.fewest w1 l with
    | none =>
      walk_at "rd"
      intro p8 np8
      have hp7 := Same.new (o := .lst (cutV [V.int b0, V.non, V.non] none (some 2))) np8 _ _ upd_same
      refine ⟨p8, [V.int b0, V.non], rfl, .inl (.of upd_same), rfl, rfl, ?_⟩
      have ein : inV .non [V.int b0, V.non] = true := rfl
      rw [ein]
      walk_at "rd"
      exact k _
    | some b1 =>
      walk_at "rd"
      intro p8 np8
      have hp7 := Same.new (o := .lst (cutV [V.int b0, V.int b1, V.int (max b0 b1 : Nat)] none (some 2))) np8 _ _ upd_same
      refine ⟨p8, [V.int b0, V.int b1], rfl, .inl (.of upd_same), rfl, rfl, ?_⟩
      have ein : inV .non [V.int b0, V.int b1] = false := rfl
      rw [ein]
      walk_at "rd"
      intro p9 np9
      walk_at "rd"
      have hm9 : ∀ H9 : Hp, H9 p9 = some (.lst [V.int b0, V.int b1]) → SqL K H9 p9 (([(b0 : Int), (b1 : Int)] : List Int).map V.int) := fun H9 h => .of h
      refine ⟨p9, [(b0 : Int), (b1 : Int)], rfl, hm9 _ upd_same, Nat.zero_lt_succ _, fun m hm hle => ?_⟩
      have h1 := hle b0 (by simp)
      have h2 := hle b1 (by simp)
      have h3 : m = b0 ∨ m = b1 := by simpa using hm
      have em : ((max b0 b1 : Nat) : Int) = m := by omega
      refine ⟨rfl, ?_⟩
      show D.rt (V.bl (decide (V.int ((max b0 b1 : Nat) : Int) = V.int m))) _
      rw [decide_eq_true (by rw [em])]
      exact k _
theorem rest3 : Rest P wd K mg base CX 3 (fun σ H' => ∃ a d c ws a0 a1 v4 v5 v6 v7 w0 w1, σ = [a, some (.ref d), some (.int (c : Nat)), some (.ref ws), v4, v5, v6, v7, none, none, none, none, none, none, none, none] ∧ I37 K H' d ws a0 a1 w0 w1 ∧ 1 ≤ c ∧ c ≤ 8) := by
  intro f cdv A outer s H E hr
  obtain ⟨t, ht, hq⟩ := rest9 G__law_dice G__law_next G_served G_fewest T f cdv A outer s H E hr
  refine ⟨_, (pss_cons (ps_par (i := 8) (j := 9) (by rfl) scLw.nd rfl rfl (by decide) rfl rfl (pa_cons (pe_callG G_served (hr.mono (by decide)) rfl pass0 (pa_cons (pe_ix ix_list (pv 3) pe_int (fun _ _ => rfl)) (pa_cons (pv 2) pa_nil))) (pa_cons (pe_callG G_served (hr.mono (by decide)) rfl pass0 (pa_cons (pe_ix ix_list (pv 3) pe_int (fun _ _ => rfl)) (pa_cons (pv 2) pa_nil))) pa_nil)) (by rfl))
      (pss_cons (ps_set (i := 10) scLw.nd rfl (Or.inr rfl) (pe_callG G__law_next (hr.mono (by decide)) rfl pass0 (pa_cons (pv 1) (pa_cons pe_int pa_nil))))
      (pss_cons (ps_set (i := 11) scLw.nd rfl (Or.inl rfl) (pe_op op_cat (pe_lst (pa_cons pe_int pa_nil)) (pe_lc (own := [("_law_k", 4)]) (g := (gName 4)) (tt := tYes) (te := (tOp (rI0 fun i j => .int (i + j)) (tOp (rIxL K) (tCall (spServed K) [] E0 (tCons (tOp (rIxL K) (tVar 3) (tC (.int 0))) (tCons (tC (.int 1)) tNil))) (tVar 4)) (tOp (rIxT K) (tOp (rIxL K) (tOp (rIxL K) (tVar 3) (tC (.int 0))) (tVar 4)) (tC (.int 1))))) rfl scLw.nd (pi_range1 (by rfl) T.range (pa_cons (pe_callB call_len_seq (by rfl) T.len PySem.boot_len (pa_cons (pe_ix ix_list (pv 3) pe_int (fun _ _ => rfl)) pa_nil)) pa_nil)) (blkOk_by (N := nscLw) (sc := defScope sscLw) (by decide +kernel)) (fun _ _ _ _ _ => (pg_name (i := 4) scLw.nd rfl (.inl rfl))) (fun _ _ _ _ _ => pts_nil) (fun _ _ _ _ _ => (pe_op op_add (pe_ix ix_list (pe_callG G_served (hr.mono (by decide)) rfl pass0 (pa_cons (pe_ix ix_list (pv 3) pe_int (fun _ _ => rfl)) (pa_cons pe_int pa_nil))) (pv 4) (fun _ _ => rfl)) (pe_ix ix_tup (pe_ix ix_list (pe_ix ix_list (pv 3) pe_int (fun _ _ => rfl)) (pv 4) (fun _ _ => rfl)) pe_int (fun _ _ => rfl)))))))
      (pss_cons (ps_set (i := 10) scLw.nd rfl (Or.inr rfl) (pe_op op_add (pv 10) (pe_callB (cr_max rfl) (by rfl) T.max (by decide +kernel) (pa_cons (pv 11) pa_nil))))
      (pss_cons (ps_setLc (i := 12) (own := [("_law_one", 15)]) (g := (gName 15)) (tt := tYes) (te := (tTup (tCons (tOp (rI0 fun i j => .int (i + j)) (tOp (rIxT K) (tVar 15) (tC (.int 0))) (tVar 10)) (tCons (tOp (rIxT K) (tVar 15) (tC (.int 1))) tNil)))) rfl scLw.nd rfl rfl (sw_true rfl rfl rfl (by decide +kernel)) (pi_list (pe_ix ix_list (pv 3) pe_int (fun _ _ => rfl))) (blkOk_by (N := nscLw) (sc := defScope sscLw) (by decide +kernel)) (fun _ _ _ _ _ => (pg_name (i := 15) scLw.nd rfl (.inl rfl))) (fun _ _ _ _ _ => pts_nil) (fun _ _ _ _ _ => (pe_tup (pa_cons (pe_op op_add (pe_ix ix_tup (pv 15) pe_int (fun _ _ => rfl)) (pv 10)) (pa_cons (pe_ix ix_tup (pv 15) pe_int (fun _ _ => rfl)) pa_nil)))))
      (pss_cons (ps_if (pt_cmpR (op_neD hr.units) (pe_callG G_served (hr.mono (by decide)) rfl pass0 (pa_cons (pe_op op_cat (pe_ix ix_list (pv 3) pe_int (fun _ _ => rfl)) (pv 12)) (pa_cons (pv 2) pa_nil))) (pe_op op_cat (pv 8) (pe_lc (own := [("_law_one", 15)]) (g := (gName 15)) (tt := tYes) (te := (tOp (rI0 fun i j => .int (i + j)) (tVar 15) (tVar 10))) rfl scLw.nd (pi_list (pv 9)) (blkOk_by (N := nscLw) (sc := defScope sscLw) (by decide +kernel)) (fun _ _ _ _ _ => (pg_name (i := 15) scLw.nd rfl (.inl rfl))) (fun _ _ _ _ _ => pts_nil) (fun _ _ _ _ _ => (pe_op op_add (pv 15) (pv 10))))) (nomark _)) (pss_one (ps_ret pe_bl)) pss_nil)
      ht)))))), ?_⟩
  rintro D σ H1 ⟨a, d, c, ws, a0, a1, v4, v5, v6, v7, w0, w1, rfl, R1, hc1, hc8⟩ k
  have hws1 := R1.hws
  have hl0 := R1.l0
  have hl1 := R1.l1
  walk_at "rd"
  refine ⟨a0, w0, c, rfl, R1.k0.work, R1.o0.good, hc1, hc8, by omega, fun H2 fi nfi s2 hfi => ?_⟩
  have R2 := R1.same s2
  have hws2 := R2.hws
  walk_at "rd"
  refine ⟨a1, w1, c, rfl, R2.k1.work, R2.o1.good, hc1, hc8, by omega, fun H3 se nse s3 hse => ?_⟩
  have R3 := R2.same s3
  have dc3 := R3.k0.dice
  have hfi3 := s3 _ _ hfi
  have nfd : fi ≠ d := fun e => by
    obtain ⟨ds, hds⟩ := R1.k0.dice.ex
    rw [e, hds] at nfi
    cases nfi
  have nsd : se ≠ d := fun e => by
    obtain ⟨ds, hds⟩ := R2.k0.dice.ex
    rw [e, hds] at nse
    cases nse
  walk_at "rd"
  intro l H4 l0 l1 f4 dc4
  have R4 := R3.next f4 dc4
  have hfi4 := f4.but _ _ hfi3 nfd
  have hse4 := f4.but _ _ hse nsd
  have hws4 := R4.hws
  obtain ⟨x0, hx0, hd0⟩ := R4.k0.hw
  have hxl0 : x0.length = w0.length := by rw [dpAll_len hd0, List.length_map]
  walk_at "rd"
  intro p0 np0
  have s5 := Same.new (o := .lst [V.int 0]) np0
  have R5 := R4.same s5
  have hfi5 := s5 _ _ hfi4
  have hse5 := s5 _ _ hse4
  have hp05 : upd H4 p0 (.lst [V.int 0]) p0 = some (.lst [V.int 0]) := upd_same
  generalize upd H4 p0 (.lst [V.int 0]) = H5 at R5 hfi5 hse5 hp05 ⊢
  have hws5 := R5.hws
  obtain ⟨x5, hx5, hd5⟩ := R5.k0.hw
  have hxl5 : x5.length = w0.length := by rw [dpAll_len hd5, List.length_map]
  walk_at "rd"
  refine ⟨by omega, by omega, fun D6 nD6 => lc_pure (walk_range (lo := 0) (n := ((x5.length : Nat) : Int).toNat)) (fun j => some (V.int (endAt (Sv.starts 1 w0) w0 j))) nD6 (by omega) (fun _ _ => trivial) ?_ ?_⟩
  · rintro j x H6 H7 Qy Qn hj s6 ⟨rfl, rfl⟩ hy hn'
    have hj2 : j < w0.length := by omega
    have R6 := R5.same s6
    have hws6 := R6.hws
    obtain ⟨sj, hsj⟩ : ∃ v, (Sv.starts 1 w0)[j]? = some v := ⟨_, List.getElem?_eq_getElem (by rw [Sv.starts_len]; exact hj2)⟩
    obtain ⟨pj, hpj⟩ : ∃ v, w0[j]? = some v := ⟨_, List.getElem?_eq_getElem hj2⟩
    refine ⟨rfl, ?_⟩
    walk_at "rd"
    refine ⟨a0, w0, 1, rfl, R6.k0.work, R6.o0.good, by decide, by decide, by omega, fun H8 fo nfo s8 hfo => ?_⟩
    have R8 := R6.same s8
    have hws8 := R8.hws
    obtain ⟨x8, hx8, hd8⟩ := R8.k0.hw
    obtain ⟨tj, htj, htt⟩ := dp_pr_at hd8 hpj
    have a1' : atI ((Sv.starts 1 w0).map V.int) (0 + (j : Int)) = some (.int sj) := atI_map (by omega) hsj
    have a3 : atI x8 (0 + (j : Int)) = some (.ref tj) := at_of (by omega) htj
    walk_at "rd"
    refine hy _ _ ?_ s8
    unfold endAt
    rw [hsj, hpj]
    rfl
  · intro H6 s6 hD6
    have R6 := R5.same s6
    have hfi6 := s6 _ _ hfi5
    have hse6 := s6 _ _ hse5
    have hp06 := s6 _ _ hp05
    rw [show ((x5.length : Nat) : Int).toNat = w0.length by omega] at hD6
    have eE : (List.range w0.length).filterMap (fun j => some (V.int (endAt (Sv.starts 1 w0) w0 j))) = ((List.range w0.length).map (endAt (Sv.starts 1 w0) w0)).map V.int := by
      rw [List.filterMap_eq_map', List.map_map]
      rfl
    rw [eE] at hD6
    have hends : ∀ (i : Nat) (s : Int) (p : Int × Int), (Sv.starts 1 w0)[i]? = some s → w0[i]? = some p → s + p.2 ∈ (List.range w0.length).map (endAt (Sv.starts 1 w0) w0) ∧ s ≤ 600 + 99 * (i : Int) ∧ p.1 ≤ s ∧ 0 ≤ p.2 ∧ p.2 ≤ 99 := fun i s p h1 h2 => by
      have hi := (List.getElem?_eq_some_iff.mp h2).1
      refine ⟨List.mem_map.mpr ⟨i, List.mem_range.mpr hi, ?_⟩, ?_, Sv.starts_wanted h1 h2, good_at R6.o0.good h2⟩
      · unfold endAt
        rw [h1, h2]
        rfl
      · have h3 := h1
        rw [Sv.starts_eq] at h3
        exact Sv.startsE_up (by simp) (fun x hx => by rw [(List.mem_replicate.mp hx).2]; decide) R6.o0.last R6.o0.good h3
    generalize hE : (List.range w0.length).map (endAt (Sv.starts 1 w0) w0) = E at hD6 hends
    have hEl : ∀ y ∈ E, y ≤ 2100 := fun y hy => by
      rw [← hE] at hy
      obtain ⟨j, hj, rfl⟩ := List.mem_map.mp hy
      have hj := List.mem_range.mp hj
      obtain ⟨sj, hsj⟩ : ∃ v, (Sv.starts 1 w0)[j]? = some v := ⟨_, List.getElem?_eq_getElem (by rw [Sv.starts_len]; exact hj)⟩
      obtain ⟨pj, hpj⟩ : ∃ v, w0[j]? = some v := ⟨_, List.getElem?_eq_getElem hj⟩
      obtain ⟨q1, q2, q3, q4, q5⟩ := hends j sj pj hsj hpj
      unfold endAt
      rw [hsj, hpj]
      show sj + pj.2 ≤ 2100
      omega
    have hElen : E.length ≤ 15 := by
      rw [← hE, List.length_map, List.length_range]
      exact hl0
    walk_at "rd"
    intro p7 np7
    have s7 := Same.new (o := .lst ([V.int 0] ++ E.map V.int)) np7
    have R7 := R6.same s7
    have hfi7 := s7 _ _ hfi6
    have hse7 := s7 _ _ hse6
    have hsq : SqL K (upd H6 p7 (.lst ([V.int 0] ++ E.map V.int))) p7 (((0 : Int) :: E).map V.int) := .of upd_same
    generalize upd H6 p7 (.lst ([V.int 0] ++ E.map V.int)) = H7 at R7 hfi7 hse7 hsq ⊢
    have hws7 := R7.hws
    walk_at "rd"
    refine ⟨Nat.zero_lt_succ _, fun m hm hle => ?_⟩
    have hm0 := hle 0 List.mem_cons_self
    have hm2 : m ≤ 2100 := by
      rcases List.mem_cons.mp hm with e | e
      · omega
      · exact hEl m e
    have J : J37 (l + m) w0 w1 := by
      refine ⟨by omega, by omega, fun i s p h1 h2 => ?_, fun p hp => ?_⟩
      · have q := (hends i s p h1 h2).1
        have := hle _ (List.mem_cons_of_mem _ q)
        omega
      · obtain ⟨i, hi, rfl⟩ := List.getElem_of_mem hp
        obtain ⟨sj, hsj⟩ : ∃ v, (Sv.starts 1 w0)[i]? = some v := ⟨_, List.getElem?_eq_getElem (by rw [Sv.starts_len]; exact hi)⟩
        obtain ⟨q1, q2, q3, q4, q5⟩ := hends i sj w0[i] hsj (List.getElem?_eq_getElem hi)
        have := hle _ (List.mem_cons_of_mem _ q1)
        omega
    obtain ⟨x1, hx1, hd1⟩ := R7.k1.hw
    have hxl1 : x1.length = w1.length := by rw [dpAll_len hd1, List.length_map]
    walk_at "rd"
    refine ⟨⟨x1, .of hx1⟩, fun D8 nD8 => lc_data (K := K) (walk_list (xs := x1)) (fun i => (w1[i]?).map fun q => prD (Sv.shift (l + m) q)) nD8 (by omega) (fun i d e => ?_) (fun H8 s8 => .of (s8 _ _ hx1)) ?_ ?_⟩
    · obtain ⟨q, _, rfl⟩ := Option.map_eq_some_iff.mp e
      rfl
    · rintro i x H8 H9 Qy Qn hi s8 ⟨rfl, e1⟩ hy hn'
      obtain ⟨dd, hd, hyd⟩ := dpAll_get hd1 e1
      obtain ⟨q, hq', rfl⟩ := map_get hd
      obtain ⟨t1, rfl, ht1⟩ := dp_pr (dp_same s8 _ _ hyd)
      refine ⟨rfl, ?_⟩
      walk_at "rd"
      intro t2 nt2
      exact hy _ _ _ (by rw [hq']; rfl) (dp_mk2 (p := Sv.shift (l + m) q) (.of upd_same)) (Same.new nt2)
    · intro H8 zs s8 hD8 hz8
      rw [hxl1, filterMap_get] at hz8
      have R8 := R7.same s8
      have hfi8 := s8 _ _ hfi7
      have hse8 := s8 _ _ hse7
      have M8 : WrkAt K H8 d D8 (w1.map (Sv.shift (l + m))) := by
        refine ⟨R8.k0.dice, ⟨zs, hD8, by rw [List.map_map]; exact hz8⟩, ?_⟩
        obtain ⟨ds, hds⟩ := R7.k0.dice.ex
        exact ne_of_none hds nD8
      have hws8 := R8.hws
      obtain ⟨x8, hx8, hd8⟩ := R8.k0.hw
      have hxl8 : x8.length = w0.length := by rw [dpAll_len hd8, List.length_map]
      have hzl : zs.length = w1.length := by rw [dpAll_len hz8, List.length_map]
      walk_at "rd"
      intro p9 np9
      have s9 := Same.new (o := .lst (x8 ++ zs)) np9
      have hp9 : WorkAt K (upd H8 p9 (.lst (x8 ++ zs))) p9 (w0 ++ w1.map (Sv.shift (l + m))) := ⟨_, .of upd_same, by
        rw [List.map_append, List.map_map]
        exact dpAll_app (dp_sameAll s9 _ _ hd8) (dp_sameAll s9 _ _ hz8)⟩
      walk_at "rd"
      refine ⟨p9, w0 ++ w1.map (Sv.shift (l + m)), c, rfl, hp9, J.good R8.o0 R8.o1, hc1, hc8, by rw [List.length_append, List.length_map]; omega, fun H10 ba nba s10 hba => ?_⟩
      rw [J.starts R8.o0 R8.o1 hc1] at hba
      have t10 := s9.trans s10
      have hfi10 := t10 _ _ hfi8
      have hse10 := t10 _ _ hse8
      have hsl : (Sv.starts c w1).length = w1.length := Sv.starts_len
      have hsl0 : (Sv.starts c w0).length = w0.length := Sv.starts_len
      have R10 := R8.same t10
      have M10 := M8.same t10
      walk_at "rd"
      refine ⟨⟨_, .of hse10⟩, fun D11 nD11 => lc_pure (walk_list (K := K) (xs := (Sv.starts c w1).map V.int)) (fun j => ((Sv.starts c w1)[j]?).map fun x => V.int (x + (l + m))) nD11 (by rw [List.length_map]; omega) (fun H11 s11 => .of (s11 _ _ hse10)) ?_ ?_⟩
      · rintro j x H11 H12 Qy Qn hj s11 ⟨rfl, e1⟩ hy hn'
        obtain ⟨z, hz, rfl⟩ := map_get e1
        refine ⟨rfl, ?_⟩
        walk_at "rd"
        exact hy _ _ (by rw [hz]; rfl) (Same.refl _)
      · intro H11 s11 hD11
        rw [List.length_map, filterMap_get] at hD11
        have eM : (Sv.starts c w1).map (fun x => V.int (x + (l + m))) = ((Sv.starts c w1).map (· + (l + m))).map V.int := by
          rw [List.map_map]
          rfl
        rw [eM] at hD11
        have hfi11 := s11 _ _ hfi10
        walk_at "rd"
        intro p12 np12
        have s12 := s11.trans (Same.new (o := .lst ((Sv.starts c w0).map V.int ++ ((Sv.starts c w1).map (· + (l + m))).map V.int)) np12)
        have hp12 : upd H11 p12 (.lst ((Sv.starts c w0).map V.int ++ ((Sv.starts c w1).map (· + (l + m))).map V.int)) p12 = some (.lst ((Sv.starts c w0 ++ (Sv.starts c w1).map (· + (l + m))).map V.int)) := by
          rw [upd_same, List.map_append]
        have hba12 := s12 _ _ hba
        refine ⟨_, _, dp_ints (.of hba12), dp_ints (.of hp12), shaped_inD _, shaped_inD _, ?_⟩
        rw [eqv_ints, decide_eq_true rfl]
        walk_at "rd"
        exact hq D _ _ ⟨a, d, _, ws, a0, a1, v4, v5, v6, v7, _, _, l + m, _, D8, w0, w1, rfl, R10.same s12, J, M10.same s12⟩ k
theorem ok_law {f : Addr} {fd : FuncData} (F : FunD K "law" "law" (defArgs sscLw) (defBody sscLw) (defScope sscLw) [] [] f fd) : FnOk P wd K mg base CX 3 f fd ["_law_script"] (spLaw K) := by
  refine F.ok scLw (fun vs H Q E h => ?_) (fun cdv A outer s H vs Q E hr h => ?_)
  · obtain ⟨a, ns, rfl, _⟩ := h
    rfl
  · obtain ⟨a, ns, rfl, hX, hl, k⟩ := h
    obtain ⟨t, ht, hq⟩ := rest3 (CX := CX) G__law_dice G__law_next G_served G_fewest T f cdv A outer s H E hr
    refine ⟨_, PSs.nox (pss_cons (ps_set (i := 1) scLw.nd rfl (Or.inl rfl) (pe_callG G__law_dice (hr.mono (by decide)) rfl pass0 (pa_cons (pv 0) pa_nil)))
      (pss_cons (ps_asg (pe_tup (pa_cons (pe_op op_add pe_int (pe_callG G__law_next (hr.mono (by decide)) rfl pass0 (pa_cons (pv 1) (pa_cons pe_int pa_nil)))) (pa_cons (pe_lst pa_nil) pa_nil))) (pg_tup rfl (pgs_cons (pg_name (i := 2) scLw.nd rfl (.inl rfl)) (pgs_cons (pg_name (i := 3) scLw.nd rfl (.inr rfl)) pgs_nil))))
      (pss_cons (ps_for PassesOwn.never rfl (pi_range1 (by rfl) T.range (pa_cons pe_int pa_nil)) (pg_name (i := 4) scLw.nd rfl (.inl rfl)) (pss_cons (ps_par (i := 5) (j := 6) (by rfl) scLw.nd rfl rfl (by decide) rfl rfl (pa_cons pe_int (pa_cons (pe_lst pa_nil) pa_nil)) (by rfl))
      (pss_cons (ps_for PassesOwn.never rfl (pi_range1 (by rfl) T.range (pa_cons (pe_callG G__law_next (hr.mono (by decide)) rfl pass0 (pa_cons (pv 1) (pa_cons pe_int pa_nil))) pa_nil)) (pg_name (i := 7) scLw.nd rfl (.inl rfl)) (pss_cons (ps_set (i := 5) scLw.nd rfl (Or.inl rfl) (pe_op op_add (pv 5) (pe_ix ix_list (pe_lst (pa_cons pe_int (pa_cons (pe_callG G__law_next (hr.mono (by decide)) rfl pass0 (pa_cons (pv 1) (pa_cons pe_int pa_nil))) (pa_cons (pe_callG G__law_next (hr.mono (by decide)) rfl pass0 (pa_cons (pv 1) (pa_cons pe_int pa_nil))) pa_nil)))) (pe_callG G__law_next (hr.mono (by decide)) rfl pass0 (pa_cons (pv 1) (pa_cons pe_int pa_nil))) (fun _ _ => rfl))))
      (pss_one (ps_expr (pe_bm PySem.F.plainAttrs_list PySem.F.slot_list_append PySem.F.type_list_append mt_append (pv 6) (pa_cons (pe_tup (pa_cons (pv 5) (pa_cons (pe_callG G__law_next (hr.mono (by decide)) rfl pass0 (pa_cons (pv 1) (pa_cons (pe_ix ix_list (pe_lst (pa_cons pe_int (pa_cons pe_int pa_nil))) (pe_callG G__law_next (hr.mono (by decide)) rfl pass0 (pa_cons (pv 1) (pa_cons pe_int pa_nil))) (fun _ _ => rfl)) pa_nil))) pa_nil))) pa_nil))))))
      (pss_one (ps_expr (pe_bm PySem.F.plainAttrs_list PySem.F.slot_list_append PySem.F.type_list_append mt_append (pv 3) (pa_cons (pv 6) pa_nil)))))))
      ht))), ?_⟩
    walk_at "rd"
    refine ⟨a, ns, rfl, hX, hl, fun H1 d nd s1 dc => ?_⟩
    walk_at "rd"
    intro c0 H2 c1 c2 f2 dc2
    obtain ⟨c, hc⟩ : ∃ c : Nat, (1 : Int) + c0 = (c : Int) := ⟨(1 + c0).toNat, by omega⟩
    walk_at "rd"
    intro ws nws
    walk_at "rd"
    intro tp ntp
    have htp : upd (upd H2 ws (.lst [])) tp (.tup [.int (1 + c0), .ref ws]) tp = some (.tup [.int (1 + c0), .ref ws]) := upd_same
    have R0 : B37 K (upd (upd H2 ws (.lst [])) tp (.tup [.int (1 + c0), .ref ws])) d ws [] := by
      obtain ⟨xs, hd⟩ := dc2.ex
      exact B37.same ⟨dc2.fr (F := fun _ => False) (Fr.new nws) id, upd_same, ne_of_none hd nws, fun _ h => nomatch h⟩ (Same.new ntp)
    generalize upd (upd H2 ws (.lst [])) tp (.tup [.int (1 + c0), .ref ws]) = H3 at R0 htp ⊢
    walk_at "rd"
    refine ⟨by decide, by decide, for_range (lo := 0) (n := (2 : Int).toNat) (fun i σ H' => ∃ (v4 v5 v6 v7 : Option V) (L : List (Addr × List (Int × Int))),
        σ = [some (.ref a), some (.ref d), some (.int (1 + c0)), some (.ref ws), v4, v5, v6, v7, none, none, none, none, none, none, none, none] ∧ L.length = i ∧ B37 K H' d ws L)
      ⟨none, none, none, none, [], rfl, rfl, R0⟩ ?_ ?_⟩
    · rintro i σ H5 hi ⟨v4, v5, v6, v7, L, rfl, hL, R5⟩
      have hi2 : i < 2 := hi
      walk_at "rd"
      intro wl nwl
      have R6 := R5.same (Same.new (o := .lst []) nwl)
      have W6 : WrkAt K (upd H5 wl (.lst [])) d wl [] := by
        obtain ⟨xs, hd⟩ := R5.dice.ex
        exact ⟨R6.dice, ⟨[], upd_same, .nil⟩, ne_of_none hd nwl⟩
      have nww : wl ≠ ws := (ne_of_none R5.hws nwl).symm
      have nwq : ∀ q ∈ L, q.1 ≠ wl := fun q hq => by
        obtain ⟨⟨xs, h1, _⟩, _⟩ := R5.all q hq
        exact ne_of_none h1 nwl
      generalize upd H5 wl (.lst []) = H6 at R6 W6 ⊢
      have dc6 := R6.dice
      walk_at "rd"
      intro n0 H7 n01 n02 f7 dc7
      have R7 := R6.next f7 dc7
      have W7 := W6.next f7 dc7
      walk_at "rd"
      refine ⟨by omega, by omega, for_range (lo := 0) (n := n0.toNat) (fun j σ H' => ∃ (M : Int) (v7 : Option V) (w : List (Int × Int)),
          σ = [some (.ref a), some (.ref d), some (.int (1 + c0)), some (.ref ws), some (.int (0 + i)), some (.int M), some (.ref wl), v7, none, none, none, none, none, none, none, none] ∧ OkW M (40 * j) w ∧ w.length = j ∧ WrkAt K H' d wl w ∧ B37 K H' d ws L)
        ⟨0, v7, [], rfl, OkW.nil (by omega), rfl, W7, R7⟩ ?_ ?_⟩
      · rintro j σ H8 hj ⟨M, v7, w, rfl, hO, hwl, W8, R8⟩
        have dc8 := R8.dice
        walk_at "rd"
        intro x1 H9 x11 x12 f9 dc9
        have R9 := R8.next f9 dc9
        have W9 := W8.next f9 dc9
        walk_at "rd"
        intro x2 H10 x21 x22 f10 dc10
        have R10 := R9.next f10 dc10
        have W10 := W9.next f10 dc10
        walk_at "rd"
        intro p np
        have R11 := R10.same (Same.new (o := .lst [.int 0, .int x1, .int x2]) np)
        have W11 := W10.same (Same.new (o := .lst [.int 0, .int x1, .int x2]) np)
        have dc11 := R11.dice
        walk_at "rd"
        intro y H12 y1 y2 f12 dc12
        have R12 := R11.next f12 dc12
        have W12 := W11.next f12 dc12
        have np12 : H12 p = some (.lst [.int 0, .int x1, .int x2]) := f12.but _ _ upd_same fun e => by
          obtain ⟨xs, hx⟩ := dc10.ex
          rw [e, hx] at np
          cases np
        obtain ⟨z, hz, hzz⟩ := pick3 (x0 := 0) (x1 := x1) (x2 := x2) y1 y2
        have hO1 : OkW (M + z) (40 * j + 40) w := hO.later (by omega) (by omega)
        obtain ⟨xs, hw12, hwd⟩ := W12.hw
        walk_at "rd"
        intro p2 np2
        have R13 := R12.same (Same.new (o := .lst [.int 6, .int 100]) np2)
        have W13 := W12.same (Same.new (o := .lst [.int 6, .int 100]) np2)
        have hw13 := Same.new (o := .lst [.int 6, .int 100]) np2 _ _ hw12
        have dc13 := R13.dice
        walk_at "rd"
        intro y2' H14 y21 y22 f14 dc14
        have R14 := R13.next f14 dc14
        have W14 := W13.next f14 dc14
        have hw14 := f14.but _ _ hw13 W13.n1.symm
        have np14 : H14 p2 = some (.lst [.int 6, .int 100]) := f14.but _ _ upd_same fun e => by
          obtain ⟨xs, hx⟩ := dc12.ex
          rw [e, hx] at np2
          cases np2
        obtain ⟨z2, hz2, hzz2⟩ := pick2 (x0 := 6) (x1 := 100) y21 y22
        walk_at "rd"
        intro h H15 h1 h2 f15 dc15
        have R15 := R14.next f15 dc15
        have W15 := W14.next f15 dc15
        have hw15 := f15.but _ _ hw14 W14.n1.symm
        have hxl : xs.length ≤ 1000 := by
          rw [dpAll_len hwd, List.length_map]
          omega
        have hmv : M + z ≤ 9999 := by
          have := hO1.hi
          omega
        walk_at "rd"
        intro t5 nt5
        walk_at "rd"
        have s16 := Same.new (o := .tup [.int (M + z), .int h]) nt5
        have W16 := (W15.same s16).add (q := (M + z, h)) (s16 _ _ hw15) (.of upd_same)
        have f16 : ∀ o, Fr (fun b => b = wl) (upd H15 t5 (.tup [.int (M + z), .int h])) (upd (upd H15 t5 (.tup [.int (M + z), .int h])) wl o) := fun o => Fr.at1 (mut_lst (s16 _ _ hw15))
        have R16 := (R15.same s16).fr (f16 (.lst (xs ++ [V.ref t5]))) W16.dice nww.symm nwq
        exact ⟨_, _, _, rfl, by
          have := hO1.add h1 (by omega) hmv
          rw [show (40 : Int) * ((j + 1 : Nat) : Int) = 40 * j + 40 by omega]
          exact this, by rw [List.length_append, List.length_singleton, hwl], W16, R16⟩
      · rintro σ H8 ⟨M, v7, w, rfl, hO, hwl, W8, R8⟩
        have hws8 := R8.hws
        have hlm : (L.map fun q => V.ref q.1).length ≤ 1000 := by
          rw [List.length_map]
          omega
        walk_at "rd"
        have f9 : ∀ o, Fr (fun b => b = ws) H8 (upd H8 ws o) := fun o => Fr.at1 (mut_lst hws8)
        refine ⟨_, _, _, _, L ++ [(wl, w)], rfl, by rw [List.length_append, hL]; rfl, (R8.dice.fr (f9 _) R8.n0), ?_, R8.n0, fun q hq => ?_⟩
        · rw [upd_same, List.map_append]
          rfl
        · rcases List.mem_append.mp hq with e | e
          · obtain ⟨⟨xs, h1, h2⟩, h3⟩ := R8.all q e
            exact ⟨⟨xs, (f9 _).but _ _ h1 h3.2.1, dp_kpAll (f9 _).kp _ _ (imm_prs _) h2⟩, h3⟩
          · rw [List.mem_singleton.mp e]
            obtain ⟨xs, h1, h2⟩ := W8.hw
            refine ⟨⟨xs, (f9 _).but _ _ h1 nww, dp_kpAll (f9 _).kp _ _ (imm_prs _) h2⟩, W8.n1, nww, hO.up ?_ (Int.le_refl _), by show w.length ≤ 15; omega⟩
            have := hO.hi
            omega
    · rintro σ H5 ⟨v4, v5, v6, v7, L, rfl, hL, R5⟩
      match L, hL with
      | [q0, q1], _ =>
        obtain ⟨h01, h02, h03, h04, h05⟩ := R5.all q0 (by simp)
        obtain ⟨h11, h12, h13, h14, h15⟩ := R5.all q1 (by simp)
        exact hq _ _ _ ⟨_, d, c, ws, q0.1, q1.1, v4, v5, v6, v7, q0.2, q1.2, by rw [hc], ⟨⟨R5.dice, h01, h02⟩, ⟨R5.dice, h11, h12⟩, R5.hws, R5.n0, h04, h14, h05, h15⟩, by omega, by omega⟩ k
end
end Ll

namespace Hd
open PySem PySem.Spec PyProof.Rows L2 Ll
def dscNw : He.DefD := ⟨("need_work", none), "need_work", "need_work", defArgs sscNw, defBody sscNw, defScope sscNw, [], []⟩
def dscSt : He.DefD := ⟨("starts", none), "starts", "starts", defArgs sscSt, defBody sscSt, defScope sscSt, [], []⟩
def dscSv : He.DefD := ⟨("served", none), "served", "served", defArgs sscSv, defBody sscSv, defScope sscSv, [], []⟩
def dscFw : He.DefD := ⟨("fewest", none), "fewest", "fewest", defArgs sscFw, defBody sscFw, defScope sscFw, [], []⟩
def dscDi : He.DefD := ⟨("_law_dice", none), "_law_dice", "_law_dice", defArgs sscDi, defBody sscDi, defScope sscDi, [], []⟩
def dscNx : He.DefD := ⟨("_law_next", none), "_law_next", "_law_next", defArgs sscNx, defBody sscNx, defScope sscNx, [], []⟩
def dscLw : He.DefD := ⟨("law", none), "law", "law", defArgs sscLw, defBody sscLw, defScope sscLw, [], []⟩
def fn : List He.DefD := [dscNw, dscSt, dscSv, dscFw, dscDi, dscNx, dscLw]
def fa : List He.Fa := [.glo "need_work", .glo "starts", .glo "served", .glo "fewest", .glo "_law_dice", .glo "_law_next", .glo "law", .free "len", .free "int", .free "min", .free "max", .free "range", .free "zip", .free "enumerate", .free "sorted", .int "LATEST" 9999, .int "MOST_LINES" 8, .int "MOST_HOLD" 99]
abbrev R : PySem.W.OpenRow := PySem.W.OpenLaw.row PySem.Challenge.rw_lentlines_k37_whole_works_far_apart
def loose0 : List Str := ["__name__", "LentError", "BadCount", "BadWork", "MOST_LINES", "LATEST", "MOST_HOLD", "need_work", "starts", "served", "fewest", "_law_dice", "_law_next"]
def loose : List Str := loose0
abbrev hk : PySem.W.Hook := He.hookD 4 fa fn
def ob (s : PySem.W.SharedT) : He.AlD := He.obsDG 4 fa fn (HandSHeadRun.getT s)
theorem ob_eq (s : PySem.W.SharedT) : ob s = hk.obs s.abs := He.obsDG_eq (HandSHeadRun.getT_eq s)
theorem run (w : World) : HandSHeadRun.RunEq R (PySem.W.view R.prog [15]) hk ob 1200 loose w := by
  intro os
  kernel_rfl

theorem glV_int {K : PySem.W.Frag} {h : Heap} {mg : Str → Option Value} (X : K.In h) (G : h.Ns mainGlobals mg) {x : Str} {i : Int} (c : (He.Fa.int x i).ok K = true) : GlV mg x (.int i) := by
  obtain ⟨t, e⟩ := He.int_ok X G c
  exact ⟨_, e, t, rfl⟩
theorem facts {P : Program} {w : World} {K : PySem.W.Frag} {h : Heap} {mg : Str → Option Value} {f : Addr} (X : K.In h) (G : h.Ns mainGlobals mg) (hfa : mg ("law" : Str) = some (.ref f)) (c : He.SaysD fa fn K) :
    ∃ fd : FuncData, (∀ (s : Shared) (v : Value), BindsTo s fd ⟨[v], []⟩ [("_law_script", v)]) ∧ ∀ base : Heap, K.In base → base.Ns mainGlobals mg → FnOk P w K mg base CX0 3 f fd ["_law_script"] (spLaw K) := by
  obtain ⟨fd0, F0⟩ := c.def_ 0 (d := dscNw) rfl
  obtain ⟨fd1, F1⟩ := c.def_ 1 (d := dscSt) rfl
  obtain ⟨fd2, F2⟩ := c.def_ 2 (d := dscSv) rfl
  obtain ⟨fd3, F3⟩ := c.def_ 3 (d := dscFw) rfl
  obtain ⟨fd4, F4⟩ := c.def_ 4 (d := dscDi) rfl
  obtain ⟨fd5, F5⟩ := c.def_ 5 (d := dscNx) rfl
  obtain ⟨fd6, F6⟩ := c.def_ 6 (d := dscLw) rfl
  have e := hfa.symm.trans (He.glo_ok X G (c.fact 6 (f := .glo "law") rfl))
  cases e
  have TS : TxSrv K mg := ⟨He.free_ok X G (c.fact 7 (f := .free "len") rfl), He.free_ok X G (c.fact 8 (f := .free "int") rfl), He.free_ok X G (c.fact 9 (f := .free "min") rfl), He.free_ok X G (c.fact 10 (f := .free "max") rfl), He.free_ok X G (c.fact 11 (f := .free "range") rfl), He.free_ok X G (c.fact 12 (f := .free "zip") rfl), He.free_ok X G (c.fact 13 (f := .free "enumerate") rfl), He.free_ok X G (c.fact 14 (f := .free "sorted") rfl),
    glV_int X G (c.fact 15 (f := .int "LATEST" 9999) rfl), glV_int X G (c.fact 16 (f := .int "MOST_LINES" 8) rfl), glV_int X G (c.fact 17 (f := .int "MOST_HOLD" 99) rfl)⟩
  have TD : TxDice K mg := ⟨TS.len, TS.int⟩
  have b := FunD.bindsA (ps := ["_law_script"]) F6 fun _ _ _ _ _ _ us hl => match us, hl with | [_], _ => rfl
  refine ⟨fd6, fun s v => b s [v] rfl, fun base _ _ => ?_⟩
  have G0 : FnG P w K mg base CX0 1 "need_work" ["work"] [] (spNeed K) := ⟨_, fd0, [], ok_need F0 TS, He.glo_ok X G (c.fact 0 (f := .glo "need_work") rfl), F0.kp, FunD.bindsN F0 fun _ _ _ _ _ _ us hl => match us, hl with | [_], _ => rfl, .nil⟩
  have G1 : FnG P w K mg base CX0 1 "starts" ["work", "count"] [] (spStarts K) := ⟨_, fd1, [], ok_starts F1 TS, He.glo_ok X G (c.fact 1 (f := .glo "starts") rfl), F1.kp, FunD.bindsN F1 fun _ _ _ _ _ _ us hl => match us, hl with | [_, _], _ => rfl, .nil⟩
  have G2 : FnG P w K mg base CX0 2 "served" ["work", "count"] [] (spServed K) := ⟨_, fd2, [], ok_served F2 TS G0 G1, He.glo_ok X G (c.fact 2 (f := .glo "served") rfl), F2.kp, FunD.bindsN F2 fun _ _ _ _ _ _ us hl => match us, hl with | [_, _], _ => rfl, .nil⟩
  have G3 : FnG P w K mg base CX0 2 "fewest" ["work", "longest"] [] (spFewest K) := ⟨_, fd3, [], ok_fewest F3 TS G0 G1, He.glo_ok X G (c.fact 3 (f := .glo "fewest") rfl), F3.kp, FunD.bindsN F3 fun _ _ _ _ _ _ us hl => match us, hl with | [_, _], _ => rfl, .nil⟩
  have G4 : FnG P w K mg base CX0 1 "_law_dice" ["_law_script"] [] (spDice K) := ⟨_, fd4, [], ok_dice F4 TD, He.glo_ok X G (c.fact 4 (f := .glo "_law_dice") rfl), F4.kp, FunD.bindsN F4 fun _ _ _ _ _ _ us hl => match us, hl with | [_], _ => rfl, .nil⟩
  have G5 : FnG P w K mg base CX0 1 "_law_next" ["_law_dice_here", "_law_many"] [] (spNext K) := ⟨_, fd5, [], ok_next F5 TD, He.glo_ok X G (c.fact 5 (f := .glo "_law_next") rfl), F5.kp, FunD.bindsN F5 fun _ _ _ _ _ _ us hl => match us, hl with | [_, _], _ => rfl, .nil⟩
  exact ok_law G4 G5 G2 G3 TS F6

end Hd
open PySem PySem.W PySem.Calls PyProof.Rows
set_option maxRecDepth 100000 in
set_option maxHeartbeats 0 in
theorem PySem.Challenge.cw_lentlines_k37_whole_works_far_apart_holds : PySem.Challenge.rw_lentlines_k37_whole_works_far_apart.Holds := by
  w_on; o_law
  refine HandSHeadRun.head_any (r := OpenLaw.row PySem.Challenge.rw_lentlines_k37_whole_works_far_apart) (q := view (OpenLaw.row PySem.Challenge.rw_lentlines_k37_whole_works_far_apart).prog [15]) (H := Hd.hk) (ob := Hd.ob) (M := 1200) (loose := Hd.loose) (d := HandSHeadRun.topDef (OpenLaw.row PySem.Challenge.rw_lentlines_k37_whole_works_far_apart).prog 15) (kwd := []) Hd.ob_eq
    (by kernel_rfl) (fun s => by kernel_rfl) Hd.run (by kernel_rfl) (by kernel_rfl) (by kernel_rfl) (by rfl) (by first | assumption | decide +kernel) (by decide +kernel) ⟨rfl, rfl, rfl, rfl, rfl, by decide +kernel⟩ ?hw ?hc
  case hw => w_witness2
  case hc =>
    refine L2.walk_ofE (l := PySem.Challenge.rw_lentlines_k37_whole_works_far_apart) (n := 63) (k := 3) (x := "_law_script") (CX := L2.CX0) rfl (by decide) (by kernel_rfl) ⟨rfl, by decide, by decide⟩ ?F (fun _ _ _ _ z => z)
    intro w mg fa h Y G hmg0
    obtain ⟨K, KX, c⟩ := Y
    have hmg : mg ("law" : PySem.Str) = some (.ref fa) := by
      have e : (HandSHeadRun.topDef (OpenLaw.row PySem.Challenge.rw_lentlines_k37_whole_works_far_apart).prog 15).name = ("law" : PySem.Str) := by kernel_rfl
      rw [← e]
      exact hmg0
    obtain ⟨fd, hb, hF⟩ := Hd.facts (P := (PySem.Challenge.rw_lentlines_k37_whole_works_far_apart).prog) (w := w) KX G hmg c
    exact ⟨K, fd, Ll.spLaw K, KX, hb, fun H a ns hl hO hS => ⟨a, ns, rfl, Ll.FixL.of hO hS, hl, fun _ => rfl⟩, hF⟩
#print axioms PySem.Challenge.cw_lentlines_k37_whole_works_far_apart_holds
