import PyProof.Rows.All
import Wide.All
import OpenK.AllK
import Wide.FinOn
import KE.KStateDown
import HandS.Base
import HandS.Call
import HandS.List
import HandS.Comp
import HandS.Ends
import HandS.Dict
import HandS.Iter
import HandS.Text
import HandS.Words
import HandS.WordsList
import HandS.WordsDict
import HandS.WordsExc
import HandS.Exc
import HandS.ExcOwn
import HandS.Defaults
import HandS.Zip
import HandS.Flow
import HandS.Style
import HandS.More
import HandS.Head0
import HandS.Head1
import HandS.Head2
import HandS.Walk
import HandS.HeadEnd
import HandS.HeadHook1
import HandS.HeadHook2
import PySem.Challenge.RW_lentlines_k38_whole_holds_of_nothing
set_option Elab.async false
set_option linter.all false
set_option maxRecDepth 100000
set_option maxHeartbeats 4000000

namespace Ll
open PySem
def topS (i : Nat) : Stmt := PySem.Challenge.pw_lentlines_k38_whole_holds_of_nothing.main.body.getD i (.Pass ⟨0, 0, 0, 0⟩)
end Ll

namespace Ll
open PySem PySem.Spec PyProof.Rows L2
/-! ### heaps: what stays but for F -/
/-- all but F stays as it was -/
def But (F : Addr → Prop) (H H' : Hp) : Prop := ∀ b o, H b = some o → ¬ F b → H' b = some o
theorem But.refl {F : Addr → Prop} (H : Hp) : But F H H := fun _ _ h _ => h
theorem But.trans {F : Addr → Prop} {H H1 H2 : Hp} (a : But F H H1) (b : But F H1 H2) : But F H H2 := fun c o h n => b c o (a c o h n) n
theorem But.mono {F G : Addr → Prop} {H H' : Hp} (a : But F H H') (h : ∀ b, F b → G b) : But G H H' := fun c o e n => a c o e fun z => n (h c z)
theorem Same.new {H : Hp} {p : Addr} {o : HO} (h : H p = none) : Same H (upd H p o) := fun a u e => by
  rw [upd_ne (ne_of_none e h)]
  exact e
/-- what was free at the beginning may change -/
theorem Same.mut {H H' : Hp} {p : Addr} {o : HO} (e : Same H H') (h : H p = none) : Same H (upd H' p o) := fun a u ha => by
  rw [upd_ne (ne_of_none ha h)]
  exact e a u ha
theorem Same.by {H H1 H2 : Hp} {F : Addr → Prop} (e : Same H H1) (h : But F H1 H2) (n : ∀ b, F b → H b = none) : Same H H2 := fun a u ha =>
  h a u (e a u ha) fun z => by
    rw [n a z] at ha
    cases ha
theorem but1 {H : Hp} {d : Addr} {o : HO} : But (fun b => b = d) H (upd H d o) := fun b u e n => by
  rw [upd_ne n]
  exact e
theorem But.same {H H' : Hp} {F : Addr → Prop} (h : Same H H') : But F H H' := fun b o e _ => h b o e
/-- what never changes is kept -/
def Kp (H H' : Hp) : Prop := ∀ b o, H b = some o → ¬ Mut (some o) → H' b = some o
/-- all but F stays, and what never changes -/
structure Fr (F : Addr → Prop) (H H' : Hp) : Prop where
  but : But F H H'
  kp : Kp H H'
theorem Fr.refl {F : Addr → Prop} (H : Hp) : Fr F H H := ⟨But.refl H, fun _ _ h _ => h⟩
theorem Fr.trans {F : Addr → Prop} {H H1 H2 : Hp} (a : Fr F H H1) (b : Fr F H1 H2) : Fr F H H2 := ⟨a.but.trans b.but, fun c o h n => b.kp c o (a.kp c o h n) n⟩
theorem Fr.mono {F G : Addr → Prop} {H H' : Hp} (a : Fr F H H') (h : ∀ b, F b → G b) : Fr G H H' := ⟨a.but.mono h, a.kp⟩
theorem Fr.same {F : Addr → Prop} {H H' : Hp} (h : Same H H') : Fr F H H' := ⟨But.same h, fun b o e _ => h b o e⟩
theorem Fr.new {F : Addr → Prop} {H : Hp} {p : Addr} {o : HO} (h : H p = none) : Fr F H (upd H p o) := Fr.same (Same.new h)
theorem Fr.at {F : Addr → Prop} {H : Hp} {d : Addr} {o : HO} (m : Mut (H d)) (f : F d) : Fr F H (upd H d o) := ⟨fun b u e n => by
  rw [upd_ne fun z => n (by rw [z]; exact f)]
  exact e, fun b u e n => by
  rw [upd_ne fun z => n (by rw [z] at e; rw [← e]; exact m)]
  exact e⟩
theorem Fr.at1 {H : Hp} {d : Addr} {o : HO} (m : Mut (H d)) : Fr (fun b => b = d) H (upd H d o) := Fr.at m rfl
/-- what was free at the beginning may change -/
theorem Fr.late {F G : Addr → Prop} {H H1 H2 : Hp} (a : Fr F H H1) (b : Fr G H1 H2) (h : ∀ c, G c → F c ∨ H c = none) : Fr F H H2 := by
  refine ⟨fun c o e n => b.but c o (a.but c o e n) fun g => ?_, fun c o e n => b.kp c o (a.kp c o e n) n⟩
  rcases h c g with z | z
  · exact n z
  · rw [z] at e
    cases e
theorem Fr.toSame {F : Addr → Prop} {H H1 : Hp} (a : Fr F H H1) (h : ∀ b, F b → H b = none) : Same H H1 := fun c o e => a.but c o e fun f => by
  rw [h c f] at e
  cases e
theorem mut_lst {H : Hp} {d : Addr} {xs : List V} (h : H d = some (.lst xs)) : Mut (H d) := by
  rw [h]
  trivial
theorem mut_ins {H : Hp} {d C dx : Addr} {fs : List (Str × V)} (h : H d = some (.ins C dx fs)) : Mut (H d) := by
  rw [h]
  trivial
theorem mut_dK {H : Hp} {d : Addr} {xs : List (Key × V)} (h : H d = some (.dK xs)) : Mut (H d) := by
  rw [h]
  trivial
/-- a list that never changes -/
def FixL (K : PySem.W.Frag) (H : Hp) (a : Addr) (xs : List V) : Prop := (∃ o, H a = some (.frz o (.lst xs))) ∨
  ∃ (o : Obj) (its : Array Value) (n : Nat), K.lookup a = some o ∧ o.cls = .type "list" ∧ o.dict = none ∧ o.data = .seq its n ∧ its.size ≤ sizeLine ∧ Vals xs its.toList
theorem FixL.sq {K : PySem.W.Frag} {H : Hp} {a : Addr} {xs : List V} (h : FixL K H a xs) : SqL K H a xs := by
  rcases h with h | h
  · exact .inl (.inr h)
  · exact .inr h
theorem FixL.kp {K : PySem.W.Frag} {H H' : Hp} {a : Addr} {xs : List V} (h : FixL K H a xs) (k : Kp H H') : FixL K H' a xs := by
  rcases h with ⟨o, h⟩ | h
  · exact .inl ⟨o, k _ _ h fun z => z⟩
  · exact .inr h
theorem FixL.of {K : PySem.W.Frag} {H : Hp} {a : Addr} {xs : List V} (hO : Only H) (h : SqL K H a xs) : FixL K H a xs := by
  rcases h with (h | ⟨o, h⟩) | h
  · rcases hO a with z | ⟨o, ys, z⟩
    · rw [h] at z
      cases z
    · rw [h] at z
      cases z
  · exact .inl ⟨o, h⟩
  · exact .inr h
/-! ### data that never changes: scalars, tuples of such -/
mutual
def Imm : PyData → Bool
  | .none => true
  | .bool _ => true
  | .int _ => true
  | .str _ => true
  | .tuple xs => ImmAll xs
  | .list _ => false
  | .dict _ => false
def ImmAll : List PyData → Bool
  | [] => true
  | d :: ds => Imm d && ImmAll ds
end
theorem sqT_kp {K : PySem.W.Frag} {H H' : Hp} {a : Addr} {xs : List V} (h : SqT K H a xs) (k : Kp H H') : SqT K H' a xs := by
  rcases h with (h | ⟨o, h⟩) | h
  · exact .inl (.inl (k _ _ h fun z => z))
  · exact .inl (.inr ⟨o, k _ _ h fun z => z⟩)
  · exact .inr h
theorem sqL_but {K : PySem.W.Frag} {F : Addr → Prop} {H H' : Hp} {a : Addr} {xs : List V} (h : SqL K H a xs) (k : But F H H') (n : ¬ F a) : SqL K H' a xs := by
  rcases h with (h | ⟨o, h⟩) | h
  · exact .inl (.inl (k _ _ h n))
  · exact .inl (.inr ⟨o, k _ _ h n⟩)
  · exact .inr h
mutual
theorem dp_kp {K : PySem.W.Frag} {H H' : Hp} (k : Kp H H') : ∀ (d : PyData) (v : V), Imm d = true → Dp K H v d → Dp K H' v d
  | .none, _, _, h => by cases h; exact .non
  | .bool _, _, _, h => by cases h; exact .bl _
  | .int _, _, _, h => by cases h; exact .int _
  | .str _, _, _, h => by cases h; exact .str _
  | .tuple ds, _, i, h => by
    cases h with
    | tup hs ha => exact .tup (sqT_kp hs k) (dp_kpAll k ds _ i ha)
  | .list _, _, i, _ => by cases i
  | .dict _, _, i, _ => by cases i
theorem dp_kpAll {K : PySem.W.Frag} {H H' : Hp} (k : Kp H H') : ∀ (ds : List PyData) (vs : List V), ImmAll ds = true → DpAll K H vs ds → DpAll K H' vs ds
  | [], _, _, h => by cases h; exact .nil
  | d :: ds, _, i, h => by
    have i' : (Imm d && ImmAll ds) = true := i
    have i2 := Bool.and_eq_true_iff.mp i'
    cases h with
    | cons h1 h2 => exact .cons (dp_kp k d _ i2.1 h1) (dp_kpAll k ds _ i2.2 h2)
end
mutual
theorem dp_same {K : PySem.W.Frag} {H H' : Hp} (k : Same H H') : ∀ (d : PyData) (v : V), Dp K H v d → Dp K H' v d
  | .none, _, h => by cases h; exact .non
  | .bool _, _, h => by cases h; exact .bl _
  | .int _, _, h => by cases h; exact .int _
  | .str _, _, h => by cases h; exact .str _
  | .tuple ds, _, h => by
    cases h with
    | tup hs ha => exact .tup (sqT_kp hs fun b o e _ => k b o e) (dp_sameAll k ds _ ha)
  | .list ds, _, h => by
    cases h with
    | lst hs ha => exact .lst (Same.seq k hs) (dp_sameAll k ds _ ha)
  | .dict _, _, h => by cases h
theorem dp_sameAll {K : PySem.W.Frag} {H H' : Hp} (k : Same H H') : ∀ (ds : List PyData) (vs : List V), DpAll K H vs ds → DpAll K H' vs ds
  | [], _, h => by cases h; exact .nil
  | d :: ds, _, h => by
    cases h with
    | cons h1 h2 => exact .cons (dp_same k d _ h1) (dp_sameAll k ds _ h2)
end
theorem dpAll_get {K : PySem.W.Frag} {H : Hp} : ∀ {vs : List V} {ds : List PyData} {i : Nat} {v : V}, DpAll K H vs ds → vs[i]? = some v → ∃ d, ds[i]? = some d ∧ Dp K H v d
  | [], _, _, _, _, e => by simp at e
  | v0 :: vs, _, 0, v, h, e => by
    cases h with
    | cons h1 h2 =>
      have e2 : v0 = v := by simpa using e
      subst e2
      exact ⟨_, rfl, h1⟩
  | v0 :: vs, _, i + 1, v, h, e => by
    cases h with
    | cons h1 h2 =>
      obtain ⟨d, e1, h3⟩ := dpAll_get (i := i) h2 (by simpa using e)
      exact ⟨d, by simpa using e1, h3⟩
theorem dpAll_len {K : PySem.W.Frag} {H : Hp} : ∀ {vs : List V} {ds : List PyData}, DpAll K H vs ds → vs.length = ds.length
  | [], _, h => by cases h; rfl
  | _ :: _, _, h => by
    cases h with
    | cons h1 h2 => rw [List.length_cons, List.length_cons, dpAll_len h2]
theorem dpAll_snoc {K : PySem.W.Frag} {H : Hp} : ∀ {vs : List V} {ds : List PyData} {v : V} {d : PyData}, DpAll K H vs ds → Dp K H v d → DpAll K H (vs ++ [v]) (ds ++ [d])
  | [], _, _, _, h, h1 => by cases h; exact .cons h1 .nil
  | _ :: _, _, _, _, h, h1 => by
    cases h with
    | cons h2 h3 => exact .cons h2 (dpAll_snoc h3 h1)
theorem dpAll_ints {K : PySem.W.Frag} {H : Hp} : ∀ (l : List Int), DpAll K H (l.map V.int) (l.map PyData.int)
  | [] => .nil
  | _ :: l => .cons (.int _) (dpAll_ints l)
/-- a pair of ints as data -/
def prD (p : Int × Int) : PyData := .tuple [.int p.1, .int p.2]
theorem dp_pr {K : PySem.W.Frag} {H : Hp} {v : V} {p : Int × Int} (h : Dp K H v (prD p)) : ∃ t, v = .ref t ∧ SqT K H t [.int p.1, .int p.2] := by
  cases h with
  | tup hs ha =>
    cases ha with
    | cons h1 h2 =>
      cases h1
      cases h2 with
      | cons h3 h4 =>
        cases h3
        cases h4
        exact ⟨_, rfl, hs⟩
theorem imm_prs : ∀ l : List (Int × Int), ImmAll (l.map prD) = true
  | [] => rfl
  | _ :: l => by
    show (true && ImmAll (l.map prD)) = true
    rw [imm_prs l]
    rfl
/-! ### a def of the module, by its promise -/
def FnG (P : Program) (w : World) (K : PySem.W.Frag) (mg : Str → Option Value) (base : Heap) (CX : CXT) (k : Nat) (x : Str) (ps : List Str) (dvs : List V) (sp : Sp) : Prop :=
  ∃ (f : Addr) (fd : FuncData) (ds : List Value), FnOk P w K mg base CX k f fd ps sp ∧ mg x = some (.ref f) ∧ PySem.W.keepIn K (.ref f) = true ∧ Binds K fd ps ds ∧ Vals dvs ds
section
variable {X : Cx} {CX : CXT} {k : Nat} {x : Str} {ps : List Str} {dvs : List V} {sp : Sp} {E : XK} {e : Expr} {es : List Expr} {t : TA} {p pos : Pos}
theorem pe_callG (F : FnG X.prog X.w X.K X.mg X.base CX k x ps dvs sp) (hr : Room k X.A) (hg : Gl X x) (hx : Passes CX X E) (ha : PA X (e :: es) t)
    (hdb : (x == ("__debug__" : Str)) = false := by decide) (he : starEach (e :: es) X.env = (false, eval e X.env) :: starEach es X.env := by rfl) (hpl : (backTo pos (starEach es X.env)).any (·.1) = false := by rfl) :
    PE X (.Call (.Name x p) (e :: es) [] pos) (tCall sp dvs E t) := by
  obtain ⟨f, fd, ds, F, hm, hk, hb, hd⟩ := F
  exact pe_call F hr hg hm hk hb hd hx ha hdb he hpl
theorem pe_call0G (F : FnG X.prog X.w X.K X.mg X.base CX k x ps dvs sp) (hr : Room k X.A) (hg : Gl X x) (hx : Passes CX X E)
    (hdb : (x == ("__debug__" : Str)) = false := by decide) : PE X (.Call (.Name x p) [] [] pos) (tCall sp dvs E tNil) := by
  obtain ⟨f, fd, ds, F, hm, hk, hb, hd⟩ := F
  exact pe_call0 F hr hg hm hk hb hd hx hdb
end
/-- a module's name holds v -/
def GlV (mg : Str → Option Value) (x : Str) (v : V) : Prop := ∃ u, mg x = some u ∧ RelV v u
theorem pe_gV {X : Cx} {x : Str} {v : V} {pos : Pos} (hg : Gl X x) (h : GlV X.mg x v) (hdb : (x == ("__debug__" : Str)) = false := by decide) : PE X (.Name x pos) (tC v) := by
  obtain ⟨u, h1, h2⟩ := h
  exact pe_glob hg h1 h2 hdb
/-! ### lists -/
theorem take_more {α : Type} : ∀ {l : List α} {i : Nat} {x : α}, l[i]? = some x → l.take (i + 1) = l.take i ++ [x]
  | [], i, x, h => by simp at h
  | a :: l, 0, x, h => by
    have e : a = x := Option.some.inj h
    subst e
    rfl
  | a :: l, i + 1, x, h => by
    have ih := take_more (l := l) (i := i) (x := x) h
    show a :: l.take (i + 1) = a :: l.take i ++ [x]
    rw [ih]
    rfl
theorem map_get {α β : Type} {f : α → β} {l : List α} {i : Nat} {y : β} (h : (l.map f)[i]? = some y) : ∃ x, l[i]? = some x ∧ y = f x := by
  rw [List.getElem?_map] at h
  cases e : l[i]? with
  | none =>
    rw [e] at h
    cases h
  | some x =>
    rw [e] at h
    exact ⟨x, rfl, (Option.some.inj h).symm⟩
end Ll
namespace Ll
theorem iteD {p : Prop} [Decidable p] {A B : Prop} (h1 : p → A) (h2 : ¬ p → B) : if decide p = true then A else B := by
  by_cases h : p
  · rw [decide_eq_true h, if_pos rfl]
    exact h1 h
  · rw [decide_eq_false h, if_neg Bool.false_ne_true]
    exact h2 h
theorem iteDT {p : Prop} [Decidable p] {A B : Prop} (h : p) (q : A) : if decide p = true then A else B := by
  rw [decide_eq_true h, if_pos rfl]
  exact q
theorem iteDF {p : Prop} [Decidable p] {A B : Prop} (h : ¬ p) (q : B) : if decide p = true then A else B := by
  rw [decide_eq_false h, if_neg Bool.false_ne_true]
  exact q
theorem iteNT {p : Prop} [Decidable p] {A B : Prop} (h : ¬ p) (q : A) : if (!decide p) = true then A else B := by
  rw [decide_eq_false h]
  exact q
theorem iteNF {p : Prop} [Decidable p] {A B : Prop} (h : p) (q : B) : if (!decide p) = true then A else B := by
  rw [decide_eq_true h]
  exact q
theorem iteN {p : Prop} [Decidable p] {A B : Prop} (h1 : ¬ p → A) (h2 : p → B) : if (!decide p) = true then A else B := by
  by_cases h : p
  · rw [decide_eq_true h]
    exact h2 h
  · rw [decide_eq_false h]
    exact h1 h
end Ll

/-! ### steps of a reading: sd a side, hp what stands at an address, hs a sequence, rd as far as it goes by itself -/
local macro_rules | `(tactic| walk_at "sd") => `(tactic| (show (_ : Prop); first
  | omega | decide
  | exact ⟨by omega, by omega⟩ | exact ⟨by decide, by decide⟩ | exact Or.inl ⟨by omega, by omega⟩ | exact Or.inr ⟨by omega, by omega⟩ | exact ⟨by omega, by omega, by omega⟩ | exact ⟨by omega, by omega, by omega, by omega⟩
  | (show _ ≤ PySem.sizeLine; decide) | (show _ < PySem.sizeLine; decide)))
local macro_rules | `(tactic| walk_at "hp") => `(tactic| first | assumption | exact L2.upd_same | exact Ll.Same.new (by assumption) _ _ (by assumption))
local macro_rules | `(tactic| walk_at "hm") => `(tactic| first | exact Ll.mut_lst (by walk_at "hp") | exact Ll.mut_ins (by walk_at "hp") | exact Ll.mut_dK (by walk_at "hp"))
local macro_rules | `(tactic| walk_at "hb") => `(tactic| first | exact Ll.Fr.refl _ | exact Ll.Fr.at1 (by walk_at "hm") | exact Ll.Fr.trans (Ll.Fr.at1 (by walk_at "hm")) (Ll.Fr.at1 (by walk_at "hm")))
local macro_rules | `(tactic| walk_at "hs") => `(tactic| first | exact L2.SqL.of (by walk_at "hp") | assumption | exact (‹∀ H', Ll.Fr _ _ H' → L2.SqL _ H' _ _› _ (by walk_at "hb")))
local macro_rules | `(tactic| walk_at "ht") => `(tactic| first | exact L2.SqT.of (by walk_at "hp") | assumption)
local macro_rules | `(tactic| walk_at "ln") => `(tactic| first | omega | (simp only [List.length_map, List.length_append, List.length_replicate, List.length_cons, List.length_nil, List.length_singleton, List.length_set, List.length_range]; omega))
local macro_rules | `(tactic| walk_at "sz") => `(tactic| (show (_ : Prop); first | decide | exact Nat.lt_of_le_of_lt (m := 100000) (by walk_at "ln") (by decide) | exact Nat.le_trans (m := 100000) (by walk_at "ln") (by decide)))
local macro_rules | `(tactic| walk_at "rd1") => `(tactic| first
  | refine ⟨_, rfl, ?_⟩
  | refine ⟨_, _, rfl, rfl, (by walk_at "sd"), ?_⟩
  | refine ⟨_, _, rfl, rfl, ?_⟩
  | refine ⟨_, _, _, _, rfl, rfl, (by walk_at "hs"), (by first | rfl | assumption), ?_⟩
  | refine ⟨_, _, _, _, rfl, rfl, (by walk_at "hp"), (by rfl), ?_⟩
  | refine ⟨_, _, rfl, .inl (by walk_at "hs"), ?_⟩
  | refine ⟨.inl ⟨rfl, _, (by walk_at "hs")⟩, ?_⟩
  | refine ⟨_, _, _, rfl, rfl, (by walk_at "hp"), (by walk_at "sz"), ?_⟩
  | refine ⟨_, _, rfl, (by walk_at "ht"), rfl, ?_⟩
  | refine ⟨_, _, rfl, ?_⟩
  | refine ⟨rfl, ?_⟩
  | refine ⟨(by (show _ ≤ PySem.sizeLine); walk_at "sz"), ?_⟩
  | refine ⟨(by assumption), (by walk_at "sd"), (by walk_at "sd"), ?_⟩
  | refine L2.iteT ?_
  | refine L2.iteF ?_
  | refine Ll.iteDT (by omega) ?_
  | refine Ll.iteDF (by omega) ?_
  | refine Ll.iteNT (by omega) ?_
  | refine Ll.iteNF (by omega) ?_)
local macro_rules | `(tactic| walk_at "rd") => `(tactic| repeat walk_at "rd1")

namespace Ll
open PySem PySem.Spec PyProof.Rows L2
/-! ### the dice -/
/-- dice stand at d: their list holds the script's, a place, a mixed number, a rest -/
def DiceAt (K : PySem.W.Frag) (H : Hp) (d : Addr) : Prop := ∃ (scr : Addr) (ns : List Int) (i m r : Int), FixL K H scr (ns.map V.int) ∧ ns.length ≤ 63 ∧ 0 ≤ i ∧ 0 ≤ m ∧ m < 2147483647 ∧ H d = some (.lst [.ref scr, .int i, .int m, .int r])
theorem DiceAt.fr {K : PySem.W.Frag} {F : Addr → Prop} {H H' : Hp} {d : Addr} (h : DiceAt K H d) (k : Fr F H H') (n : ¬ F d) : DiceAt K H' d := by
  obtain ⟨scr, ns, i, m, r, h1, h2, h3, h4, h5, h6⟩ := h
  exact ⟨scr, ns, i, m, r, h1.kp k.kp, h2, h3, h4, h5, k.but _ _ h6 n⟩
theorem DiceAt.mut {K : PySem.W.Frag} {H : Hp} {d : Addr} (h : DiceAt K H d) : Mut (H d) := by
  obtain ⟨scr, ns, i, m, r, h1, h2, h3, h4, h5, h6⟩ := h
  exact mut_lst h6
theorem DiceAt.ex {K : PySem.W.Frag} {H : Hp} {d : Addr} (h : DiceAt K H d) : ∃ xs, H d = some (.lst xs) := by
  obtain ⟨scr, ns, i, m, r, h1, h2, h3, h4, h5, h6⟩ := h
  exact ⟨_, h6⟩
def spDice (K : PySem.W.Frag) : Sp := fun vs H Q _ => ∃ (a : Addr) (ns : List Int), vs = [.ref a] ∧ FixL K H a (ns.map V.int) ∧ ns.length ≤ 63 ∧
  ∀ (H' : Hp) (d : Addr), H d = none → Same H H' → DiceAt K H' d → Q (.ref d) H'
def spNext (K : PySem.W.Frag) : Sp := fun vs H Q _ => ∃ (d : Addr) (many : Int), vs = [.ref d, .int many] ∧ DiceAt K H d ∧ 0 < many ∧ many < 1073741824 ∧
  ∀ (v : Int) (H' : Hp), 0 ≤ v → v < many → Fr (fun b => b = d) H H' → DiceAt K H' d → Q (.int v) H'
structure TxDice (K : PySem.W.Frag) (mg : Str → Option Value) : Prop where
  len : mg "len" = none
  int : mg "int" = none
section
variable {P : Program} {w : World} {K : PySem.W.Frag} {mg : Str → Option Value} {base : Heap} {CX : CXT}
abbrev sscDi : Stmt := topS 13
abbrev nscDi : List Str := ["_law_script", "_law_mixed", "_law_cell"]
theorem scDi : FnScope nscDi ["_law_script"] (defScope sscDi) := ⟨rfl, rfl, rfl, by decide +kernel, rfl, by decide +kernel, by decide +kernel⟩
theorem ok_dice {f : Addr} {fd : FuncData} (F : FunD K "_law_dice" "_law_dice" (defArgs sscDi) (defBody sscDi) (defScope sscDi) [] [] f fd) (T : TxDice K mg) : FnOk P w K mg base CX 1 f fd ["_law_script"] (spDice K) := by
  refine F.ok scDi (fun vs H Q E h => ?_) (fun cdv A outer s H vs Q E hr h => ?_)
  · obtain ⟨a, ns, rfl, _⟩ := h
    rfl
  · obtain ⟨a, ns, rfl, hX, hl, k⟩ := h
    have hS := hX.sq
    refine ⟨_, PSs.nox (pss_cons (ps_set (i := 1) scDi.nd rfl (Or.inl rfl) pe_int)
      (pss_cons (ps_for PassesOwn.never rfl (pi_list (pv 0)) (pg_name (i := 2) scDi.nd rfl (.inl rfl)) (pss_one (ps_set (i := 1) scDi.nd rfl (Or.inl rfl) (pe_op op_mod (pe_op op_add (pe_op op_add (pe_op op_mul (pv 1) pe_int) (pe_op op_mul (pe_op op_mod (pv 2) pe_int) pe_int)) pe_int) pe_int))))
      (pss_one (ps_ret (pe_lst (pa_cons (pv 0) (pa_cons pe_int (pa_cons (pe_op op_mul (pv 1) (pe_callTy call_int1 (by rfl) T.int (by decide +kernel) (pa_cons (pe_cmpR (op_gt) (pe_callB call_len_seq (by rfl) T.len PySem.boot_len (pa_cons (pv 0) pa_nil)) pe_int (nomark _)) pa_nil))) (pa_cons pe_int pa_nil))))))))), ?_⟩
    refine ⟨_, rfl, a, rfl, ⟨_, hS⟩, for_list (K := K) (a := a) (xs := ns.map V.int) (fun i σ H' => ∃ (m : Int) (v : Option V), 0 ≤ m ∧ m < 2147483647 ∧ σ = [some (.ref a), some (.int m), v] ∧ H' = H)
      ⟨0, none, by decide, by decide, rfl, rfl⟩ (fun i σ H' _ ⟨_, _, _, _, _, e⟩ => by rw [e]; exact hS) ?_ ?_⟩
    · rintro i y σ H' hi ⟨m, v, h0, h1, rfl, rfl⟩
      obtain ⟨z, _, rfl⟩ := map_get hi
      walk_at "rd"
      exact ⟨_, _, Int.emod_nonneg _ (by decide), Int.emod_lt_of_pos _ (by decide), rfl, rfl⟩
    · rintro σ H' ⟨m, v, h0, h1, rfl, rfl⟩
      walk_at "rd"
      refine Or.inr ⟨_, rfl, ?_⟩
      walk_at "rd"
      refine fun d hd => k _ d hd (Same.new hd) ⟨a, ns, 0, _, 0, hX.kp (Fr.new (F := fun _ => False) hd).kp, hl, by decide, ?_, ?_, upd_same⟩
      · exact Int.mul_nonneg h0 (by split <;> decide)
      · split <;> omega
abbrev sscNx : Stmt := topS 14
abbrev nscNx : List Str := ["_law_dice_here", "_law_many", "_law_found", "_law_cell"]
theorem scNx : FnScope nscNx ["_law_dice_here", "_law_many"] (defScope sscNx) := ⟨rfl, rfl, rfl, by decide +kernel, rfl, by decide +kernel, by decide +kernel⟩
theorem ok_next {f : Addr} {fd : FuncData} (F : FunD K "_law_next" "_law_next" (defArgs sscNx) (defBody sscNx) (defScope sscNx) [] [] f fd) (T : TxDice K mg) : FnOk P w K mg base CX 1 f fd ["_law_dice_here", "_law_many"] (spNext K) := by
  refine F.ok scNx (fun vs H Q E h => ?_) (fun cdv A outer s H vs Q E hr h => ?_)
  · obtain ⟨d, many, rfl, _⟩ := h
    rfl
  · obtain ⟨d, many, rfl, ⟨scr, ns, i, m, r, hX, hl, hi, hm0, hm1, hd⟩, h0, h1, k⟩ := h
    have f1 : ∀ o, Fr (fun b => b = d) H (upd H d o) := fun o => Fr.at1 (mut_lst hd)
    have f2 : ∀ xs o, Fr (fun b => b = d) H (upd (upd H d (.lst xs)) d o) := fun xs o => (f1 _).trans (Fr.at1 (mut_lst upd_same))
    have hS1 : ∀ H', Fr (fun b => b = d) H H' → SqL K H' scr (ns.map V.int) := fun H' e => (hX.kp e.kp).sq
    have hX1 := fun o => hX.kp (f1 o).kp
    have hX2 := fun xs o => hX.kp (f2 xs o).kp
    refine ⟨_, PSs.nox (pss_cons (ps_if (pt_cmpR (op_gt) (pe_ix ix_list (pv 0) pe_int (fun _ _ => rfl)) pe_int (nomark _)) (pss_cons (ps_set (i := 2) scNx.nd rfl (Or.inl rfl) (pe_op op_modN (pe_ix ix_list (pv 0) pe_int (fun _ _ => rfl)) (pv 1)))
      (pss_cons (ps_asg (pe_op op_fdivN (pe_ix ix_list (pv 0) pe_int (fun _ _ => rfl)) (pv 1)) (pg_sub (pv 0) pe_int set_list))
      (pss_one (ps_ret (pv 2))))) pss_nil)
      (pss_cons (ps_asg (pe_op op_add (pe_ix ix_list (pv 0) pe_int (fun _ _ => rfl)) pe_int) (pg_sub (pv 0) pe_int set_list))
      (pss_cons (ps_if (pt_cmpR (op_le) (pe_ix ix_list (pv 0) pe_int (fun _ _ => rfl)) (pe_callB call_len_seq (by rfl) T.len PySem.boot_len (pa_cons (pe_ix ix_list (pv 0) pe_int (fun _ _ => rfl)) pa_nil)) (nomark _)) (pss_cons (ps_set (i := 3) scNx.nd rfl (Or.inl rfl) (pe_ix ix_list (pe_ix ix_list (pv 0) pe_int (fun _ _ => rfl)) (pe_op op_sub (pe_ix ix_list (pv 0) pe_int (fun _ _ => rfl)) pe_int) (fun _ _ => rfl)))
      (pss_cons (ps_asg (pe_ifExp (pt_cmpR (op_ge) (pv 3) (pe_op op_pow pe_int pe_int) (nomark _)) (pe_op op_fdivN (pv 3) (pv 1)) pe_int) (pg_sub (pv 0) pe_int set_list))
      (pss_one (ps_ret (pe_op op_modN (pv 3) (pv 1)))))) pss_nil)
      (pss_cons (ps_asg (pe_op op_mod (pe_op op_mul (pe_ix ix_list (pv 0) pe_int (fun _ _ => rfl)) pe_int) pe_int) (pg_sub (pv 0) pe_int set_list))
      (pss_one (ps_ret (pe_op op_modN (pe_op op_fdiv (pe_ix ix_list (pv 0) pe_int (fun _ _ => rfl)) pe_int) (pv 1)))))))), ?_⟩
    walk_at "rd"
    refine iteD (fun hr => ?_) (fun hr => ?_)
    · walk_at "rd"
      exact k _ _ (Int.fmod_nonneg_of_pos _ h0) (Int.fmod_lt_of_pos _ h0) (f1 _) ⟨scr, ns, i, m, _, hX1 _, hl, hi, hm0, hm1, upd_same⟩
    · walk_at "rd"
      refine iteD (fun hc => ?_) (fun hc => ?_)
      · rw [List.length_map] at hc
        have hi2 : ∃ z, (ns.map V.int)[(i + 1 - 1).toNat]? = some (.int z) := by
          have hlt : (i + 1 - 1).toNat < ns.length := by omega
          exact ⟨ns[(i + 1 - 1).toNat], by rw [List.getElem?_map, List.getElem?_eq_getElem hlt]; rfl⟩
        obtain ⟨z, hz⟩ := hi2
        have hat : atI (ns.map V.int) (i + 1 - 1) = some (.int z) := at_of (j := (i + 1 - 1).toNat) (by omega) hz
        walk_at "rd"
        refine iteD (fun hz => ?_) (fun hz => ?_)
        · walk_at "rd"
          exact k _ _ (Int.fmod_nonneg_of_pos _ h0) (Int.fmod_lt_of_pos _ h0) (f2 _ _) ⟨scr, ns, i + 1, m, _, hX2 _ _, hl, by omega, hm0, hm1, upd_same⟩
        · walk_at "rd"
          exact k _ _ (Int.fmod_nonneg_of_pos _ h0) (Int.fmod_lt_of_pos _ h0) (f2 _ _) ⟨scr, ns, i + 1, m, _, hX2 _ _, hl, by omega, hm0, hm1, upd_same⟩
      · walk_at "rd"
        exact k _ _ (Int.fmod_nonneg_of_pos _ h0) (Int.fmod_lt_of_pos _ h0) (f2 _ _) ⟨scr, ns, i + 1, _, r, hX2 _ _, hl, by omega, Int.emod_nonneg _ (by decide), Int.emod_lt_of_pos _ (by decide), upd_same⟩
end
end Ll

namespace Ll
open PySem PySem.Spec PyProof.Rows L2
/-! ### == of data without bools -/
mutual
def noB : PyData → Bool
  | .none => true
  | .bool _ => false
  | .int _ => true
  | .str _ => true
  | .tuple xs => noBAll xs
  | .list xs => noBAll xs
  | .dict _ => false
def noBAll : List PyData → Bool
  | [] => true
  | d :: ds => noB d && noBAll ds
end
theorem noB_cons {d : PyData} {ds : List PyData} (h : noBAll (d :: ds) = true) : noB d = true ∧ noBAll ds = true := Bool.and_eq_true_iff.mp (show (noB d && noBAll ds) = true from h)
mutual
theorem eqv_is : ∀ (d e : PyData), noB d = true → noB e = true → (PyData.eqv d e = true ↔ d = e)
  | .none, e, _, h => by
    cases e <;> first | exact ⟨fun _ => rfl, fun _ => by simp [PyData.eqv]⟩ | exact ⟨fun z => by simp [PyData.eqv] at z, fun z => by cases z⟩
  | .bool _, _, h, _ => by cases h
  | .int i, e, _, h => by
    cases e with
    | int j => exact ⟨fun z => by simp [PyData.eqv] at z; rw [z], fun z => by cases z; simp [PyData.eqv]⟩
    | bool b => cases h
    | _ => exact ⟨fun z => by simp [PyData.eqv] at z, fun z => by cases z⟩
  | .str x, e, _, h => by
    cases e with
    | str j => exact ⟨fun z => by simp [PyData.eqv] at z; rw [z], fun z => by cases z; simp [PyData.eqv]⟩
    | bool b => cases h
    | _ => exact ⟨fun z => by simp [PyData.eqv] at z, fun z => by cases z⟩
  | .list ds, e, h1, h => by
    cases e with
    | list es =>
      have q := eqvAll_is ds es h1 h
      exact ⟨fun z => by rw [PyData.eqv] at z; rw [q.mp z], fun z => by cases z; rw [PyData.eqv]; exact q.mpr rfl⟩
    | bool b => cases h
    | _ => exact ⟨fun z => by simp [PyData.eqv] at z, fun z => by cases z⟩
  | .tuple ds, e, h1, h => by
    cases e with
    | tuple es =>
      have q := eqvAll_is ds es h1 h
      exact ⟨fun z => by rw [PyData.eqv] at z; rw [q.mp z], fun z => by cases z; rw [PyData.eqv]; exact q.mpr rfl⟩
    | bool b => cases h
    | _ => exact ⟨fun z => by simp [PyData.eqv] at z, fun z => by cases z⟩
  | .dict _, _, h, _ => by cases h
theorem eqvAll_is : ∀ (ds es : List PyData), noBAll ds = true → noBAll es = true → (PyData.eqvAll ds es = true ↔ ds = es)
  | [], [], _, _ => ⟨fun _ => rfl, fun _ => by simp [PyData.eqvAll]⟩
  | [], _ :: _, _, _ => ⟨fun z => by simp [PyData.eqvAll] at z, fun z => by cases z⟩
  | _ :: _, [], _, _ => ⟨fun z => by simp [PyData.eqvAll] at z, fun z => by cases z⟩
  | d :: ds, e :: es, h1, h2 => by
    have a := noB_cons h1
    have b := noB_cons h2
    have q1 := eqv_is d e a.1 b.1
    have q2 := eqvAll_is ds es a.2 b.2
    rw [PyData.eqvAll, Bool.and_eq_true_iff, q1, q2]
    exact ⟨fun z => by rw [z.1, z.2], fun z => by cases z; exact ⟨rfl, rfl⟩⟩
end
theorem eqv_t {d e : PyData} (h1 : noB d = true) (h2 : noB e = true) (h : d = e) : PyData.eqv d e = true := (eqv_is d e h1 h2).mpr h
theorem eqv_f {d e : PyData} (h1 : noB d = true) (h2 : noB e = true) (h : d ≠ e) : PyData.eqv d e = false := by
  cases q : PyData.eqv d e with
  | false => rfl
  | true => exact absurd ((eqv_is d e h1 h2).mp q) h
/-! ### what may be compared: depth below k, texts that are texts -/
mutual
def shp : Nat → PyData → Bool
  | _, .none => true
  | _, .bool _ => true
  | _, .int _ => true
  | _, .str x => PyData.strOk x
  | 0, .tuple _ => false
  | k + 1, .tuple xs => shpAll k xs
  | 0, .list _ => false
  | k + 1, .list xs => shpAll k xs
  | _, .dict _ => false
def shpAll : Nat → List PyData → Bool
  | _, [] => true
  | k, d :: ds => shp k d && shpAll k ds
end
mutual
theorem shp_ok : ∀ (d : PyData) (k : Nat), shp k d = true → d.canLay0 = true ∧ d.depth ≤ k
  | .none, _, _ => ⟨by simp [PyData.canLay0], by simp [PyData.depth]⟩
  | .bool _, _, _ => ⟨by simp [PyData.canLay0], by simp [PyData.depth]⟩
  | .int _, _, _ => ⟨by simp [PyData.canLay0], by simp [PyData.depth]⟩
  | .str x, k, h => by
    have h' : PyData.strOk x = true := by
      cases k <;> exact h
    exact ⟨by simpa [PyData.canLay0] using h', by simp [PyData.depth]⟩
  | .tuple ds, 0, h => by cases h
  | .tuple ds, k + 1, h => by
    have q := shpAll_ok ds k h
    exact ⟨by simpa [PyData.canLay0] using q.1, by rw [PyData.depth]; omega⟩
  | .list ds, 0, h => by cases h
  | .list ds, k + 1, h => by
    have q := shpAll_ok ds k h
    exact ⟨by simpa [PyData.canLay0] using q.1, by rw [PyData.depth]; omega⟩
  | .dict _, k, h => by
    cases k <;> cases h
theorem shpAll_ok : ∀ (ds : List PyData) (k : Nat), shpAll k ds = true → PyData.canLayAll0 ds = true ∧ PyData.depthAll ds ≤ k
  | [], _, _ => ⟨by simp [PyData.canLayAll0], by simp [PyData.depthAll]⟩
  | d :: ds, k, h => by
    have h' : (shp k d && shpAll k ds) = true := h
    have a := Bool.and_eq_true_iff.mp h'
    have q1 := shp_ok d k a.1
    have q2 := shpAll_ok ds k a.2
    exact ⟨by rw [PyData.canLayAll0, q1.1, q2.1]; rfl, by rw [PyData.depthAll]; omega⟩
end
theorem shaped_of {d : PyData} (k : Nat) (h : shp k d = true) (hk : k ≤ 64 := by decide) : SeqAt.shaped d = true := by
  have q := shp_ok d k h
  unfold SeqAt.shaped
  rw [q.1, decide_eq_true (by omega)]
  rfl
theorem shpAll_map {α : Type} {f : α → PyData} {k : Nat} (h : ∀ x, shp k (f x) = true) : ∀ l : List α, shpAll k (l.map f) = true
  | [] => rfl
  | x :: l => by
    show (shp k (f x) && shpAll k (l.map f)) = true
    rw [h x, shpAll_map h l]
    rfl
theorem noBAll_map {α : Type} {f : α → PyData} (h : ∀ x, noB (f x) = true) : ∀ l : List α, noBAll (l.map f) = true
  | [] => rfl
  | x :: l => by
    show (noB (f x) && noBAll (l.map f)) = true
    rw [h x, noBAll_map h l]
    rfl
theorem shp_int (k : Nat) (i : Int) : shp k (.int i) = true := by cases k <;> rfl
/-- a list of ints -/
def inD (l : List Int) : PyData := .list (l.map PyData.int)
theorem noB_inD (l : List Int) : noB (inD l) = true := noBAll_map (fun _ => rfl) l
theorem shaped_inD (l : List Int) : SeqAt.shaped (inD l) = true := shaped_of 1 (shpAll_map (fun x => shp_int 0 x) l)
theorem inD_inj {a b : List Int} (h : inD a = inD b) : a = b := by
  have h1 := PyData.list.inj h
  have h2 := congrArg (List.map fun d => match d with | PyData.int i => i | _ => 0) h1
  simpa [List.map_map, Function.comp_def] using h2
theorem dp_ints {K : PySem.W.Frag} {H : Hp} {a : Addr} {l : List Int} (h : SqL K H a (l.map V.int)) : Dp K H (.ref a) (inD l) := .lst h (dpAll_ints l)
theorem eqv_ints (a b : List Int) : PyData.eqv (inD a) (inD b) = decide (a = b) := by
  by_cases h : a = b
  · rw [decide_eq_true h]
    exact eqv_t (noB_inD a) (noB_inD b) (by rw [h])
  · rw [decide_eq_false h]
    exact eqv_f (noB_inD a) (noB_inD b) fun z => h (inD_inj z)
end Ll

namespace Ll
open PySem PySem.Spec PyProof.Rows L2
theorem ixN_nat {n j : Nat} (hj : j < n) : ixN n (j : Int) = some j := by
  unfold ixN
  rw [if_pos (by omega), if_pos (by omega)]
  simp
theorem index_ints {l : List Int} {x : Int} (hx : x ∈ l) : (l.map V.int).all flatV = true ∧ (l.map V.int)[l.idxOf x]? = some (.int x) ∧ eqV (.int x) (.int x) = true ∧
    ∀ (m : Nat) (z' : V), m < l.idxOf x → (l.map V.int)[m]? = some z' → eqV z' (.int x) = false := by
  have hlt : l.idxOf x < l.length := List.idxOf_lt_length_of_mem hx
  refine ⟨?_, ?_, ?_, fun m z' hm e => ?_⟩
  · rw [List.all_map]
    exact List.all_eq_true.mpr fun _ _ => rfl
  · rw [List.getElem?_map, List.getElem?_eq_getElem hlt, List.getElem_idxOf]
    rfl
  · show (x == x) = true
    exact beq_self_eq_true x
  · rw [List.getElem?_map] at e
    cases e2 : l[m]? with
    | none =>
      rw [e2] at e
      cases e
    | some y =>
      rw [e2] at e
      have e3 : V.int y = z' := Option.some.inj e
      subst e3
      show (y == x) = false
      obtain ⟨h1, h2⟩ := List.getElem?_eq_some_iff.mp e2
      have h3 := List.not_of_lt_findIdx (p := fun z => z == x) (xs := l) hm
      rw [← h2]
      simpa using h3
theorem pick3 {x0 x1 x2 y : Int} (h0 : 0 ≤ y) (h1 : y < 3) : ∃ z, atI [V.int x0, V.int x1, V.int x2] y = some (.int z) ∧ (z = x0 ∨ z = x1 ∨ z = x2) := by
  rcases (by omega : y = 0 ∨ y = 1 ∨ y = 2) with e | e | e
  · subst e
    exact ⟨x0, rfl, .inl rfl⟩
  · subst e
    exact ⟨x1, rfl, .inr (.inl rfl)⟩
  · subst e
    exact ⟨x2, rfl, .inr (.inr rfl)⟩
theorem pick2 {x0 x1 y : Int} (h0 : 0 ≤ y) (h1 : y < 2) : ∃ z, atI [V.int x0, V.int x1] y = some (.int z) ∧ (z = x0 ∨ z = x1) := by
  rcases (by omega : y = 0 ∨ y = 1) with e | e
  · subst e
    exact ⟨x0, rfl, .inl rfl⟩
  · subst e
    exact ⟨x1, rfl, .inr rfl⟩
/-- a comprehension that changes nothing of what stood: its items by the turn -/
theorem lc_pure {J : It} {n : Nat} {G : Hp → Prop} {Y : Nat → Hp → V → Hp → Prop} (w : Walk J n G Y) {g : TG} {tt : TT} {te : TE} {vs : List Nat} {σ : L2.St} {H1 : Hp} {D : Addr} {Qd : Hp → Prop} (f : Nat → Option V) (nD : H1 D = none) (hn : n ≤ 100000)
    (hG : ∀ H, Same H1 H → G H)
    (hs : ∀ (i : Nat) (x : V) (H H' : Hp) (Qy : V → Hp → Prop) (Qn : Hp → Prop), i < n → Same H1 H → Y i H x H' → (∀ y H4, f i = some y → Same H H4 → Qy y H4) → (∀ H3, f i = none → Same H H3 → Qn H3) →
      g x (wipe σ vs) H' fun σ2 H2 => wipe σ2 vs = wipe σ vs ∧ tt σ2 H2 fun b H3 => if b = true then te σ2 H3 Qy else Qn H3)
    (hd : ∀ H, Same H1 H → H D = some (.lst ((List.range n).filterMap f)) → Qd H) :
    ∃ W : Nat → Nat → Hp → Prop, (∃ m, W 0 m (upd H1 D (.lst []))) ∧ ∀ i m H, W i m H →
      (J.stop i H ∧ Qd H) ∨ (J.go i H ∧ ∃ Nx : Hp → Prop, (∀ H', Nx H' → ∃ m', m' < m ∧ W (i + 1) m' H') ∧ ∀ x H', J.yld i H x H' → g x (wipe σ vs) H' fun σ2 H2 => wipe σ2 vs = wipe σ vs ∧ tt σ2 H2 fun b H3 =>
        if b = true then te σ2 H3 fun y H4 => ∃ acc, H4 D = some (.lst acc) ∧ acc.length < sizeLine ∧ Nx (upd H4 D (.lst (acc ++ [y]))) else Nx H3) := by
  have hr : ∀ i, (List.range (i + 1)).filterMap f = (List.range i).filterMap f ++ (f i).toList := fun i => by
    rw [List.range_succ, List.filterMap_append]
    cases h : f i <;> simp [h]
  have hl : ∀ i, ((List.range i).filterMap f).length ≤ i := fun i => by
    have := List.length_filterMap_le f (List.range i)
    rw [List.length_range] at this
    exact this
  refine lc_it w (fun i H => Same H1 H ∧ H D = some (.lst ((List.range i).filterMap f))) ⟨Same.new nD, upd_same⟩ (fun i H _ p => hG H p.1) (fun i x H H' hi p y => ?_) (fun H p => hd H p.1 p.2)
  refine hs i x H H' _ _ hi p.1 y (fun y H4 e s => ?_) (fun H3 e s => ?_)
  · refine ⟨_, s _ _ p.2, ?_, ?_, ?_⟩
    · have := hl i
      exact Nat.lt_of_le_of_lt (Nat.le_trans this (by omega : i ≤ 100000)) (by decide)
    · intro b o e2
      have ne : b ≠ D := ne_of_none e2 nD
      rw [upd_ne ne]
      exact s b o (p.1 b o e2)
    · rw [upd_same, hr i, e]
      rfl
  · refine ⟨fun b o e2 => s b o (p.1 b o e2), ?_⟩
    rw [hr i, e, s _ _ p.2]
    simp
theorem immAll_append : ∀ {a b : List PyData}, ImmAll a = true → ImmAll b = true → ImmAll (a ++ b) = true
  | [], _, _, h => h
  | d :: a, b, h1, h2 => by
    have h' : (Imm d && ImmAll a) = true := h1
    have q := Bool.and_eq_true_iff.mp h'
    show (Imm d && ImmAll (a ++ b)) = true
    rw [q.1, immAll_append q.2 h2]
    rfl
/-- a comprehension that changes nothing of what stood: its items' data by the turn -/
theorem lc_data {K : PySem.W.Frag} {J : It} {n : Nat} {G : Hp → Prop} {Y : Nat → Hp → V → Hp → Prop} (w : Walk J n G Y) {g : TG} {tt : TT} {te : TE} {vs : List Nat} {σ : L2.St} {H1 : Hp} {D : Addr} {Qd : Hp → Prop} (f : Nat → Option PyData) (nD : H1 D = none) (hn : n ≤ 100000)
    (hi : ∀ i d, f i = some d → Imm d = true) (hG : ∀ H, Same H1 H → G H)
    (hs : ∀ (i : Nat) (x : V) (H H' : Hp) (Qy : V → Hp → Prop) (Qn : Hp → Prop), i < n → Same H1 H → Y i H x H' → (∀ y H4 d, f i = some d → Dp K H4 y d → Same H H4 → Qy y H4) → (∀ H3, f i = none → Same H H3 → Qn H3) →
      g x (wipe σ vs) H' fun σ2 H2 => wipe σ2 vs = wipe σ vs ∧ tt σ2 H2 fun b H3 => if b = true then te σ2 H3 Qy else Qn H3)
    (hd : ∀ H ys, Same H1 H → H D = some (.lst ys) → DpAll K H ys ((List.range n).filterMap f) → Qd H) :
    ∃ W : Nat → Nat → Hp → Prop, (∃ m, W 0 m (upd H1 D (.lst []))) ∧ ∀ i m H, W i m H →
      (J.stop i H ∧ Qd H) ∨ (J.go i H ∧ ∃ Nx : Hp → Prop, (∀ H', Nx H' → ∃ m', m' < m ∧ W (i + 1) m' H') ∧ ∀ x H', J.yld i H x H' → g x (wipe σ vs) H' fun σ2 H2 => wipe σ2 vs = wipe σ vs ∧ tt σ2 H2 fun b H3 =>
        if b = true then te σ2 H3 fun y H4 => ∃ acc, H4 D = some (.lst acc) ∧ acc.length < sizeLine ∧ Nx (upd H4 D (.lst (acc ++ [y]))) else Nx H3) := by
  have hr : ∀ i, (List.range (i + 1)).filterMap f = (List.range i).filterMap f ++ (f i).toList := fun i => by
    rw [List.range_succ, List.filterMap_append]
    cases h : f i <;> simp [h]
  have hl : ∀ i, ((List.range i).filterMap f).length ≤ i := fun i => by
    have := List.length_filterMap_le f (List.range i)
    rw [List.length_range] at this
    exact this
  have him : ∀ i, ImmAll ((List.range i).filterMap f) = true := fun i => by
    induction i with
    | zero => rfl
    | succ i ih =>
      rw [hr i]
      refine immAll_append ih ?_
      cases h : f i with
      | none => rfl
      | some d =>
        show (Imm d && true) = true
        rw [hi i d h]
        rfl
  refine lc_it w (fun i H => Same H1 H ∧ ∃ ys, H D = some (.lst ys) ∧ DpAll K H ys ((List.range i).filterMap f)) ⟨Same.new nD, [], upd_same, .nil⟩ (fun i H _ p => hG H p.1) (fun i x H H' hi p y => ?_) (fun H p => by
    obtain ⟨p1, ys, p2, p3⟩ := p
    exact hd H ys p1 p2 p3)
  obtain ⟨p1, ys, p2, p3⟩ := p
  refine hs i x H H' _ _ hi p1 y (fun y H4 d e hy s => ?_) (fun H3 e s => ?_)
  · refine ⟨_, s _ _ p2, ?_, ?_, _, upd_same, ?_⟩
    · have := hl i
      rw [dpAll_len p3]
      exact Nat.lt_of_le_of_lt (Nat.le_trans this (by omega : i ≤ 100000)) (by decide)
    · intro b o e2
      have ne : b ≠ D := ne_of_none e2 nD
      rw [upd_ne ne]
      exact s b o (p1 b o e2)
    · have f1 : Fr (fun b => b = D) H4 (upd H4 D (.lst (ys ++ [y]))) := Fr.at1 (mut_lst (s _ _ p2))
      have q := him (i + 1)
      rw [hr i, e] at q ⊢
      exact dp_kpAll f1.kp _ _ q (dpAll_snoc (dp_sameAll s _ _ p3) hy)
  · refine ⟨fun b o e2 => s b o (p1 b o e2), ys, s _ _ p2, ?_⟩
    rw [hr i, e]
    show DpAll K H3 ys ((List.range i).filterMap f ++ [])
    rw [List.append_nil]
    exact dp_sameAll s _ _ p3
theorem filterMap_get {α β : Type} (l : List α) (h : α → β) : (List.range l.length).filterMap (fun i => (l[i]?).map h) = l.map h := by
  have key : ∀ (n : Nat), n ≤ l.length → (List.range n).filterMap (fun i => (l[i]?).map h) = (l.take n).map h := fun n => by
    induction n with
    | zero => intro _; simp
    | succ n ih =>
      intro hn
      have hlt : n < l.length := by omega
      rw [List.range_succ, List.filterMap_append, ih (by omega), List.take_succ_eq_append_getElem hlt, List.map_append]
      simp [List.getElem?_eq_getElem hlt]
  have := key l.length (Nat.le_refl _)
  rw [List.take_length] at this
  exact this
theorem filterMap_bind {α β : Type} (l : List α) (h : α → Option β) : (List.range l.length).filterMap (fun i => (l[i]?).bind h) = l.filterMap h := by
  have key : ∀ (n : Nat), n ≤ l.length → (List.range n).filterMap (fun i => (l[i]?).bind h) = (l.take n).filterMap h := fun n => by
    induction n with
    | zero => intro _; simp
    | succ n ih =>
      intro hn
      have hlt : n < l.length := by omega
      rw [List.range_succ, List.filterMap_append, ih (by omega), List.take_succ_eq_append_getElem hlt, List.filterMap_append]
      congr 1
      simp only [List.filterMap_cons, List.filterMap_nil, List.getElem?_eq_getElem hlt, Option.bind_some]
  have := key l.length (Nat.le_refl _)
  rw [List.take_length] at this
  exact this
end Ll

namespace Sv
/-! ### served, as plain functions -/
def lo : List Int → Int
  | [] => 0
  | a :: r => r.foldl min a
theorem foldl_min : ∀ (r : List Int) (a : Int), (r.foldl min a ∈ a :: r) ∧ ∀ y ∈ a :: r, r.foldl min a ≤ y
  | [], a => ⟨by simp, fun y h => by
    have e : y = a := by simpa using h
    rw [e]
    exact Int.le_refl _⟩
  | b :: r, a => by
    obtain ⟨h1, h2⟩ := foldl_min r (min a b)
    refine ⟨?_, fun y h => ?_⟩
    · show r.foldl min (min a b) ∈ a :: b :: r
      rcases List.mem_cons.mp h1 with e | e
      · rw [e]
        by_cases c : a ≤ b
        · rw [Int.min_eq_left c]
          exact List.mem_cons_self
        · rw [Int.min_eq_right (by omega)]
          exact List.mem_cons_of_mem _ List.mem_cons_self
      · exact List.mem_cons_of_mem _ (List.mem_cons_of_mem _ e)
    · show r.foldl min (min a b) ≤ y
      have h3 := h2 (min a b) List.mem_cons_self
      rcases List.mem_cons.mp h with e | e
      · rw [e]
        have := Int.min_le_left a b
        omega
      · rcases List.mem_cons.mp e with e | e
        · rw [e]
          have := Int.min_le_right a b
          omega
        · exact h2 y (List.mem_cons_of_mem _ e)
theorem lo_mem {l : List Int} (h : 0 < l.length) : lo l ∈ l := by
  cases l with
  | nil => cases h
  | cons a r => exact (foldl_min r a).1
theorem lo_le {l : List Int} {y : Int} (h : y ∈ l) : lo l ≤ y := by
  cases l with
  | nil => cases h
  | cons a r => exact (foldl_min r a).2 y h
theorem lo_is {l : List Int} {m : Int} (h : m ∈ l) (h2 : ∀ y, y ∈ l → m ≤ y) : lo l = m := by
  have h3 := lo_le h
  have h4 := h2 _ (lo_mem (l := l) (List.length_pos_of_mem h))
  omega
/-- one work is served -/
def step (s : List Int × List Int) (p : Int × Int) : List Int × List Int :=
  (s.1.set (s.1.idxOf (lo s.1)) (max p.1 (lo s.1) + p.2), s.2 ++ [max p.1 (lo s.1)])
def run (c : Nat) (w : List (Int × Int)) : List Int × List Int := w.foldl step (List.replicate c 0, [])
def starts (c : Nat) (w : List (Int × Int)) : List Int := (run c w).2
theorem run_more {c : Nat} {w : List (Int × Int)} {i : Nat} {p : Int × Int} (h : w[i]? = some p) : run c (w.take (i + 1)) = step (run c (w.take i)) p := by
  unfold run
  rw [Ll.take_more h, List.foldl_append]
  rfl
theorem run_len1 {c : Nat} : ∀ (w : List (Int × Int)) (s : List Int × List Int), s.1.length = c → (w.foldl step s).1.length = c
  | [], _, h => h
  | p :: w, s, h => run_len1 (c := c) w (step s p) (by
    show (s.1.set _ _).length = c
    rw [List.length_set, h])
theorem run_len {c : Nat} {w : List (Int × Int)} : (run c w).1.length = c := run_len1 w _ (by simp)
theorem run_len2 : ∀ (w : List (Int × Int)) (s : List Int × List Int), (w.foldl step s).2.length = s.2.length + w.length
  | [], _ => rfl
  | p :: w, s => by
    show (w.foldl step (step s p)).2.length = _
    rw [run_len2 w (step s p)]
    show (s.2 ++ [_]).length + w.length = s.2.length + (w.length + 1)
    rw [List.length_append, List.length_singleton]
    omega
theorem starts_len {c : Nat} {w : List (Int × Int)} : (starts c w).length = w.length := by
  unfold starts run
  rw [run_len2]
  simp
/-- works that can be -/
def GoodFrom (last : Int) : List (Int × Int) → Prop
  | [] => True
  | p :: r => last ≤ p.1 ∧ p.1 ≤ 9999 ∧ 0 ≤ p.2 ∧ p.2 ≤ 99 ∧ GoodFrom p.1 r
def Good (w : List (Int × Int)) : Prop := GoodFrom 0 w
/-- the j-th waits longer than l -/
def late (w : List (Int × Int)) (st : List Int) (l : Int) (j : Nat) : Bool := match w[j]?, st[j]? with
  | some q, some s => decide (l < s - q.1)
  | _, _ => false
/-- nobody waits longer with so many lines -/
def fits (w : List (Int × Int)) (l : Int) (c : Nat) : Bool := (List.range w.length).all fun j => !late w (starts c w) l j
theorem ones {α : Type} {p : Nat → Bool} {x : α} : ∀ r : List Nat, r.filterMap (fun j => if p j then some x else none) = List.replicate (r.countP p) x
  | [] => rfl
  | j :: r => by
    have ih := ones (p := p) (x := x) r
    by_cases h : p j = true
    · rw [List.filterMap_cons_some (b := x) (by simp [h]), ih, List.countP_cons_of_pos h]
      rfl
    · rw [List.filterMap_cons_none (by simp [h]), ih, List.countP_cons_of_neg h]
theorem fits_iff {w : List (Int × Int)} {l : Int} {c : Nat} : fits w l c = true ↔ (List.range w.length).countP (late w (starts c w) l) = 0 := by
  unfold fits
  rw [List.countP_eq_zero, List.all_eq_true]
  exact ⟨fun h a ha => by simpa using h a ha, fun h a ha => by simpa using h a ha⟩
def fewest (w : List (Int × Int)) (l : Int) : Option Nat := ((List.range 8).map (· + 1)).find? fun c => fits w l c
theorem fewest_some {w : List (Int × Int)} {l : Int} {c : Nat} (h1 : 1 ≤ c) (h2 : c ≤ 8) (h : fits w l c = true) (hf : ∀ d, 1 ≤ d → d < c → fits w l d = false) : fewest w l = some c := by
  unfold fewest
  rw [List.find?_map, Option.map_eq_some_iff]
  refine ⟨c - 1, ?_, by omega⟩
  rw [List.find?_range_eq_some]
  refine ⟨?_, by simp; omega, fun j hj => ?_⟩
  · show fits w l (c - 1 + 1) = true
    rw [show c - 1 + 1 = c by omega]
    exact h
  · show (!fits w l (j + 1)) = true
    rw [hf (j + 1) (by omega) (by omega)]
    rfl
theorem fewest_none {w : List (Int × Int)} {l : Int} (hf : ∀ d, 1 ≤ d → d ≤ 8 → fits w l d = false) : fewest w l = none := by
  unfold fewest
  rw [List.find?_eq_none]
  intro x hx
  obtain ⟨j, hj, rfl⟩ := List.mem_map.mp hx
  have := List.mem_range.mp hj
  rw [hf (j + 1) (by omega) (by omega)]
  decide
end Sv

namespace Ll
open PySem PySem.Spec PyProof.Rows L2
structure TxSrv (K : PySem.W.Frag) (mg : Str → Option Value) : Prop where
  len : mg "len" = none
  int : mg "int" = none
  min : mg "min" = none
  max : mg "max" = none
  range : mg "range" = none
  zip : mg "zip" = none
  enumerate : mg "enumerate" = none
  c_LATEST : GlV mg "LATEST" (.int 9999)
  c_MOST_LINES : GlV mg "MOST_LINES" (.int 8)
  c_MOST_HOLD : GlV mg "MOST_HOLD" (.int 99)
/-- a list of works at a -/
def WorkAt (K : PySem.W.Frag) (H : Hp) (a : Addr) (w : List (Int × Int)) : Prop := ∃ xs, SqL K H a xs ∧ DpAll K H xs (w.map prD)
theorem WorkAt.same {K : PySem.W.Frag} {H H' : Hp} {a : Addr} {w : List (Int × Int)} (h : WorkAt K H a w) (s : Same H H') : WorkAt K H' a w := by
  obtain ⟨xs, h1, h2⟩ := h
  exact ⟨xs, s.seq h1, dp_sameAll s _ _ h2⟩
def spStarts (K : PySem.W.Frag) : Sp := fun vs H Q _ => ∃ (a : Addr) (w : List (Int × Int)) (c : Nat), vs = [.ref a, .int c] ∧ WorkAt K H a w ∧ 1 ≤ c ∧ c ≤ 8 ∧ w.length ≤ 1000 ∧
  ∀ (H' : Hp) (p : Addr), H p = none → Same H H' → H' p = some (.lst ((Sv.starts c w).map V.int)) → Q (.ref p) H'
def spNeed (K : PySem.W.Frag) : Sp := fun vs H Q _ => ∃ (a : Addr) (w : List (Int × Int)), vs = [.ref a] ∧ WorkAt K H a w ∧ Sv.Good w ∧ ∀ (H' : Hp), Same H H' → Q .non H'
def spServed (K : PySem.W.Frag) : Sp := fun vs H Q _ => ∃ (a : Addr) (w : List (Int × Int)) (c : Nat), vs = [.ref a, .int c] ∧ WorkAt K H a w ∧ Sv.Good w ∧ 1 ≤ c ∧ c ≤ 8 ∧ w.length ≤ 1000 ∧
  ∀ (H' : Hp) (p : Addr), H p = none → Same H H' → H' p = some (.lst ((Sv.starts c w).map V.int)) → Q (.ref p) H'
def oV : Option Nat → V
  | none => .non
  | some c => .int c
def spFewest (K : PySem.W.Frag) : Sp := fun vs H Q _ => ∃ (a : Addr) (w : List (Int × Int)) (l : Int), vs = [.ref a, .int l] ∧ WorkAt K H a w ∧ Sv.Good w ∧ w.length ≤ 1000 ∧
  ∀ (H' : Hp), Same H H' → Q (oV (Sv.fewest w l)) H'
/-- 1 where one waits longer -/
def tooLate (w : List (Int × Int)) (st : List Int) (l : Int) (j : Nat) : Option V := if Sv.late w st l j then some (.int 1) else none
section
variable {P : Program} {w : World} {K : PySem.W.Frag} {mg : Str → Option Value} {base : Heap} {CX : CXT}
abbrev sscSt : Stmt := topS 9
abbrev nscSt : List Str := ["work", "count", "ends", "found", "moment", "hold", "first", "start"]
theorem scSt : FnScope nscSt ["work", "count"] (defScope sscSt) := ⟨rfl, rfl, rfl, by decide +kernel, rfl, by decide +kernel, by decide +kernel⟩
theorem ok_starts {f : Addr} {fd : FuncData} (F : FunD K "starts" "starts" (defArgs sscSt) (defBody sscSt) (defScope sscSt) [] [] f fd) (T : TxSrv K mg) : FnOk P w K mg base CX 1 f fd ["work", "count"] (spStarts K) := by
  refine F.ok scSt (fun vs H Q E h => ?_) (fun cdv A outer s H vs Q E hr h => ?_)
  · obtain ⟨a, w, c, rfl, _⟩ := h
    rfl
  · obtain ⟨a, w, c, rfl, ⟨xs, hS, hD⟩, hc1, hc8, hl, k⟩ := h
    refine ⟨_, PSs.nox (pss_cons (ps_set (i := 2) scSt.nd rfl (Or.inl rfl) (pe_op op_rep (pe_lst (pa_cons pe_int pa_nil)) (pv 1)))
      (pss_cons (ps_set (i := 3) scSt.nd rfl (Or.inl rfl) (pe_lst pa_nil))
      (pss_cons (ps_for PassesOwn.never rfl (pi_list (pv 0)) (pg_tup rfl (pgs_cons (pg_name (i := 4) scSt.nd rfl (.inl rfl)) (pgs_cons (pg_name (i := 5) scSt.nd rfl (.inl rfl)) pgs_nil))) (pss_cons (ps_set (i := 6) scSt.nd rfl (Or.inl rfl) (pe_callB (cr_min rfl) (by rfl) T.min (by decide +kernel) (pa_cons (pv 2) pa_nil)))
      (pss_cons (ps_set (i := 7) scSt.nd rfl (Or.inl rfl) (pe_callB (call_max2 rfl) (by rfl) T.max (by decide +kernel) (pa_cons (pv 4) (pa_cons (pv 6) pa_nil))))
      (pss_cons (ps_asg (pe_op op_add (pv 7) (pv 5)) (pg_sub (pv 2) (pe_bm PySem.F.plainAttrs_list PySem.F.slot_list_index PySem.F.type_list_index mt_index (pv 2) (pa_cons (pv 6) pa_nil)) set_list))
      (pss_one (ps_expr (pe_bm PySem.F.plainAttrs_list PySem.F.slot_list_append PySem.F.type_list_append mt_append (pv 3) (pa_cons (pv 7) pa_nil))))))))
      (pss_one (ps_ret (pv 3)))))), ?_⟩
    refine ⟨(by decide), fun p1 n1 => ?_⟩
    refine ⟨_, rfl, _, _, _, rfl, rfl, upd_same, (by omega), (by omega), ?_, fun e ne => ?_⟩
    · show 1 * (c : Int).toNat ≤ sizeLine
      exact Nat.le_trans (by omega : _ ≤ 8) (by decide)
    refine ⟨(by decide), fun f nf => ?_⟩
    have n2 : H e = none := (Same.new n1).free ne
    have n3 : H f = none := ((Same.new n1).trans (Same.new ne)).free nf
    have nef : e ≠ f := ne_of_none upd_same nf
    have s1 : Same H (upd (upd (upd H p1 (.lst [V.int 0])) e (.lst (List.replicate (c : Int).toNat [V.int 0]).flatten)) f (.lst [])) := ((Same.new n1).trans (Same.new ne)).trans (Same.new nf)
    have e0 : (List.replicate (c : Int).toNat [V.int 0]).flatten = (List.replicate c (0 : Int)).map V.int := by simp
    refine ⟨_, rfl, a, rfl, ⟨xs, s1.seq hS⟩, for_list (K := K) (a := a) (xs := xs) (fun i σ H' => ∃ v4 v5 v6 v7 : Option V, σ = [some (.ref a), some (.int c), some (.ref e), some (.ref f), v4, v5, v6, v7] ∧ Same H H' ∧
        H' e = some (.lst ((Sv.run c (w.take i)).1.map V.int)) ∧ H' f = some (.lst ((Sv.run c (w.take i)).2.map V.int)))
      ⟨none, none, none, none, rfl, s1, by rw [upd_ne nef, upd_same, e0]; rfl, upd_same⟩ (fun i σ H' _ ⟨_, _, _, _, _, s2, _, _⟩ => s2.seq hS) ?_ ?_⟩
    · rintro i y σ H' hi ⟨v4, v5, v6, v7, rfl, s2, he, hf⟩
      obtain ⟨d, hd, hy⟩ := dpAll_get hD hi
      obtain ⟨⟨m, h⟩, hw, rfl⟩ := map_get hd
      obtain ⟨t, rfl, ht⟩ := dp_pr (dp_same s2 _ _ hy)
      refine ⟨t, _, rfl, ht, rfl, _, _, rfl, _, _, rfl, rfl, ?_⟩
      have hlen : (Sv.run c (w.take i)).1.length = c := Sv.run_len
      refine ⟨_, rfl, e, _, rfl, SqL.of he, by omega, fun z hz1 hz2 => ?_⟩
      have hz := Sv.lo_is hz1 hz2
      subst hz
      have hlen2 : (Sv.run c (w.take i)).2.length ≤ 1000 := by
        have := Sv.run_len2 (w.take i) (List.replicate c 0, [])
        unfold Sv.run
        rw [this, List.length_take]
        simp
        omega
      walk_at "rd"
      obtain ⟨i1, i2, i3, i4⟩ := index_ints hz1
      refine ⟨e, _, _, _, _, rfl, rfl, .of he, rfl, i1, i2, i3, i4, ?_⟩
      have hj : (Sv.run c (w.take i)).1.idxOf (Sv.lo (Sv.run c (w.take i)).1) < ((Sv.run c (w.take i)).1.map V.int).length := by
        rw [List.length_map]
        exact List.idxOf_lt_length_of_mem hz1
      refine ⟨e, _, _, _, rfl, rfl, he, ixN_nat hj, ?_⟩
      have hf2 : ∀ o, upd H' e o f = some (.lst ((Sv.run c (w.take i)).2.map V.int)) := fun o => by rw [upd_ne nef.symm]; exact hf
      refine ⟨_, rfl, .inl ⟨rfl, _, .of (hf2 _)⟩, ?_⟩
      walk_at "rd"
      refine ⟨_, _, _, rfl, rfl, hf2 _, (by walk_at "sz"), ?_⟩
      have e3 : (if Sv.lo (Sv.run c (w.take i)).1 > m then Sv.lo (Sv.run c (w.take i)).1 else m) = max m (Sv.lo (Sv.run c (w.take i)).1) := by
        split <;> omega
      rw [Sv.run_more hw]
      refine ⟨_, _, _, _, rfl, Same.mut (Same.mut s2 n2) n3, ?_, ?_⟩
      · rw [upd_ne nef, upd_same]
        show some (HO.lst (((Sv.run c (w.take i)).1.map V.int).set _ (V.int ((if Sv.lo (Sv.run c (w.take i)).1 > m then Sv.lo (Sv.run c (w.take i)).1 else m) + h)))) = _
        rw [e3, ← List.map_set]
        rfl
      · rw [upd_same]
        show some (HO.lst ((Sv.run c (w.take i)).2.map V.int ++ [V.int (if Sv.lo (Sv.run c (w.take i)).1 > m then Sv.lo (Sv.run c (w.take i)).1 else m)])) = _
        rw [e3]
        show _ = some (HO.lst (((Sv.run c (w.take i)).2 ++ [max m (Sv.lo (Sv.run c (w.take i)).1)]).map V.int))
        rw [List.map_append]
        rfl
    · rintro σ H' ⟨v4, v5, v6, v7, rfl, s2, he, hf⟩
      have e1 : (w.take xs.length) = w := by
        rw [dpAll_len hD, List.length_map, List.take_length]
      rw [e1] at hf
      exact ⟨_, rfl, k _ _ n3 s2 hf⟩
abbrev sscNw : Stmt := topS 8
abbrev nscNw : List Str := ["work", "last", "at", "moment", "hold"]
theorem scNw : FnScope nscNw ["work"] (defScope sscNw) := ⟨rfl, rfl, rfl, by decide +kernel, rfl, by decide +kernel, by decide +kernel⟩
theorem ok_need {f : Addr} {fd : FuncData} (F : FunD K "need_work" "need_work" (defArgs sscNw) (defBody sscNw) (defScope sscNw) [] [] f fd) (T : TxSrv K mg) : FnOk P w K mg base CX 1 f fd ["work"] (spNeed K) := by
  refine F.ok scNw (fun vs H Q E h => ?_) (fun cdv A outer s H vs Q E hr h => ?_)
  · obtain ⟨a, w, rfl, _⟩ := h
    rfl
  · obtain ⟨a, w, rfl, ⟨xs, hS, hD⟩, hG, k⟩ := h
    have hlen : xs.length = w.length := by rw [dpAll_len hD, List.length_map]
    refine ⟨_, PSs.nox (pss_cons (ps_set (i := 1) scNw.nd rfl (Or.inl rfl) pe_int)
      (pss_one (ps_for PassesOwn.never rfl (pi_enum (by rfl) T.enumerate (pa_cons (pv 0) pa_nil)) (pg_tup rfl (pgs_cons (pg_name (i := 2) scNw.nd rfl (.inl rfl)) (pgs_cons (pg_tup rfl (pgs_cons (pg_name (i := 3) scNw.nd rfl (.inl rfl)) (pgs_cons (pg_name (i := 4) scNw.nd rfl (.inl rfl)) pgs_nil))) pgs_nil))) (pss_cons (ps_if (PW.pt (pw_or (pt_not (pt_chain (op_le) (op_le) (pv 1) (pv 3) (pe_gV rfl T.c_LATEST))) (pw_or1 (pt_not (pt_chain (op_le) (op_le) pe_int (pv 4) (pe_gV rfl T.c_MOST_HOLD)))))) (pss_one ps_never) pss_nil)
      (pss_one (ps_set (i := 1) scNw.nd rfl (Or.inl rfl) (pv 3))))))), ?_⟩
    refine ⟨_, rfl, a, xs, rfl, hS, for_it (walk_enum (K := K) (a := a) (xs := xs)) (fun i σ H' => ∃ (l : Int) (v2 v3 v4 : Option V), σ = [some (.ref a), some (.int l), v2, v3, v4] ∧ Same H H' ∧ Sv.GoodFrom l (w.drop i))
      ⟨0, none, none, none, rfl, Same.refl H, hG⟩ (fun i σ H' _ ⟨_, _, _, _, _, s2, _⟩ => s2.seq hS) ?_ ?_⟩
    · rintro i y σ H1 H2 hi ⟨l, v2, v3, v4, rfl, s2, g⟩ ⟨T1, x, z, rfl, hT, rfl, e1, e2⟩
      obtain ⟨d, hd, hy⟩ := dpAll_get hD e2
      obtain ⟨⟨m, h⟩, hw, rfl⟩ := map_get hd
      have s3 : Same H (upd H1 T1 (.tup [x, z])) := s2.trans (Same.new hT)
      obtain ⟨t, rfl, ht⟩ := dp_pr (dp_same s3 _ _ hy)
      cases e1
      have hdr : w.drop i = (m, h) :: w.drop (i + 1) := by
        obtain ⟨h1, h2⟩ := List.getElem?_eq_some_iff.mp hw
        rw [List.drop_eq_getElem_cons h1, h2]
      rw [hdr] at g
      obtain ⟨g1, g2, g3, g4, g5⟩ := g
      have g1 : l ≤ m := g1
      have g2 : m ≤ 9999 := g2
      have g3 : 0 ≤ h := g3
      have g4 : h ≤ 99 := g4
      refine ⟨T1, _, rfl, .of upd_same, rfl, _, _, rfl, _, _, rfl, ⟨t, _, rfl, ht, rfl, _, _, rfl, _, _, rfl, rfl, ?_⟩⟩
      walk_at "rd"
      exact ⟨_, _, _, _, rfl, s3, g5⟩
    · rintro σ H' ⟨l, v2, v3, v4, rfl, s2, _⟩
      exact k _ s2
abbrev sscSv : Stmt := topS 10
abbrev nscSv : List Str := ["work", "count"]
theorem scSv : FnScope nscSv ["work", "count"] (defScope sscSv) := ⟨rfl, rfl, rfl, by decide +kernel, rfl, by decide +kernel, by decide +kernel⟩
theorem ok_served {f : Addr} {fd : FuncData} (F : FunD K "served" "served" (defArgs sscSv) (defBody sscSv) (defScope sscSv) [] [] f fd) (T : TxSrv K mg)
    (G_need_work : FnG P w K mg base CX0 1 "need_work" ["work"] [] (spNeed K)) (G_starts : FnG P w K mg base CX0 1 "starts" ["work", "count"] [] (spStarts K)) : FnOk P w K mg base CX 2 f fd ["work", "count"] (spServed K) := by
  refine F.ok scSv (fun vs H Q E h => ?_) (fun cdv A outer s H vs Q E hr h => ?_)
  · obtain ⟨a, w, c, rfl, _⟩ := h
    rfl
  · obtain ⟨a, w, c, rfl, hW, hG, hc1, hc8, hl, k⟩ := h
    refine ⟨_, PSs.nox (pss_cons (ps_expr (pe_callG G_need_work (hr.mono (by decide)) rfl pass0 (pa_cons (pv 0) pa_nil)))
      (pss_cons (ps_if (pt_not (pt_chain (op_le) (op_le) pe_int (pv 1) (pe_gV rfl T.c_MOST_LINES))) (pss_one ps_never) pss_nil)
      (pss_one (ps_ret (pe_callG G_starts (hr.mono (by decide)) rfl pass0 (pa_cons (pv 0) (pa_cons (pv 1) pa_nil))))))), ?_⟩
    walk_at "rd"
    refine ⟨a, w, rfl, hW, hG, fun H1 s1 => ?_⟩
    walk_at "rd"
    exact ⟨a, w, c, rfl, hW.same s1, hc1, hc8, hl, fun H2 p n s2 h2 => k H2 p (s1.free n) (s1.trans s2) h2⟩
abbrev sscFw : Stmt := topS 11
abbrev nscFw : List Str := ["work", "longest", "count", "found", "start", "moment", "hold"]
theorem scFw : FnScope nscFw ["work", "longest"] (defScope sscFw) := ⟨rfl, rfl, rfl, by decide +kernel, rfl, by decide +kernel, by decide +kernel⟩
theorem ok_fewest {f : Addr} {fd : FuncData} (F : FunD K "fewest" "fewest" (defArgs sscFw) (defBody sscFw) (defScope sscFw) [] [] f fd) (T : TxSrv K mg)
    (G_need_work : FnG P w K mg base CX0 1 "need_work" ["work"] [] (spNeed K)) (G_starts : FnG P w K mg base CX0 1 "starts" ["work", "count"] [] (spStarts K)) : FnOk P w K mg base CX 2 f fd ["work", "longest"] (spFewest K) := by
  refine F.ok scFw (fun vs H Q E h => ?_) (fun cdv A outer s H vs Q E hr h => ?_)
  · obtain ⟨a, w, l, rfl, _⟩ := h
    rfl
  · obtain ⟨a, w, l, rfl, hW, hG, hl, k⟩ := h
    refine ⟨_, PSs.nox (pss_cons (ps_expr (pe_callG G_need_work (hr.mono (by decide)) rfl pass0 (pa_cons (pv 0) pa_nil)))
      (pss_cons (ps_for PassesOwn.never rfl (pi_range2 (by rfl) T.range (pa_cons pe_int (pa_cons (pe_op op_add (pe_gV rfl T.c_MOST_LINES) pe_int) pa_nil))) (pg_name (i := 2) scFw.nd rfl (.inl rfl)) (pss_cons (ps_set (i := 3) scFw.nd rfl (Or.inl rfl) (pe_callG G_starts (hr.mono (by decide)) rfl pass0 (pa_cons (pv 0) (pa_cons (pv 2) pa_nil))))
      (pss_one (ps_if (pt_cmpR (op_eqD hr.units) (pe_lc (own := [("start", 4), ("moment", 5), ("hold", 6)]) (g := (gTup K 2 (gCons (gTup K 2 (gCons (gName 5) (gCons (gName 6) gNil))) (gCons (gName 4) gNil)))) (tt := (tTest (tOp (rI0 fun i j => .bl (decide (j < i))) (tOp (rI0 fun i j => .int (i - j)) (tVar 4) (tVar 5)) (tVar 1)))) (te := (tC (.int 1))) rfl scFw.nd (pi_zip (by rfl) T.zip (pa_cons (pv 0) (pa_cons (pv 3) pa_nil))) (blkOk_by (N := nscFw) (sc := defScope sscFw) (by decide +kernel)) (fun _ _ _ _ _ => (pg_tup rfl (pgs_cons (pg_tup rfl (pgs_cons (pg_name (i := 5) scFw.nd rfl (.inl rfl)) (pgs_cons (pg_name (i := 6) scFw.nd rfl (.inl rfl)) pgs_nil))) (pgs_cons (pg_name (i := 4) scFw.nd rfl (.inl rfl)) pgs_nil)))) (fun _ _ _ _ _ => (pts_one (pt_cmpR (op_gt) (pe_op op_sub (pv 4) (pv 5)) (pv 1) (nomark _)))) (fun _ _ _ _ _ => pe_int)) (pe_lst pa_nil) (nomark _)) (pss_one (ps_ret (pv 2))) pss_nil))))
      (pss_one (ps_ret pe_non)))), ?_⟩
    walk_at "rd"
    refine ⟨a, w, rfl, hW, hG, fun H1 s1 => ?_⟩
    walk_at "rd"
    have hn : (((8 : Int) + 1 - 1).toNat) = 8 := by decide
    refine ⟨by decide, for_range (lo := 1) (n := ((8 : Int) + 1 - 1).toNat) (fun i σ H' => ∃ v2 v3 : Option V, σ = [some (.ref a), some (.int l), v2, v3, none, none, none] ∧ Same H H' ∧ ∀ c, 1 ≤ c → c ≤ i → Sv.fits w l c = false)
      ⟨none, none, rfl, s1, fun c h1 h2 => by omega⟩ ?_ ?_⟩
    · rintro i σ H2 hi ⟨v2, v3, rfl, s2, hf⟩
      have hi8 : i < 8 := by omega
      walk_at "rd"
      refine ⟨a, w, i + 1, congrArg (fun z : Int => [V.ref a, V.int z]) (by omega), hW.same s2, by omega, by omega, hl, fun H3 p np s3 hp => ?_⟩
      obtain ⟨xs, hS, hD⟩ := hW.same (s2.trans s3)
      have hxl : xs.length = w.length := by rw [dpAll_len hD, List.length_map]
      walk_at "rd"
      have hsl : ((Sv.starts (i + 1) w).map V.int).length = w.length := by rw [List.length_map, Sv.starts_len]
      refine ⟨a, p, xs, _, rfl, hS, .of hp, fun D nD => lc_pure (walk_zip (n := w.length) (by rw [hsl, hxl]; simp)) (tooLate w (Sv.starts (i + 1) w) l) nD (by omega) (fun H4 s4 => ⟨s4.seq hS, s4.seq (.of hp)⟩) ?_ ?_⟩
      · rintro j x H4 H5 Qy Qn hj s4 ⟨T1, x1, z1, rfl, hT, rfl, e1, e2⟩ hy hn'
        obtain ⟨d, hd, hyd⟩ := dpAll_get hD e1
        obtain ⟨⟨m, h⟩, hw, rfl⟩ := map_get hd
        obtain ⟨s, hs, rfl⟩ := map_get e2
        obtain ⟨t, rfl, ht⟩ := dp_pr (dp_same (s4.trans (Same.new (o := .tup [x1, .int s]) hT)) _ _ hyd)
        refine ⟨T1, _, rfl, .of upd_same, rfl, _, _, rfl, ⟨t, _, rfl, ht, rfl, _, _, rfl, _, _, rfl, rfl, _, _, rfl, rfl, rfl, ?_⟩⟩
        walk_at "rd"
        have hlt : Sv.late w (Sv.starts (i + 1) w) l j = decide (l < s - m) := by
          unfold Sv.late
          rw [hw, hs]
        refine iteD (fun hc => hy _ _ ?_ (Same.new hT)) (fun hc => hn' _ ?_ (Same.new hT))
        · unfold tooLate
          rw [hlt, decide_eq_true hc]
          rfl
        · unfold tooLate
          rw [hlt, decide_eq_false hc]
          rfl
      · intro H4 s4 hD4
        have e1 : (List.range w.length).filterMap (tooLate w (Sv.starts (i + 1) w) l) = (List.replicate ((List.range w.length).countP (Sv.late w (Sv.starts (i + 1) w) l)) (1 : Int)).map V.int := by
          rw [List.map_replicate]
          exact Sv.ones _
        rw [e1] at hD4
        refine ⟨by decide, fun q nq => ?_⟩
        have hq : Dp K (upd H4 q (.lst [])) (.ref q) (inD []) := dp_ints (l := []) (.of upd_same)
        refine ⟨_, _, dp_ints (.of (Same.new nq _ _ hD4)), hq, shaped_inD _, shaped_inD _, ?_⟩
        rw [eqv_ints]
        have s5 := ((s2.trans s3).trans s4).trans (Same.new (o := .lst []) nq)
        refine ⟨_, rfl, iteD (fun hc => ?_) (fun hc => ?_)⟩
        · have hfit : Sv.fits w l (i + 1) = true := Sv.fits_iff.mpr (by
            have := congrArg List.length hc
            simpa using this)
          walk_at "rd"
          have ef := Sv.fewest_some (w := w) (l := l) (c := i + 1) (by omega) (by omega) hfit fun d h1 h2 => hf d h1 (by omega)
          have kk := k _ s5
          rw [ef] at kk
          have ec : (1 : Int) + i = ((i + 1 : Nat) : Int) := by omega
          rw [ec]
          exact kk
        · have hfit : Sv.fits w l (i + 1) = false := by
            cases q2 : Sv.fits w l (i + 1) with
            | false => rfl
            | true =>
              refine absurd ?_ hc
              rw [Sv.fits_iff.mp q2]
              rfl
          refine ⟨_, _, rfl, s5, fun c h1 h2 => ?_⟩
          by_cases hc2 : c = i + 1
          · rw [hc2]
            exact hfit
          · exact hf c h1 (by omega)
    · rintro σ H2 ⟨v2, v3, rfl, s2, hf⟩
      rw [hn] at hf
      have ef := Sv.fewest_none (w := w) (l := l) hf
      have kk := k _ s2
      rw [ef] at kk
      exact kk
end
end Ll

namespace Sv
/-! ### ends as bags: what counts is what they are, cut below by the moment -/
theorem set_perm : ∀ {l : List Int} {a b : Int}, a ∈ l → (l.set (l.idxOf a) b).Perm (b :: l.erase a)
  | [], a, b, h => by cases h
  | c :: l, a, b, h => by
    by_cases e : c = a
    · subst e
      simp
    · have hm : a ∈ l := by
        rcases List.mem_cons.mp h with q | q
        · exact absurd q.symm e
        · exact q
      have hb : (c == a) = false := by simpa using e
      rw [List.idxOf_cons, hb]
      show (c :: l.set (l.idxOf a) b).Perm (b :: (c :: l).erase a)
      rw [List.erase_cons, hb]
      exact ((set_perm hm).cons c).trans (List.Perm.swap b c _)
/-- l's numbers, none less than m -/
def cl (m : Int) (l : List Int) : List Int := l.map (max m)
theorem lo_perm {a b : List Int} (h : a.Perm b) : lo a = lo b := by
  by_cases hl : 0 < a.length
  · have h1 := lo_mem hl
    exact lo_is ((h.mem_iff).mpr (lo_mem (by rw [← h.length_eq]; exact hl))) fun y hy => lo_le ((h.mem_iff).mp hy)
  · have ea : a = [] := List.length_eq_zero_iff.mp (by omega)
    subst ea
    rw [h.symm.eq_nil]
theorem lo_cl {m : Int} {l : List Int} (h : 0 < l.length) : lo (cl m l) = max m (lo l) := by
  refine lo_is (List.mem_map.mpr ⟨_, lo_mem h, rfl⟩) fun y hy => ?_
  obtain ⟨z, hz, rfl⟩ := List.mem_map.mp hy
  have := lo_le hz
  omega
theorem cl_cl {m m' : Int} (h : m ≤ m') (l : List Int) : cl m' (cl m l) = cl m' l := by
  unfold cl
  rw [List.map_map]
  exact List.map_congr_left fun x _ => by show max m' (max m x) = max m' x; omega
/-- a step's ends -/
def nx (l : List Int) (p : Int × Int) : List Int := l.set (l.idxOf (lo l)) (max p.1 (lo l) + p.2)
theorem nx_perm {l : List Int} {p : Int × Int} (h : 0 < l.length) : (nx l p).Perm ((max p.1 (lo l) + p.2) :: l.erase (lo l)) := set_perm (lo_mem h)
theorem nx_len {l : List Int} {p : Int × Int} : (nx l p).length = l.length := by
  unfold nx
  rw [List.length_set]
theorem cl_split {m : Int} {l : List Int} (h : 0 < l.length) : (cl m l).Perm (max m (lo l) :: cl m (l.erase (lo l))) :=
  (List.perm_cons_erase (lo_mem h)).map _
theorem cl_nx {l : List Int} {p : Int × Int} (h : 0 < l.length) (hp : 0 ≤ p.2) : (cl p.1 (nx l p)).Perm ((max p.1 (lo l) + p.2) :: cl p.1 (l.erase (lo l))) := by
  have q := (nx_perm (p := p) h).map (max p.1)
  have e : (((max p.1 (lo l) + p.2) :: l.erase (lo l)).map (max p.1)) = (max p.1 (lo l) + p.2) :: cl p.1 (l.erase (lo l)) := by
    show max p.1 (max p.1 (lo l) + p.2) :: _ = _
    rw [show max p.1 (max p.1 (lo l) + p.2) = max p.1 (lo l) + p.2 by omega]
    rfl
  rw [e] at q
  exact q
/-- the same bag, cut at m -/
def Alike (m : Int) (a b : List Int) : Prop := (cl m a).Perm (cl m b)
theorem Alike.later {m m' : Int} {a b : List Int} (h : Alike m a b) (hm : m ≤ m') : Alike m' a b := by
  have q := h.map (max m')
  have e1 := cl_cl hm a
  have e2 := cl_cl hm b
  unfold cl at e1 e2
  unfold Alike cl
  rw [← e1, ← e2]
  exact q
theorem Alike.len {m : Int} {a b : List Int} (h : Alike m a b) : a.length = b.length := by
  have q := h.length_eq
  simpa [cl] using q
theorem Alike.lo {m : Int} {a b : List Int} (h : Alike m a b) (hl : 0 < a.length) : max m (lo a) = max m (lo b) := by
  rw [← lo_cl hl, ← lo_cl (by rw [← h.len]; exact hl), lo_perm h]
theorem Alike.nx {p : Int × Int} {a b : List Int} (h : Alike p.1 a b) (hl : 0 < a.length) (hp : 0 ≤ p.2) : Alike p.1 (nx a p) (nx b p) := by
  have hb : 0 < b.length := by rw [← h.len]; exact hl
  have e := h.lo hl
  have q1 := (cl_split (m := p.1) hl).symm.trans (h.trans (cl_split (m := p.1) hb))
  rw [e] at q1
  have q2 := List.Perm.cons_inv q1
  refine (cl_nx hl hp).trans (List.Perm.trans ?_ (cl_nx hb hp).symm)
  rw [e]
  exact q2.cons _
/-- one held for nothing changes nothing -/
theorem Alike.zero {m : Int} {a b : List Int} (h : Alike m a b) (hl : 0 < a.length) : Alike m (Sv.nx a (m, 0)) b := by
  refine List.Perm.trans (cl_nx (p := (m, 0)) hl (by show (0 : Int) ≤ 0; decide)) ?_
  show ((max m (Sv.lo a) + 0) :: cl m (a.erase (Sv.lo a))).Perm _
  rw [Int.add_zero]
  exact (cl_split hl).symm.trans h
/-- starts from ends -/
def startsE : List Int → List (Int × Int) → List Int
  | _, [] => []
  | l, p :: w => max p.1 (lo l) :: startsE (nx l p) w
theorem foldl_starts : ∀ (w : List (Int × Int)) (s : List Int × List Int), (w.foldl step s).2 = s.2 ++ startsE s.1 w
  | [], s => by simp [startsE]
  | p :: w, s => by
    show (w.foldl step (step s p)).2 = _
    rw [foldl_starts w (step s p)]
    show (s.2 ++ [max p.1 (lo s.1)]) ++ startsE (nx s.1 p) w = s.2 ++ (max p.1 (lo s.1) :: startsE (nx s.1 p) w)
    rw [List.append_assoc]
    rfl
theorem starts_eq (c : Nat) (w : List (Int × Int)) : starts c w = startsE (List.replicate c 0) w := by
  unfold starts run
  rw [foldl_starts]
  rfl
theorem startsE_alike : ∀ (w : List (Int × Int)) (m : Int) (a b : List Int), Alike m a b → 0 < a.length → GoodFrom m w → startsE a w = startsE b w
  | [], _, _, _, _, _, _ => rfl
  | p :: w, m, a, b, h, hl, g => by
    obtain ⟨g1, g2, g3, g4, g5⟩ := g
    have h1 := h.later g1
    have h2 := h1.nx hl g3
    show max p.1 (lo a) :: startsE (nx a p) w = max p.1 (lo b) :: startsE (nx b p) w
    rw [h1.lo hl, startsE_alike w p.1 _ _ h2 (by rw [nx_len]; exact hl) g5]
/-- works with such of hold nothing put in: (work, is it one of the first) -/
def pickT (st : List Int) (mo : List ((Int × Int) × Bool)) : List Int := ((List.zip st mo).filter fun q => q.2.2).map (·.1)
theorem pick_starts : ∀ (mo : List ((Int × Int) × Bool)) (m : Int) (a b : List Int), Alike m a b → 0 < a.length → GoodFrom m (mo.map (·.1)) → (∀ x ∈ mo, x.2 = false → x.1.2 = 0) →
    pickT (startsE a (mo.map (·.1))) mo = startsE b ((mo.filter (·.2)).map (·.1))
  | [], _, _, _, _, _, _, _ => rfl
  | (p, t) :: mo, m, a, b, h, hl, g, hz => by
    obtain ⟨g1, g2, g3, g4, g5⟩ := g
    have g1 : m ≤ p.1 := g1
    have h1 := h.later g1
    have hla : 0 < (nx a p).length := by rw [nx_len]; exact hl
    have hz' : ∀ x ∈ mo, x.2 = false → x.1.2 = 0 := fun x hx => hz x (List.mem_cons_of_mem _ hx)
    cases t with
    | true =>
      have ih := pick_starts mo p.1 _ _ (h1.nx hl g3) hla g5 hz'
      show max p.1 (lo a) :: pickT (startsE (nx a p) (mo.map (·.1))) mo = max p.1 (lo b) :: startsE (nx b p) ((mo.filter (·.2)).map (·.1))
      rw [h1.lo hl, ih]
    | false =>
      have e0 : p.2 = 0 := hz (p, false) List.mem_cons_self rfl
      have ep : p = (p.1, 0) := by rw [← e0]
      have h2 : Alike p.1 (nx a p) b := by
        have q := h1.zero hl
        rw [← ep] at q
        exact q
      show pickT (startsE (nx a p) (mo.map (·.1))) mo = startsE b ((mo.filter (·.2)).map (·.1))
      exact pick_starts mo p.1 _ _ h2 hla g5 hz'
/-- all at one moment with one hold -/
theorem cl_same : ∀ (n : Nat) (c : Nat) (q r : Nat) (m h : Int) (a : List Int), 0 < c → r < c → 0 ≤ m → 0 ≤ h → a.length = c → (cl m a).Perm (List.replicate (c - r) (m + q * h) ++ List.replicate r (m + (q + 1) * h)) →
    startsE a (List.replicate n (m, h)) = (List.range n).map fun k => m + (((q * c + r + k) / c : Nat) : Int) * h
  | 0, _, _, _, _, _, _, _, _, _, _, _, _ => rfl
  | n + 1, c, q, r, m, h, a, hc, hr, hm, hh, hl, hp => by
    have hl0 : 0 < a.length := by omega
    have hqh : 0 ≤ (q : Int) * h := Int.mul_nonneg (by omega) hh
    have hmul : ((q : Int) + 1) * h = (q : Int) * h + h := by rw [Int.add_mul, Int.one_mul]
    have elo : max m (lo a) = m + (q : Int) * h := by
      rw [← lo_cl hl0, lo_perm hp]
      refine lo_is (List.mem_append.mpr (.inl (List.mem_replicate.mpr ⟨by omega, rfl⟩))) fun y hy => ?_
      rcases List.mem_append.mp hy with z | z
      · rw [(List.mem_replicate.mp z).2]
        exact Int.le_refl _
      · rw [(List.mem_replicate.mp z).2, hmul]
        omega
    have hs : (cl m (nx a (m, h))).Perm ((m + (q : Int) * h + h) :: (List.replicate (c - r - 1) (m + (q : Int) * h) ++ List.replicate r (m + ((q : Int) + 1) * h))) := by
      have q1 := cl_nx (p := (m, h)) hl0 hh
      have q1 : (cl m (nx a (m, h))).Perm ((max m (lo a) + h) :: cl m (a.erase (lo a))) := q1
      have q2 := (cl_split (m := m) hl0).symm.trans hp
      rw [elo] at q1 q2
      rw [show c - r = (c - r - 1) + 1 by omega, List.replicate_succ, List.cons_append] at q2
      exact q1.trans ((List.Perm.cons_inv q2).cons _)
    have ediv : (q * c + r + 0) / c = q := by
      rw [Nat.add_zero, Nat.mul_comm, Nat.mul_add_div hc, Nat.div_eq_of_lt hr, Nat.add_zero]
    have tail : startsE (nx a (m, h)) (List.replicate n (m, h)) = (List.range n).map fun k => m + (((q * c + (r + 1) + k) / c : Nat) : Int) * h := by
      by_cases hr1 : r + 1 < c
      · refine cl_same n c q (r + 1) m h _ hc hr1 hm hh (by rw [nx_len]; exact hl) (hs.trans ?_)
        rw [show c - (r + 1) = c - r - 1 by omega, List.replicate_succ, hmul, Int.add_assoc]
        exact List.perm_middle.symm
      · have hcr : c = r + 1 := by omega
        have q3 := cl_same n c (q + 1) 0 m h (nx a (m, h)) hc hc hm hh (by rw [nx_len]; exact hl) (hs.trans (by
          rw [show c - r - 1 = 0 by omega]
          show ((m + (q : Int) * h + h) :: List.replicate r (m + ((q : Int) + 1) * h)).Perm (List.replicate c (m + ((q + 1 : Nat) : Int) * h) ++ [])
          rw [List.append_nil, hcr, List.replicate_succ, show ((q + 1 : Nat) : Int) = (q : Int) + 1 by omega, hmul, Int.add_assoc]))
        rw [q3]
        refine List.map_congr_left fun k _ => ?_
        rw [show (q + 1) * c + 0 + k = q * c + (r + 1) + k by rw [Nat.add_mul]; omega]
    rw [List.range_succ_eq_map, List.map_cons, List.map_map, ediv]
    show max m (lo a) :: startsE (nx a (m, h)) (List.replicate n (m, h)) = _
    rw [elo, tail]
    congr 1
    refine List.map_congr_left fun k _ => ?_
    show m + (((q * c + (r + 1) + k) / c : Nat) : Int) * h = m + (((q * c + r + (k + 1)) / c : Nat) : Int) * h
    rw [show q * c + (r + 1) + k = q * c + r + (k + 1) by omega]
theorem starts_same {c n : Nat} {m h : Int} (hc : 0 < c) (hm : 0 ≤ m) (hh : 0 ≤ h) : starts c (List.replicate n (m, h)) = (List.range n).map fun k => m + ((k / c : Nat) : Int) * h := by
  rw [starts_eq, cl_same n c 0 0 m h _ hc hc hm hh (by simp) (by
    unfold cl
    rw [List.map_replicate]
    have e1 : max m 0 = m + ((0 : Nat) : Int) * h := by
      rw [show ((0 : Nat) : Int) = 0 from rfl, Int.zero_mul]
      omega
    rw [e1]
    simp)]
  refine List.map_congr_left fun k _ => ?_
  rw [Nat.zero_mul, Nat.zero_add]
/-- the fewest of such -/
theorem late_same {c n : Nat} {m h l : Int} {k : Nat} (hc : 0 < c) (hm : 0 ≤ m) (hh : 0 ≤ h) (hk : k < n) : late (List.replicate n (m, h)) (starts c (List.replicate n (m, h))) l k = decide (l < ((k / c : Nat) : Int) * h) := by
  unfold late
  rw [starts_same hc hm hh, List.getElem?_replicate, if_pos hk, List.getElem?_map, List.getElem?_range hk]
  show decide (l < m + ((k / c : Nat) : Int) * h - m) = _
  congr 1
  rw [show m + ((k / c : Nat) : Int) * h - m = ((k / c : Nat) : Int) * h by omega]
theorem fits_same {c n : Nat} {m h : Int} (hc : 0 < c) (hm : 0 ≤ m) (hh : 0 ≤ h) : fits (List.replicate n (m, h)) (3 * h) c = decide (h = 0 ∨ n ≤ 4 * c) := by
  have hf : fits (List.replicate n (m, h)) (3 * h) c = true ↔ (h = 0 ∨ n ≤ 4 * c) := by
    unfold fits
    rw [List.all_eq_true, List.length_replicate]
    constructor
    · intro q
      by_cases h0 : h = 0
      · exact .inl h0
      · refine .inr ?_
        by_cases hn : n ≤ 4 * c
        · exact hn
        · have hk : 4 * c < n := by omega
          have q1 := q (4 * c) (List.mem_range.mpr hk)
          rw [late_same hc hm hh hk, Nat.mul_div_cancel _ hc] at q1
          have q2 : ¬ (3 * h < ((4 : Nat) : Int) * h) := by simpa using q1
          exact absurd (show (3 : Int) * h < ((4 : Nat) : Int) * h by omega) q2
    · intro q k hk
      have hk := List.mem_range.mp hk
      rw [late_same hc hm hh hk]
      rcases q with q | q
      · subst q
        simp
      · have h4 : k / c ≤ 3 := by
          have : k / c < 4 := (Nat.div_lt_iff_lt_mul hc).mpr (by omega)
          omega
        have h5 : ((k / c : Nat) : Int) * h ≤ 3 * h := Int.mul_le_mul_of_nonneg_right (by omega) hh
        have h6 : ¬ (3 * h < ((k / c : Nat) : Int) * h) := by omega
        rw [decide_eq_false h6]
        rfl
  by_cases z : h = 0 ∨ n ≤ 4 * c
  · rw [decide_eq_true z]
    exact hf.mpr z
  · rw [decide_eq_false z]
    cases q : fits (List.replicate n (m, h)) (3 * h) c with
    | false => rfl
    | true => exact absurd (hf.mp q) z
theorem fewest_zero {n : Nat} {m : Int} (hm : 0 ≤ m) : fewest (List.replicate n (m, 0)) 0 = some 1 :=
  fewest_some (by decide) (by decide) (by
    have := fits_same (c := 1) (n := n) (m := m) (h := 0) (by decide) hm (Int.le_refl 0)
    rw [Int.mul_zero] at this
    rw [this]
    simp) fun d h1 h2 => by omega
theorem fewest_few {n : Nat} {m h : Int} (hm : 0 ≤ m) (hh : 0 < h) (hn : n ≤ 32) : fewest (List.replicate n (m, h)) (3 * h) = some (max 1 ((n + 3) / 4)) := by
  refine fewest_some (by omega) (by omega) ?_ fun d h1 h2 => ?_
  · rw [fits_same (by omega) hm (by omega)]
    exact decide_eq_true (.inr (by omega))
  · rw [fits_same (by omega) hm (by omega)]
    exact decide_eq_false (by
      rintro (z | z)
      · omega
      · omega)
theorem fewest_many {n : Nat} {m h : Int} (hm : 0 ≤ m) (hh : 0 < h) (hn : 32 < n) : fewest (List.replicate n (m, h)) (3 * h) = none := by
  refine fewest_none fun d h1 h2 => ?_
  rw [fits_same (by omega) hm (by omega)]
  exact decide_eq_false (by
    rintro (z | z)
    · omega
    · omega)
end Sv

namespace Ll
open PySem PySem.Spec PyProof.Rows L2
def triD (q : (Int × Int) × Bool) : PyData := .tuple [.int q.1.1, .int q.1.2, .bool q.2]
def work38 (mo : List ((Int × Int) × Bool)) : List (Int × Int) := (mo.filter (·.2)).map (·.1)
/-- what has been built, the moment M the last -/
structure Ok38 (M : Int) (i : Nat) (mo : List ((Int × Int) × Bool)) : Prop where
  lo : 0 ≤ M
  hi : M ≤ 60 * i
  good : Sv.Good (mo.map (·.1))
  last : ∀ x ∈ mo, x.1.1 ≤ M
  zero : ∀ x ∈ mo, x.2 = false → x.1.2 = 0
structure L38 (K : PySem.W.Frag) (H : Hp) (d wl ml : Addr) (w : List (Int × Int)) (mo : List ((Int × Int) × Bool)) : Prop where
  dice : DiceAt K H d
  hw : ∃ xs, H wl = some (.lst xs) ∧ DpAll K H xs (w.map prD)
  hm : ∃ xs, H ml = some (.lst xs) ∧ DpAll K H xs (mo.map triD)
  n1 : d ≠ wl
  n2 : d ≠ ml
  n3 : wl ≠ ml
theorem imm_tri : ∀ l : List ((Int × Int) × Bool), ImmAll (l.map triD) = true
  | [] => rfl
  | _ :: l => by
    show (true && ImmAll (l.map triD)) = true
    rw [imm_tri l]
    rfl
section
variable {K : PySem.W.Frag} {H H' : Hp} {d wl ml : Addr} {w : List (Int × Int)} {mo : List ((Int × Int) × Bool)} {M : Int} {i : Nat}
theorem L38.next (R : L38 K H d wl ml w mo) (f : Fr (fun b => b = d) H H') (dc : DiceAt K H' d) : L38 K H' d wl ml w mo := by
  obtain ⟨xs, h1, h2⟩ := R.hw
  obtain ⟨ys, h3, h4⟩ := R.hm
  exact ⟨dc, ⟨xs, f.but _ _ h1 R.n1.symm, dp_kpAll f.kp _ _ (imm_prs _) h2⟩, ⟨ys, f.but _ _ h3 R.n2.symm, dp_kpAll f.kp _ _ (imm_tri _) h4⟩, R.n1, R.n2, R.n3⟩
theorem L38.same (R : L38 K H d wl ml w mo) (f : Same H H') : L38 K H' d wl ml w mo := by
  obtain ⟨xs, h1, h2⟩ := R.hw
  obtain ⟨ys, h3, h4⟩ := R.hm
  exact ⟨R.dice.fr (Fr.same f) (F := fun _ => False) id, ⟨xs, f _ _ h1, dp_sameAll f _ _ h2⟩, ⟨ys, f _ _ h3, dp_sameAll f _ _ h4⟩, R.n1, R.n2, R.n3⟩
theorem dp_tri {K : PySem.W.Frag} {H : Hp} {v : V} {q : (Int × Int) × Bool} (h : Dp K H v (triD q)) : ∃ t, v = .ref t ∧ SqT K H t [.int q.1.1, .int q.1.2, .bl q.2] := by
  cases h with
  | tup hs ha =>
    cases ha with
    | cons h1 h2 =>
      cases h1
      cases h2 with
      | cons h3 h4 =>
        cases h3
        cases h4 with
        | cons h5 h6 =>
          cases h5
          cases h6
          exact ⟨_, rfl, hs⟩
/-- the starts of the first ones -/
def pick38 (q : Int × ((Int × Int) × Bool)) : Option V := if q.2.2 then some (.int q.1) else none
theorem pick38_eq (l : List (Int × ((Int × Int) × Bool))) : l.filterMap pick38 = ((l.filter fun q => q.2.2).map (·.1)).map V.int := by
  induction l with
  | nil => rfl
  | cons q l ih =>
    by_cases h : q.2.2 = true
    · rw [List.filterMap_cons_some (b := V.int q.1) (by unfold pick38; rw [if_pos h]), ih, List.filter_cons_of_pos (by exact h)]
      rfl
    · rw [List.filterMap_cons_none (by unfold pick38; rw [if_neg h]), ih, List.filter_cons_of_neg (by exact h)]
theorem dp_mk2 {K : PySem.W.Frag} {H : Hp} {t : Addr} {p : Int × Int} (h : SqT K H t [.int p.1, .int p.2]) : Dp K H (.ref t) (prD p) := .tup h (.cons (.int _) (.cons (.int _) .nil))
theorem dp_mk3 {K : PySem.W.Frag} {H : Hp} {t : Addr} {p : (Int × Int) × Bool} (h : SqT K H t [.int p.1.1, .int p.1.2, .bl p.2]) : Dp K H (.ref t) (triD p) := .tup h (.cons (.int _) (.cons (.int _) (.cons (.bl _) .nil)))
theorem L38.addM {ys : List V} {t : Addr} {q : (Int × Int) × Bool} (R : L38 K H d wl ml w mo) (hm : H ml = some (.lst ys)) (ht : SqT K H t [.int q.1.1, .int q.1.2, .bl q.2]) :
    L38 K (upd H ml (.lst (ys ++ [.ref t]))) d wl ml w (mo ++ [q]) := by
  have f : Fr (fun b => b = ml) H (upd H ml (.lst (ys ++ [.ref t]))) := Fr.at1 (mut_lst hm)
  obtain ⟨xs, h1, h2⟩ := R.hw
  obtain ⟨zs, h3, h4⟩ := R.hm
  rw [hm] at h3
  cases h3
  refine ⟨R.dice.fr f R.n2, ⟨xs, f.but _ _ h1 R.n3, dp_kpAll f.kp _ _ (imm_prs _) h2⟩, ⟨_, upd_same, ?_⟩, R.n1, R.n2, R.n3⟩
  rw [List.map_append]
  exact dp_kpAll f.kp _ _ (by rw [← List.map_append]; exact imm_tri _) (dpAll_snoc h4 (dp_mk3 ht))
theorem L38.addW {ys : List V} {t : Addr} {q : Int × Int} (R : L38 K H d wl ml w mo) (hm : H wl = some (.lst ys)) (ht : SqT K H t [.int q.1, .int q.2]) :
    L38 K (upd H wl (.lst (ys ++ [.ref t]))) d wl ml (w ++ [q]) mo := by
  have f : Fr (fun b => b = wl) H (upd H wl (.lst (ys ++ [.ref t]))) := Fr.at1 (mut_lst hm)
  obtain ⟨zs, h3, h4⟩ := R.hw
  obtain ⟨xs, h1, h2⟩ := R.hm
  rw [hm] at h3
  cases h3
  refine ⟨R.dice.fr f R.n1, ⟨_, upd_same, ?_⟩, ⟨xs, f.but _ _ h1 R.n3.symm, dp_kpAll f.kp _ _ (imm_tri _) h2⟩, R.n1, R.n2, R.n3⟩
  rw [List.map_append]
  exact dp_kpAll f.kp _ _ (by rw [← List.map_append]; exact imm_prs _) (dpAll_snoc h4 (dp_mk2 ht))
theorem good_snoc : ∀ {w : List (Int × Int)} {l M h : Int}, Sv.GoodFrom l w → (∀ p ∈ w, p.1 ≤ M) → l ≤ M → M ≤ 9999 → 0 ≤ h → h ≤ 99 → Sv.GoodFrom l (w ++ [(M, h)])
  | [], _, _, _, _, _, h1, h2, h3, h4 => ⟨h1, h2, h3, h4, trivial⟩
  | p :: w, _, _, _, ⟨g1, g2, g3, g4, g5⟩, hm, _, h2, h3, h4 => ⟨g1, g2, g3, g4, good_snoc g5 (fun q hq => hm q (List.mem_cons_of_mem _ hq)) (hm p List.mem_cons_self) h2 h3 h4⟩
theorem good_low : ∀ {w : List (Int × Int)} {l m : Int}, Sv.GoodFrom m w → l ≤ m → Sv.GoodFrom l w
  | [], _, _, _, _ => trivial
  | p :: w, _, _, ⟨g1, g2, g3, g4, g5⟩, h => ⟨Int.le_trans h g1, g2, g3, g4, g5⟩
theorem good_filter : ∀ {mo : List ((Int × Int) × Bool)} {l : Int}, Sv.GoodFrom l (mo.map (·.1)) → Sv.GoodFrom l ((mo.filter (·.2)).map (·.1))
  | [], _, _ => trivial
  | (p, true) :: mo, _, ⟨g1, g2, g3, g4, g5⟩ => ⟨g1, g2, g3, g4, good_filter (mo := mo) g5⟩
  | (p, false) :: mo, _, ⟨g1, g2, g3, g4, g5⟩ => good_low (good_filter (mo := mo) g5) g1
theorem good_rep {m h l : Int} (h1 : m ≤ 9999) (h2 : 0 ≤ h) (h3 : h ≤ 99) : ∀ (n : Nat) {l : Int}, l ≤ m → Sv.GoodFrom l (List.replicate n (m, h))
  | 0, _, _ => trivial
  | n + 1, _, hl => ⟨hl, h1, h2, h3, good_rep (l := l) h1 h2 h3 n (Int.le_refl m)⟩
theorem dpAll_rep {K : PySem.W.Frag} {H : Hp} {v : V} {d : PyData} (h : Dp K H v d) : ∀ n, DpAll K H (List.replicate n v) (List.replicate n d)
  | 0 => .nil
  | n + 1 => .cons h (dpAll_rep h n)
theorem flat_one {α : Type} (x : α) : ∀ n, (List.replicate n [x]).flatten = List.replicate n x
  | 0 => rfl
  | n + 1 => by
    show [x] ++ (List.replicate n [x]).flatten = List.replicate (n + 1) x
    rw [flat_one x n]
    rfl
theorem work_rep {K : PySem.W.Frag} {H : Hp} {p t : Addr} {m h : Int} {n : Nat} {k : Int} (hk : k = (n : Int)) (hp : H p = some (.lst (List.replicate k.toNat [V.ref t]).flatten)) (ht : SqT K H t [.int m, .int h]) : WorkAt K H p (List.replicate n (m, h)) := by
  subst hk
  rw [flat_one] at hp
  refine ⟨_, .of hp, ?_⟩
  rw [List.map_replicate]
  exact dpAll_rep (dp_mk2 (p := (m, h)) ht) _
theorem Ok38.later (h : Ok38 M i mo) {z : Int} (h0 : 0 ≤ z) (h1 : z ≤ 60) : Ok38 (M + z) (i + 1) mo :=
  ⟨by have := h.lo; omega, by have := h.hi; omega, h.good, fun x hx => by have := h.last x hx; omega, h.zero⟩
theorem Ok38.add (h : Ok38 M i mo) {z : Int} {b : Bool} (h0 : 0 ≤ z) (h1 : z ≤ 99) (hM : M ≤ 9999) (hb : b = false → z = 0) : Ok38 M i (mo ++ [((M, z), b)]) := by
  refine ⟨h.lo, h.hi, ?_, fun x hx => ?_, fun x hx e => ?_⟩
  · rw [List.map_append]
    exact good_snoc h.good (fun p hp => by
      obtain ⟨q, hq, rfl⟩ := List.mem_map.mp hp
      exact h.last q hq) h.lo hM h0 h1
  · rcases List.mem_append.mp hx with q | q
    · exact h.last x q
    · rw [List.mem_singleton.mp q]
      exact Int.le_refl _
  · rcases List.mem_append.mp hx with q | q
    · exact h.zero x q e
    · rw [List.mem_singleton.mp q] at e ⊢
      exact hb e
end
def spLaw (K : PySem.W.Frag) : Sp := fun vs H Q _ => ∃ (a : Addr) (ns : List Int), vs = [.ref a] ∧ FixL K H a (ns.map V.int) ∧ ns.length ≤ 63 ∧ ∀ H', Q (.bl true) H'
section
variable {P : Program} {w : World} {K : PySem.W.Frag} {mg : Str → Option Value} {base : Heap} {CX : CXT}
abbrev sscLw : Stmt := topS 15
abbrev nscLw : List Str := ["_law_script", "_law_d", "_law_count", "_law_moment", "_law_work", "_law_more", "_law_k", "_law_j", "_law_found", "_law_many", "_law_hold", "_law_due", "_law_few", "_law_one"]
theorem scLw : FnScope nscLw ["_law_script"] (defScope sscLw) := ⟨rfl, rfl, rfl, by decide +kernel, rfl, by decide +kernel, by decide +kernel⟩
theorem ok_law {f : Addr} {fd : FuncData} (F : FunD K "law" "law" (defArgs sscLw) (defBody sscLw) (defScope sscLw) [] [] f fd) (T : TxSrv K mg)
    (G__law_dice : FnG P w K mg base CX0 1 "_law_dice" ["_law_script"] [] (spDice K)) (G__law_next : FnG P w K mg base CX0 1 "_law_next" ["_law_dice_here", "_law_many"] [] (spNext K))
    (G_served : FnG P w K mg base CX0 2 "served" ["work", "count"] [] (spServed K)) (G_fewest : FnG P w K mg base CX0 2 "fewest" ["work", "longest"] [] (spFewest K)) : FnOk P w K mg base CX 3 f fd ["_law_script"] (spLaw K) := by
  refine F.ok scLw (fun vs H Q E h => ?_) (fun cdv A outer s H vs Q E hr h => ?_)
  · obtain ⟨a, ns, rfl, _⟩ := h
    rfl
  · obtain ⟨a, ns, rfl, hX, hl, k⟩ := h
    refine ⟨_, PSs.nox (pss_cons (ps_set (i := 1) scLw.nd rfl (Or.inl rfl) (pe_callG G__law_dice (hr.mono (by decide)) rfl pass0 (pa_cons (pv 0) pa_nil)))
      (pss_cons (ps_asg (pe_tup (pa_cons (pe_op op_add pe_int (pe_callG G__law_next (hr.mono (by decide)) rfl pass0 (pa_cons (pv 1) (pa_cons pe_int pa_nil)))) (pa_cons pe_int (pa_cons (pe_lst pa_nil) (pa_cons (pe_lst pa_nil) pa_nil))))) (pg_tup rfl (pgs_cons (pg_name (i := 2) scLw.nd rfl (.inr rfl)) (pgs_cons (pg_name (i := 3) scLw.nd rfl (.inr rfl)) (pgs_cons (pg_name (i := 4) scLw.nd rfl (.inl rfl)) (pgs_cons (pg_name (i := 5) scLw.nd rfl (.inr rfl)) pgs_nil))))))
      (pss_cons (ps_for PassesOwn.never rfl (pi_range1 (by rfl) T.range (pa_cons (pe_callG G__law_next (hr.mono (by decide)) rfl pass0 (pa_cons (pv 1) (pa_cons pe_int pa_nil))) pa_nil)) (pg_name (i := 6) scLw.nd rfl (.inl rfl)) (pss_cons (ps_set (i := 3) scLw.nd rfl (Or.inr rfl) (pe_op op_add (pv 3) (pe_ix ix_list (pe_lst (pa_cons pe_int (pa_cons (pe_callG G__law_next (hr.mono (by decide)) rfl pass0 (pa_cons (pv 1) (pa_cons pe_int pa_nil))) (pa_cons (pe_callG G__law_next (hr.mono (by decide)) rfl pass0 (pa_cons (pv 1) (pa_cons pe_int pa_nil))) pa_nil)))) (pe_callG G__law_next (hr.mono (by decide)) rfl pass0 (pa_cons (pv 1) (pa_cons pe_int pa_nil))) (fun _ _ => rfl))))
      (pss_cons (ps_for PassesOwn.never rfl (pi_range1 (by rfl) T.range (pa_cons (pe_callG G__law_next (hr.mono (by decide)) rfl pass0 (pa_cons (pv 1) (pa_cons pe_int pa_nil))) pa_nil)) (pg_name (i := 7) scLw.nd rfl (.inl rfl)) (pss_one (ps_expr (pe_bm PySem.F.plainAttrs_list PySem.F.slot_list_append PySem.F.type_list_append mt_append (pv 5) (pa_cons (pe_tup (pa_cons (pv 3) (pa_cons pe_int (pa_cons pe_bl pa_nil)))) pa_nil)))))
      (pss_cons (ps_expr (pe_bm PySem.F.plainAttrs_list PySem.F.slot_list_append PySem.F.type_list_append mt_append (pv 4) (pa_cons (pe_tup (pa_cons (pv 3) (pa_cons (pe_callG G__law_next (hr.mono (by decide)) rfl pass0 (pa_cons (pv 1) (pa_cons pe_int pa_nil))) pa_nil))) pa_nil)))
      (pss_one (ps_expr (pe_bm PySem.F.plainAttrs_list PySem.F.slot_list_append PySem.F.type_list_append mt_append (pv 5) (pa_cons (pe_op op_catT (pe_ix ix_list (pv 4) (pe_un un_neg pe_int) (fun _ _ => rfl)) (pe_tup (pa_cons pe_bl pa_nil))) pa_nil))))))))
      (pss_cons (ps_set (i := 8) scLw.nd rfl (Or.inr rfl) (pe_callG G_served (hr.mono (by decide)) rfl pass0 (pa_cons (pe_lc (own := [("_law_one", 13)]) (g := (gName 13)) (tt := tYes) (te := (tSl (rSlT K) (tVar 13) tNoPart (tPart (tC (.int 2))))) rfl scLw.nd (pi_list (pv 5)) (blkOk_by (N := nscLw) (sc := defScope sscLw) (by decide +kernel)) (fun _ _ _ _ _ => (pg_name (i := 13) scLw.nd rfl (.inl rfl))) (fun _ _ _ _ _ => pts_nil) (fun _ _ _ _ _ => (pe_slice sl_tup (pv 13) po_none (po_some pe_int)))) (pa_cons (pv 2) pa_nil))))
      (pss_cons (ps_if (pt_cmpR (op_neD hr.units) (pe_lc (own := [("_law_k", 6)]) (g := (gName 6)) (tt := (tB (tOp (rIxT K) (tOp (rIxL K) (tVar 5) (tVar 6)) (tC (.int 2))))) (te := (tOp (rIxL K) (tVar 8) (tVar 6))) rfl scLw.nd (pi_range1 (by rfl) T.range (pa_cons (pe_callB call_len_seq (by rfl) T.len PySem.boot_len (pa_cons (pv 5) pa_nil)) pa_nil)) (blkOk_by (N := nscLw) (sc := defScope sscLw) (by decide +kernel)) (fun _ _ _ _ _ => (pg_name (i := 6) scLw.nd rfl (.inl rfl))) (fun _ _ _ _ _ => (pts_one (pt_val (pe_ix ix_tup (pe_ix ix_list (pv 5) (pv 6) (fun _ _ => rfl)) pe_int (fun _ _ => rfl))))) (fun _ _ _ _ _ => (pe_ix ix_list (pv 8) (pv 6) (fun _ _ => rfl)))) (pe_callG G_served (hr.mono (by decide)) rfl pass0 (pa_cons (pv 4) (pa_cons (pv 2) pa_nil))) (nomark _)) (pss_one (ps_ret pe_bl)) pss_nil)
      (pss_cons (ps_asg (pe_tup (pa_cons (pe_callG G__law_next (hr.mono (by decide)) rfl pass0 (pa_cons (pv 1) (pa_cons pe_int pa_nil))) (pa_cons (pe_callG G__law_next (hr.mono (by decide)) rfl pass0 (pa_cons (pv 1) (pa_cons pe_int pa_nil))) (pa_cons (pe_callG G__law_next (hr.mono (by decide)) rfl pass0 (pa_cons (pv 1) (pa_cons pe_int pa_nil))) pa_nil)))) (pg_tup rfl (pgs_cons (pg_name (i := 9) scLw.nd rfl (.inl rfl)) (pgs_cons (pg_name (i := 10) scLw.nd rfl (.inr rfl)) (pgs_cons (pg_name (i := 3) scLw.nd rfl (.inr rfl)) pgs_nil)))))
      (pss_cons (ps_setLc (i := 11) (own := [("_law_k", 6)]) (g := (gName 6)) (tt := tYes) (te := (tOp (rI0 fun i j => .int (i + j)) (tVar 3) (tOp (rI CMul fun i j => .int (i * j)) (tOp (rI CDivN fun i j => .int (i.fdiv j)) (tVar 6) (tVar 2)) (tVar 10)))) rfl scLw.nd rfl rfl (sw_true rfl rfl rfl (by decide +kernel)) (pi_range1 (by rfl) T.range (pa_cons (pv 9) pa_nil)) (blkOk_by (N := nscLw) (sc := defScope sscLw) (by decide +kernel)) (fun _ _ _ _ _ => (pg_name (i := 6) scLw.nd rfl (.inl rfl))) (fun _ _ _ _ _ => pts_nil) (fun _ _ _ _ _ => (pe_op op_add (pv 3) (pe_op op_mul (pe_op op_fdivN (pv 6) (pv 2)) (pv 10)))))
      (pss_cons (ps_if (pt_cmpR (op_neD hr.units) (pe_callG G_served (hr.mono (by decide)) rfl pass0 (pa_cons (pe_op op_rep (pe_lst (pa_cons (pe_tup (pa_cons (pv 3) (pa_cons (pv 10) pa_nil))) pa_nil)) (pv 9)) (pa_cons (pv 2) pa_nil))) (pv 11) (nomark _)) (pss_one (ps_ret pe_bl)) pss_nil)
      (pss_cons (ps_set (i := 12) scLw.nd rfl (Or.inl rfl) (pe_callG G_fewest (hr.mono (by decide)) rfl pass0 (pa_cons (pe_op op_rep (pe_lst (pa_cons (pe_tup (pa_cons (pv 3) (pa_cons (pv 10) pa_nil))) pa_nil)) (pv 9)) (pa_cons (pe_op op_mul pe_int (pv 10)) pa_nil))))
      (pss_one (ps_ret (pe_or (pe_cmpR (op_eq) (pv 12) (pe_ifExp (PW.pt (pw_or (pt_cmpR (op_le) (pv 9) pe_int (nomark _)) (pw_or1 (pt_cmpR (op_eq) (pv 10) pe_int (nomark _))))) (pe_callB (call_max2 rfl) (by rfl) T.max (by decide +kernel) (pa_cons pe_int (pa_cons (pe_op op_fdiv (pe_op op_add (pv 9) pe_int) pe_int) pa_nil))) pe_non) (nomark _)) (pe_one (pe_and (pe_cmpR (op_eq) (pv 10) pe_int (nomark _)) (pe_one (pe_cmpR (op_eq) (pv 12) pe_int (nomark _))))))))))))))))), ?_⟩
    walk_at "rd"
    refine ⟨a, ns, rfl, hX, hl, fun H1 d nd s1 dc => ?_⟩
    walk_at "rd"
    intro c0 H2 c1 c2 f2 dc2
    obtain ⟨c, rfl⟩ : ∃ c : Nat, c0 = (c : Int) := ⟨c0.toNat, by omega⟩
    have hc0 : (1 : Int) + c = ((c + 1 : Nat) : Int) := by omega
    walk_at "rd"
    intro wl n1
    walk_at "rd"
    intro ml n2
    walk_at "rd"
    intro tp n3
    walk_at "rd"
    have R0 : L38 K (upd (upd (upd H2 wl (.lst [])) ml (.lst [])) tp (.tup [.int (1 + (c : Int)), .int 0, .ref wl, .ref ml])) d wl ml [] [] := by
      obtain ⟨xs, hd⟩ := dc2.ex
      have e1 : d ≠ wl := ne_of_none hd n1
      have e2 : d ≠ ml := ne_of_none (Same.new n1 _ _ hd) n2
      have e3 : wl ≠ ml := ne_of_none upd_same n2
      refine L38.same ⟨(dc2.fr (F := fun _ => False) (Fr.new n1) id).fr (F := fun _ => False) (Fr.new n2) id, ⟨[], by rw [upd_ne e3, upd_same], .nil⟩, ⟨[], upd_same, .nil⟩, e1, e2, e3⟩ (Same.new n3)
    generalize (upd (upd (upd H2 wl (.lst [])) ml (.lst [])) tp (.tup [.int (1 + (c : Int)), .int 0, .ref wl, .ref ml])) = H3 at R0 ⊢
    walk_at "rd"
    refine ⟨R0.dice, by decide, by decide, fun n0 H4 n01 n02 f4 dc4 => ?_⟩
    have R4 := R0.next f4 dc4
    walk_at "rd"
    refine ⟨by omega, by omega, for_range (lo := 0) (n := n0.toNat) (fun i σ H' => ∃ (M : Int) (v6 v7 : Option V) (mo : List ((Int × Int) × Bool)),
        σ = [some (.ref a), some (.ref d), some (.int (1 + (c : Int))), some (.int M), some (.ref wl), some (.ref ml), v6, v7, none, none, none, none, none, none] ∧ Ok38 M i mo ∧ mo.length ≤ 3 * i ∧ L38 K H' d wl ml (work38 mo) mo)
      ⟨0, none, none, [], rfl, ⟨by decide, by decide, trivial, (fun _ h => nomatch h), (fun _ h => nomatch h)⟩, by simp, R4⟩ ?_ ?_⟩
    · rintro i σ H5 hi ⟨M, v6, v7, mo, rfl, hO, hl5, R5⟩
      have dc5 := R5.dice
      walk_at "rd"
      intro x1 H6 x11 x12 f6 dc6
      have R6 := R5.next f6 dc6
      walk_at "rd"
      intro x2 H7 x21 x22 f7 dc7
      have R7 := R6.next f7 dc7
      walk_at "rd"
      intro p np
      have R8 := R7.same (Same.new (o := .lst [.int 0, .int x1, .int x2]) np)
      have dc8 := R8.dice
      walk_at "rd"
      intro y H9 y1 y2 f9 dc9
      have R9 := R8.next f9 dc9
      have np9 : H9 p = some (.lst [.int 0, .int x1, .int x2]) := f9.but _ _ upd_same fun e => by
        obtain ⟨xs, hx⟩ := dc7.ex
        rw [e, hx] at np
        cases np
      obtain ⟨z, hz, hzz⟩ := pick3 (x0 := 0) (x1 := x1) (x2 := x2) y1 y2
      walk_at "rd"
      intro j0 H10 j1 j2 f10 dc10
      have R10 := R9.next f10 dc10
      have hO1 : Ok38 (M + z) (i + 1) mo := hO.later (by omega) (by omega)
      walk_at "rd"
      refine ⟨by omega, by omega, for_range (lo := 0) (n := j0.toNat) (fun j σ H' => ∃ (v7 : Option V) (mo' : List ((Int × Int) × Bool)),
          σ = [some (.ref a), some (.ref d), some (.int (1 + (c : Int))), some (.int (M + z)), some (.ref wl), some (.ref ml), some (.int (0 + i)), v7, none, none, none, none, none, none] ∧ Ok38 (M + z) (i + 1) mo' ∧ mo'.length ≤ 3 * i + j ∧ work38 mo' = work38 mo ∧ L38 K H' d wl ml (work38 mo) mo')
        ⟨v7, mo, rfl, hO1, by omega, rfl, R10⟩ ?_ ?_⟩
      · rintro j σ H11 hj ⟨v7', mo', rfl, hO', hl', hw', R11⟩
        obtain ⟨ys, hm, hmd⟩ := R11.hm
        have hyl : ys.length ≤ 1000 := by
          rw [dpAll_len hmd, List.length_map]
          omega
        walk_at "rd"
        intro t nt
        walk_at "rd"
        have R12 := (R11.same (Same.new (o := .tup [.int (M + z), .int 0, .bl false]) nt)).addM (q := ((M + z, 0), false)) (Same.new nt _ _ hm) (.of upd_same)
        refine ⟨_, mo' ++ [((M + z, 0), false)], rfl, hO'.add (by decide) (by decide) (by have := hO'.hi; omega) (fun _ => rfl), by rw [List.length_append]; simp; omega, ?_, R12⟩
        rw [← hw']
        unfold work38
        simp
      · rintro σ H11 ⟨v7', mo', rfl, hO', hl', hw', R11⟩
        have dc11 := R11.dice
        obtain ⟨ys, hm, hmd⟩ := R11.hm
        obtain ⟨xs, hw, hwd⟩ := R11.hw
        have hyl : ys.length ≤ 1000 := by
          rw [dpAll_len hmd, List.length_map]
          omega
        have hxl : xs.length ≤ 1000 := by
          rw [dpAll_len hwd, List.length_map]
          have : (work38 mo).length ≤ mo.length := by
            unfold work38
            rw [List.length_map]
            exact List.length_filter_le _ _
          omega
        walk_at "rd"
        intro h H12 h1 h2 f12 dc12
        have R12 := R11.next f12 dc12
        have hw12 := f12.but _ _ hw R11.n1.symm
        have hm12 := f12.but _ _ hm R11.n2.symm
        walk_at "rd"
        intro t nt
        walk_at "rd"
        have R13 := (R12.same (Same.new (o := .tup [.int (M + z), .int h]) nt)).addW (q := (M + z, h)) (Same.new nt _ _ hw12) (.of upd_same)
        have hm13 : upd (upd H12 t (.tup [.int (M + z), .int h])) wl (.lst (xs ++ [.ref t])) ml = some (.lst ys) := by
          rw [upd_ne R11.n3.symm]
          exact Same.new nt _ _ hm12
        have ht13 : upd (upd H12 t (.tup [.int (M + z), .int h])) wl (.lst (xs ++ [.ref t])) t = some (.tup [.int (M + z), .int h]) := by
          rw [upd_ne (ne_of_none hw12 nt).symm, upd_same]
        have hx13 : upd (upd H12 t (.tup [.int (M + z), .int h])) wl (.lst (xs ++ [.ref t])) wl = some (.lst (xs ++ [.ref t])) := upd_same
        generalize upd (upd H12 t (.tup [.int (M + z), .int h])) wl (.lst (xs ++ [.ref t])) = H13 at R13 hm13 ht13 hx13 ⊢
        have hlast : atI (xs ++ [V.ref t]) (-1) = some (V.ref t) := by
          unfold atI ixN
          rw [List.length_append, List.length_singleton, if_neg (by decide), if_pos (by omega)]
          show (xs ++ [V.ref t])[(-1 + ((xs.length + 1 : Nat) : Int)).toNat]? = _
          rw [show (-1 + ((xs.length + 1 : Nat) : Int)).toNat = xs.length by omega]
          simp
        walk_at "rd"
        intro t2 nt2
        have s14 := Same.new (o := .tup [V.bl true]) nt2
        refine ⟨t, t2, _, _, rfl, rfl, .of (s14 _ _ ht13), .of upd_same, (fun e => nomatch e), by show 3 ≤ sizeLine; decide, (fun e => nomatch e), fun _ t3 nt3 => ?_⟩
        have s15 := s14.trans (Same.new (o := .tup ([V.int (M + z), V.int h] ++ [V.bl true])) nt3)
        have R16 := (R13.same s15).addM (q := ((M + z, h), true)) (s15 _ _ hm13) (.of upd_same)
        have hm15 := s15 _ _ hm13
        walk_at "rd"
        refine ⟨_, _, _, mo' ++ [((M + z, h), true)], rfl, hO'.add (by omega) (by omega) (by have := hO'.hi; omega) (fun e => nomatch e), by rw [List.length_append]; simp; omega, ?_⟩
        have ew : work38 (mo' ++ [((M + z, h), true)]) = work38 mo ++ [(M + z, h)] := by
          rw [← hw']
          unfold work38
          simp
        rw [ew]
        exact R16
    · rintro σ H5 ⟨M, v6, v7, mo, rfl, hO, hl5, R5⟩
      obtain ⟨ys, hm, hmd⟩ := R5.hm
      walk_at "rd"
      have hgl := dpAll_len hmd
      rw [List.length_map] at hgl
      have hi31 : n0.toNat ≤ 30 := by omega
      have hmo : mo.length ≤ 100 := by omega
      refine ⟨⟨ys, .of hm⟩, fun D nD => lc_data (K := K) (walk_list (xs := ys)) (fun i => (mo[i]?).map fun q => prD q.1) nD (by omega) (fun i d e => ?_) (fun H6 s6 => .of (s6 _ _ hm)) ?_ ?_⟩
      · obtain ⟨q, _, rfl⟩ := Option.map_eq_some_iff.mp e
        rfl
      · rintro i x H6 H7 Qy Qn hi s6 ⟨rfl, e1⟩ hy hn'
        obtain ⟨dd, hd, hyd⟩ := dpAll_get hmd e1
        obtain ⟨q, hq, rfl⟩ := map_get hd
        refine ⟨rfl, ?_⟩
        obtain ⟨t, rfl, ht⟩ := dp_tri (dp_same s6 _ _ hyd)
        walk_at "rd"
        exact ⟨t, _, rfl, ht, (by show ¬ (HT.sIx 3 0 none = 0 ∧ HT.sIx 3 3 (some 2) = 3); decide), fun p np => hy _ _ _ (by rw [hq]; rfl) (dp_mk2 (.of upd_same)) (Same.new np)⟩
      · intro H6 zs s6 hD6 hz6
        rw [hgl, filterMap_get] at hz6
        have R6 := R5.same s6
        walk_at "rd"
        have hG : Sv.Good (mo.map (·.1)) := hO.good
        have hz6 : DpAll K H6 zs ((mo.map (·.1)).map prD) := by
          rw [List.map_map]
          exact hz6
        refine ⟨D, mo.map (·.1), c + 1, congrArg (fun z : Int => [V.ref D, V.int z]) hc0, ⟨zs, .of hD6, hz6⟩, hG, by omega, by omega, by rw [List.length_map]; omega, fun H7 p np s7 hp => ?_⟩
        have R7 := R6.same s7
        obtain ⟨ys7, hm7, hmd7⟩ := R7.hm
        have hyl7 : ys7.length = mo.length := by rw [dpAll_len hmd7, List.length_map]
        have hstl : (Sv.starts (c + 1) (mo.map (·.1))).length = mo.length := by rw [Sv.starts_len, List.length_map]
        walk_at "rd"
        have etn : ((ys7.length : Nat) : Int).toNat = mo.length := by omega
        refine ⟨by omega, by omega, fun D2 nD2 => lc_pure (walk_range (lo := 0) (n := ((ys7.length : Nat) : Int).toNat)) (fun i => ((List.zip (Sv.starts (c + 1) (mo.map (·.1))) mo)[i]?).bind pick38) nD2 (by omega) (fun _ _ => trivial) ?_ ?_⟩
        · rintro i x H8 H9 Qy Qn hi s8 ⟨rfl, rfl⟩ hy hn'
          have hi2 : i < mo.length := by omega
          have e1 : (0 : Int) + (i : Int) = ((i : Nat) : Int) := by omega
          have hq := List.getElem?_eq_getElem hi2
          have hsq : (Sv.starts (c + 1) (mo.map (·.1)))[i]? = some ((Sv.starts (c + 1) (mo.map (·.1)))[i]'(by omega)) := List.getElem?_eq_getElem (by omega)
          have hz : (List.zip (Sv.starts (c + 1) (mo.map (·.1))) mo)[i]? = some ((Sv.starts (c + 1) (mo.map (·.1)))[i]'(by omega), mo[i]) := List.getElem?_zip_eq_some.mpr ⟨hsq, hq⟩
          rw [hz] at hy hn'
          generalize (Sv.starts (c + 1) (mo.map (·.1)))[i]'(by omega) = st at hsq hy hn' hz
          generalize mo[i] = q at hq hy hn' hz
          obtain ⟨v, hv⟩ : ∃ v, ys7[i]? = some v := ⟨ys7[i]'(by omega), List.getElem?_eq_getElem (by omega)⟩
          obtain ⟨dd, hd, hyd⟩ := dpAll_get hmd7 hv
          obtain ⟨q', hq', rfl⟩ := map_get hd
          rw [hq] at hq'
          cases hq'
          obtain ⟨t, rfl, ht⟩ := dp_tri (dp_same s8 _ _ hyd)
          have hm8 := s8 _ _ hm7
          have hp8 := s8 _ _ hp
          have hat : atI ys7 (0 + (i : Int)) = some (.ref t) := at_of e1 hv
          have hat2 : atI ((Sv.starts (c + 1) (mo.map (·.1))).map V.int) (0 + (i : Int)) = some (.int st) := at_of e1 (by rw [List.getElem?_map, hsq]; rfl)
          refine ⟨rfl, ?_⟩
          obtain ⟨⟨qm, qh⟩, qb⟩ := q
          cases qb with
          | true =>
            walk_at "rd"
            exact hy _ _ rfl (Same.refl _)
          | false =>
            walk_at "rd"
            exact hn' _ rfl (Same.refl _)
        · intro H8 s8 hD8
          rw [etn, show mo.length = (List.zip (Sv.starts (c + 1) (mo.map (·.1))) mo).length by simp [hstl], filterMap_bind, pick38_eq] at hD8
          have R8 := R7.same s8
          obtain ⟨xs8, hw8, hwd8⟩ := R8.hw
          have hwl : (work38 mo).length ≤ mo.length := by
            unfold work38
            rw [List.length_map]
            exact List.length_filter_le _ _
          walk_at "rd"
          refine ⟨wl, work38 mo, c + 1, congrArg (fun z : Int => [V.ref wl, V.int z]) hc0, ⟨xs8, .of hw8, hwd8⟩, good_filter hG, by omega, by omega, by omega, fun H9 p2 np2 s9 hp2 => ?_⟩
          have hpk := Sv.pick_starts mo 0 (List.replicate (c + 1) 0) (List.replicate (c + 1) 0) (List.Perm.refl _) (by simp) hG hO.zero
          rw [← Sv.starts_eq, ← Sv.starts_eq] at hpk
          refine ⟨_, _, dp_ints (.of (s9 _ _ hD8)), dp_ints (.of hp2), shaped_inD _, shaped_inD _, ?_⟩
          rw [eqv_ints]
          have hpk2 : decide (((List.zip (Sv.starts (c + 1) (mo.map (·.1))) mo).filter fun q => q.2.2).map (·.1) = Sv.starts (c + 1) (work38 mo)) = true := decide_eq_true hpk
          rw [hpk2]
          have R9 := R8.same s9
          have dc9 := R9.dice
          walk_at "rd"
          intro n1 H10 n11 n12 f10 dc10
          walk_at "rd"
          intro n2 H11 n21 n22 f11 dc11
          walk_at "rd"
          intro n3 H12 n31 n32 f12 dc12
          walk_at "rd"
          intro t1 nt1
          walk_at "rd"
          obtain ⟨N, rfl⟩ : ∃ N : Nat, n1 = (N : Int) := ⟨n1.toNat, by omega⟩
          refine ⟨by omega, by omega, fun D3 nD3 => lc_pure (walk_range (lo := 0) (n := (N : Int).toNat)) (fun i => some (V.int (n3 + ((0 : Int) + (i : Int)).fdiv (1 + (c : Int)) * n2))) nD3 (by omega) (fun _ _ => trivial) ?_ ?_⟩
          · rintro i x H13 H14 Qy Qn hi s13 ⟨rfl, rfl⟩ hy hn'
            refine ⟨rfl, ?_⟩
            walk_at "rd"
            exact hy _ _ rfl (Same.refl _)
          · intro H13 s13 hD13
            have edue : (List.range (N : Int).toNat).filterMap (fun i : Nat => some (V.int (n3 + ((0 : Int) + (i : Int)).fdiv (1 + (c : Int)) * n2))) = ((List.range N).map fun k => n3 + ((k / (c + 1) : Nat) : Int) * n2).map V.int := by
              rw [List.filterMap_eq_map', Int.toNat_natCast, List.map_map]
              refine List.map_congr_left fun k _ => ?_
              show V.int _ = V.int _
              rw [Int.fdiv_eq_ediv_of_nonneg _ (by omega), show (0 : Int) + k = ((k : Nat) : Int) by omega, hc0, ← Int.natCast_ediv]
            rw [edue] at hD13
            have hm3 : (0 : Int) ≤ n3 := n31
            walk_at "rd"
            intro t2 nt2
            walk_at "rd"
            intro l2 nl2
            walk_at "rd"
            have sz1 : 1 * (N : Int).toNat ≤ sizeLine := Nat.le_trans (by omega : _ ≤ 100) (by decide)
            refine ⟨l2, _, _, rfl, rfl, upd_same, by omega, by omega, sz1, fun p3 np3 => ?_⟩
            have st3 : Same (upd H13 t2 (.tup [.int n3, .int n2])) (upd (upd (upd H13 t2 (.tup [.int n3, .int n2])) l2 (.lst [.ref t2])) p3 (.lst (List.replicate (N : Int).toNat [V.ref t2]).flatten)) := (Same.new nl2).trans (Same.new np3)
            have ht3 := st3 _ _ upd_same
            have hD3 := st3 _ _ (Same.new nt2 _ _ hD13)
            have hp3 : upd (upd (upd H13 t2 (.tup [.int n3, .int n2])) l2 (.lst [.ref t2])) p3 (.lst (List.replicate (N : Int).toNat [V.ref t2]).flatten) p3 = some (.lst (List.replicate (N : Int).toNat [V.ref t2]).flatten) := upd_same
            generalize upd (upd (upd H13 t2 (.tup [.int n3, .int n2])) l2 (.lst [.ref t2])) p3 (.lst (List.replicate (N : Int).toNat [V.ref t2]).flatten) = H14 at ht3 hD3 hp3 ⊢
            walk_at "rd"
            refine ⟨p3, List.replicate N (n3, n2), c + 1, congrArg (fun z : Int => [V.ref p3, V.int z]) hc0, work_rep rfl hp3 (.of ht3), good_rep (l := 0) (by omega) (by omega) (by omega) N (by omega), by omega, by omega, by rw [List.length_replicate]; omega, fun H15 p4 np4 s15 hp4 => ?_⟩
            rw [Sv.starts_same (by omega) (by omega) (by omega)] at hp4
            have hD4 := s15 _ _ hD3
            walk_at "rd"
            refine ⟨_, _, dp_ints (.of hp4), dp_ints (.of hD4), shaped_inD _, shaped_inD _, ?_⟩
            rw [eqv_ints, decide_eq_true rfl]
            walk_at "rd"
            intro t5 nt5
            walk_at "rd"
            intro l5 nl5
            walk_at "rd"
            refine ⟨l5, _, _, rfl, rfl, upd_same, by omega, by omega, sz1, fun p6 np6 => ?_⟩
            have st6 : Same (upd H15 t5 (.tup [.int n3, .int n2])) (upd (upd (upd H15 t5 (.tup [.int n3, .int n2])) l5 (.lst [.ref t5])) p6 (.lst (List.replicate (N : Int).toNat [V.ref t5]).flatten)) := (Same.new nl5).trans (Same.new np6)
            have ht6 := st6 _ _ upd_same
            have hp6 : upd (upd (upd H15 t5 (.tup [.int n3, .int n2])) l5 (.lst [.ref t5])) p6 (.lst (List.replicate (N : Int).toNat [V.ref t5]).flatten) p6 = some (.lst (List.replicate (N : Int).toNat [V.ref t5]).flatten) := upd_same
            generalize upd (upd (upd H15 t5 (.tup [.int n3, .int n2])) l5 (.lst [.ref t5])) p6 (.lst (List.replicate (N : Int).toNat [V.ref t5]).flatten) = H16 at ht6 hp6 ⊢
            walk_at "rd"
            refine ⟨p6, List.replicate N (n3, n2), 3 * n2, rfl, work_rep rfl hp6 (.of ht6), good_rep (l := 0) (by omega) (by omega) (by omega) N (by omega), by rw [List.length_replicate]; omega, fun H17 s17 => ?_⟩
            by_cases hz : n2 = 0
            · subst hz
              have hfw : Sv.fewest (List.replicate N (n3, 0)) (3 * 0) = some 1 := Sv.fewest_zero hm3
              rw [hfw]
              walk_at "rd"
              refine iteD (fun hN => ?_) (fun hN => ?_)
              · walk_at "rd"
                refine iteD (fun _ => k _) (fun _ => ?_)
                walk_at "rd"
                first
                  | exact k _
                  | (refine iteDT (p := V.int 0 = V.int 0) rfl ?_
                     walk_at "rd"
                     exact k _)
              · walk_at "rd"
                refine iteD (fun _ => k _) (fun _ => ?_)
                walk_at "rd"
                first
                  | exact k _
                  | (refine iteDT (p := V.int 0 = V.int 0) rfl ?_
                     walk_at "rd"
                     exact k _)
            · by_cases hN : N ≤ 32
              · have hfw : Sv.fewest (List.replicate N (n3, n2)) (3 * n2) = some (max 1 ((N + 3) / 4)) := Sv.fewest_few hm3 (by omega) hN
                rw [hfw]
                walk_at "rd"
                have he : decide (V.int ((max 1 ((N + 3) / 4) : Nat) : Int) = V.int (if ((N : Int) + 3) / 4 > 1 then ((N : Int) + 3) / 4 else 1)) = true := decide_eq_true (congrArg V.int (by split <;> omega))
                show if decide (V.int ((max 1 ((N + 3) / 4) : Nat) : Int) = V.int (if ((N : Int) + 3) / 4 > 1 then ((N : Int) + 3) / 4 else 1)) = true then _ else _
                rw [he, if_pos rfl]
                exact k _
              · have hfw : Sv.fewest (List.replicate N (n3, n2)) (3 * n2) = none := Sv.fewest_many hm3 (by omega) (by omega)
                rw [hfw]
                walk_at "rd"
                refine iteDF (fun e => hz (V.int.inj e)) ?_
                walk_at "rd"
                exact k _
end
end Ll

namespace Hd
open PySem PySem.Spec PyProof.Rows L2 Ll
def dscNw : He.DefD := ⟨("need_work", none), "need_work", "need_work", defArgs sscNw, defBody sscNw, defScope sscNw, [], []⟩
def dscSt : He.DefD := ⟨("starts", none), "starts", "starts", defArgs sscSt, defBody sscSt, defScope sscSt, [], []⟩
def dscSv : He.DefD := ⟨("served", none), "served", "served", defArgs sscSv, defBody sscSv, defScope sscSv, [], []⟩
def dscFw : He.DefD := ⟨("fewest", none), "fewest", "fewest", defArgs sscFw, defBody sscFw, defScope sscFw, [], []⟩
def dscDi : He.DefD := ⟨("_law_dice", none), "_law_dice", "_law_dice", defArgs sscDi, defBody sscDi, defScope sscDi, [], []⟩
def dscNx : He.DefD := ⟨("_law_next", none), "_law_next", "_law_next", defArgs sscNx, defBody sscNx, defScope sscNx, [], []⟩
def dscLw : He.DefD := ⟨("law", none), "law", "law", defArgs sscLw, defBody sscLw, defScope sscLw, [], []⟩
def fn : List He.DefD := [dscNw, dscSt, dscSv, dscFw, dscDi, dscNx, dscLw]
def fa : List He.Fa := [.glo "need_work", .glo "starts", .glo "served", .glo "fewest", .glo "_law_dice", .glo "_law_next", .glo "law", .free "len", .free "int", .free "min", .free "max", .free "range", .free "zip", .free "enumerate", .int "LATEST" 9999, .int "MOST_LINES" 8, .int "MOST_HOLD" 99]
abbrev R : PySem.W.OpenRow := PySem.W.OpenLaw.row PySem.Challenge.rw_lentlines_k38_whole_holds_of_nothing
def loose0 : List Str := ["__name__", "LentError", "BadCount", "BadWork", "MOST_LINES", "LATEST", "MOST_HOLD", "need_work", "starts", "served", "fewest", "_law_dice", "_law_next"]
def loose : List Str := loose0
abbrev hk : PySem.W.Hook := He.hookD 4 fa fn
def ob (s : PySem.W.SharedT) : He.AlD := He.obsDG 4 fa fn (HandSHeadRun.getT s)
theorem ob_eq (s : PySem.W.SharedT) : ob s = hk.obs s.abs := He.obsDG_eq (HandSHeadRun.getT_eq s)
theorem run (w : World) : HandSHeadRun.RunEq R (PySem.W.view R.prog [15]) hk ob 1200 loose w := by
  intro os
  kernel_rfl

theorem glV_int {K : PySem.W.Frag} {h : Heap} {mg : Str → Option Value} (X : K.In h) (G : h.Ns mainGlobals mg) {x : Str} {i : Int} (c : (He.Fa.int x i).ok K = true) : GlV mg x (.int i) := by
  obtain ⟨t, e⟩ := He.int_ok X G c
  exact ⟨_, e, t, rfl⟩
theorem facts {P : Program} {w : World} {K : PySem.W.Frag} {h : Heap} {mg : Str → Option Value} {f : Addr} (X : K.In h) (G : h.Ns mainGlobals mg) (hfa : mg ("law" : Str) = some (.ref f)) (c : He.SaysD fa fn K) :
    ∃ fd : FuncData, (∀ (s : Shared) (v : Value), BindsTo s fd ⟨[v], []⟩ [("_law_script", v)]) ∧ ∀ base : Heap, K.In base → base.Ns mainGlobals mg → FnOk P w K mg base CX0 3 f fd ["_law_script"] (spLaw K) := by
  obtain ⟨fd0, F0⟩ := c.def_ 0 (d := dscNw) rfl
  obtain ⟨fd1, F1⟩ := c.def_ 1 (d := dscSt) rfl
  obtain ⟨fd2, F2⟩ := c.def_ 2 (d := dscSv) rfl
  obtain ⟨fd3, F3⟩ := c.def_ 3 (d := dscFw) rfl
  obtain ⟨fd4, F4⟩ := c.def_ 4 (d := dscDi) rfl
  obtain ⟨fd5, F5⟩ := c.def_ 5 (d := dscNx) rfl
  obtain ⟨fd6, F6⟩ := c.def_ 6 (d := dscLw) rfl
  have e := hfa.symm.trans (He.glo_ok X G (c.fact 6 (f := .glo "law") rfl))
  cases e
  have TS : TxSrv K mg := ⟨He.free_ok X G (c.fact 7 (f := .free "len") rfl), He.free_ok X G (c.fact 8 (f := .free "int") rfl), He.free_ok X G (c.fact 9 (f := .free "min") rfl), He.free_ok X G (c.fact 10 (f := .free "max") rfl), He.free_ok X G (c.fact 11 (f := .free "range") rfl), He.free_ok X G (c.fact 12 (f := .free "zip") rfl), He.free_ok X G (c.fact 13 (f := .free "enumerate") rfl),
    glV_int X G (c.fact 14 (f := .int "LATEST" 9999) rfl), glV_int X G (c.fact 15 (f := .int "MOST_LINES" 8) rfl), glV_int X G (c.fact 16 (f := .int "MOST_HOLD" 99) rfl)⟩
  have TD : TxDice K mg := ⟨TS.len, TS.int⟩
  have b := FunD.bindsA (ps := ["_law_script"]) F6 fun _ _ _ _ _ _ us hl => match us, hl with | [_], _ => rfl
  refine ⟨fd6, fun s v => b s [v] rfl, fun base _ _ => ?_⟩
  have G0 : FnG P w K mg base CX0 1 "need_work" ["work"] [] (spNeed K) := ⟨_, fd0, [], ok_need F0 TS, He.glo_ok X G (c.fact 0 (f := .glo "need_work") rfl), F0.kp, FunD.bindsN F0 fun _ _ _ _ _ _ us hl => match us, hl with | [_], _ => rfl, .nil⟩
  have G1 : FnG P w K mg base CX0 1 "starts" ["work", "count"] [] (spStarts K) := ⟨_, fd1, [], ok_starts F1 TS, He.glo_ok X G (c.fact 1 (f := .glo "starts") rfl), F1.kp, FunD.bindsN F1 fun _ _ _ _ _ _ us hl => match us, hl with | [_, _], _ => rfl, .nil⟩
  have G2 : FnG P w K mg base CX0 2 "served" ["work", "count"] [] (spServed K) := ⟨_, fd2, [], ok_served F2 TS G0 G1, He.glo_ok X G (c.fact 2 (f := .glo "served") rfl), F2.kp, FunD.bindsN F2 fun _ _ _ _ _ _ us hl => match us, hl with | [_, _], _ => rfl, .nil⟩
  have G3 : FnG P w K mg base CX0 2 "fewest" ["work", "longest"] [] (spFewest K) := ⟨_, fd3, [], ok_fewest F3 TS G0 G1, He.glo_ok X G (c.fact 3 (f := .glo "fewest") rfl), F3.kp, FunD.bindsN F3 fun _ _ _ _ _ _ us hl => match us, hl with | [_, _], _ => rfl, .nil⟩
  have G4 : FnG P w K mg base CX0 1 "_law_dice" ["_law_script"] [] (spDice K) := ⟨_, fd4, [], ok_dice F4 TD, He.glo_ok X G (c.fact 4 (f := .glo "_law_dice") rfl), F4.kp, FunD.bindsN F4 fun _ _ _ _ _ _ us hl => match us, hl with | [_], _ => rfl, .nil⟩
  have G5 : FnG P w K mg base CX0 1 "_law_next" ["_law_dice_here", "_law_many"] [] (spNext K) := ⟨_, fd5, [], ok_next F5 TD, He.glo_ok X G (c.fact 5 (f := .glo "_law_next") rfl), F5.kp, FunD.bindsN F5 fun _ _ _ _ _ _ us hl => match us, hl with | [_, _], _ => rfl, .nil⟩
  exact ok_law F6 TS G4 G5 G2 G3

end Hd
open PySem PySem.W PySem.Calls PyProof.Rows
set_option maxRecDepth 100000 in
set_option maxHeartbeats 0 in
theorem PySem.Challenge.cw_lentlines_k38_whole_holds_of_nothing_holds : PySem.Challenge.rw_lentlines_k38_whole_holds_of_nothing.Holds := by
  w_on; o_law
  refine HandSHeadRun.head_any (r := OpenLaw.row PySem.Challenge.rw_lentlines_k38_whole_holds_of_nothing) (q := view (OpenLaw.row PySem.Challenge.rw_lentlines_k38_whole_holds_of_nothing).prog [15]) (H := Hd.hk) (ob := Hd.ob) (M := 1200) (loose := Hd.loose) (d := HandSHeadRun.topDef (OpenLaw.row PySem.Challenge.rw_lentlines_k38_whole_holds_of_nothing).prog 15) (kwd := []) Hd.ob_eq
    (by kernel_rfl) (fun s => by kernel_rfl) Hd.run (by kernel_rfl) (by kernel_rfl) (by kernel_rfl) (by rfl) (by first | assumption | decide +kernel) (by decide +kernel) ⟨rfl, rfl, rfl, rfl, rfl, by decide +kernel⟩ ?hw ?hc
  case hw => w_witness2
  case hc =>
    refine L2.walk_ofE (l := PySem.Challenge.rw_lentlines_k38_whole_holds_of_nothing) (n := 63) (k := 3) (x := "_law_script") (CX := L2.CX0) rfl (by decide) (by kernel_rfl) ⟨rfl, by decide, by decide⟩ ?F (fun _ _ _ _ z => z)
    intro w mg fa h Y G hmg0
    obtain ⟨K, KX, c⟩ := Y
    have hmg : mg ("law" : PySem.Str) = some (.ref fa) := by
      have e : (HandSHeadRun.topDef (OpenLaw.row PySem.Challenge.rw_lentlines_k38_whole_holds_of_nothing).prog 15).name = ("law" : PySem.Str) := by kernel_rfl
      rw [← e]
      exact hmg0
    obtain ⟨fd, hb, hF⟩ := Hd.facts (P := (PySem.Challenge.rw_lentlines_k38_whole_holds_of_nothing).prog) (w := w) KX G hmg c
    exact ⟨K, fd, Ll.spLaw K, KX, hb, fun H a ns hl hO hS => ⟨a, ns, rfl, Ll.FixL.of hO hS, hl, fun _ => rfl⟩, hF⟩
#print axioms PySem.Challenge.cw_lentlines_k38_whole_holds_of_nothing_holds
