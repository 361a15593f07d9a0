import PyProof.Rows.All
import Wide.All
import OpenK.AllK
import Wide.FinOn
import KE.KStateDown
import HandS.Base
import HandS.Call
import HandS.List
import HandS.Comp
import HandS.Ends
import HandS.Dict
import HandS.Iter
import HandS.Text
import HandS.Words
import HandS.WordsList
import HandS.WordsDict
import HandS.WordsExc
import HandS.Exc
import HandS.ExcOwn
import HandS.Defaults
import HandS.Zip
import HandS.Flow
import HandS.Style
import HandS.More
import HandS.Head0
import HandS.Head1
import HandS.Head2
import HandS.Walk
import HandS.HeadEnd
import HandS.HeadHook1
import HandS.HeadHook2
import HandS.TryMany
import HandS.SortKw
import KE.DataFind
import HandS.TryOnly
import HandS.MakeKwOnly
import HandS.SortInts
import HandS.SortRule
import HandS.SetKeys
import HandS.Conv
import HandS.Finally
import HandS.TupSets
import HandS.DictTup
import HandS.ExcInit
import KE.KExcIs
import HandS.DictComp
import HandS.HeadHook4
import HandS.IsInst
import HandS.Lambda
import HandS.TupAny
import HandS.ExcIs
import HandS.ExcField
import HandS.HeadWalk
import HandS.EndTab
import HandS.Small
import HandS.Deep
import PySem.Challenge.RW_lentlines_k10_served_by_so_many
set_option Elab.async false
set_option linter.all false
set_option maxRecDepth 100000
set_option maxHeartbeats 4000000
namespace Ll
open PySem PySem.Spec PyProof.Rows L2
/-! ### heaps: what stays but for F -/
/-- all but F stays as it was -/
def But (F : Addr → Prop) (H H' : Hp) : Prop := ∀ b o, H b = some o → ¬ F b → H' b = some o
theorem But.refl {F : Addr → Prop} (H : Hp) : But F H H := fun _ _ h _ => h
theorem But.trans {F : Addr → Prop} {H H1 H2 : Hp} (a : But F H H1) (b : But F H1 H2) : But F H H2 := fun c o h n => b c o (a c o h n) n
theorem But.mono {F G : Addr → Prop} {H H' : Hp} (a : But F H H') (h : ∀ b, F b → G b) : But G H H' := fun c o e n => a c o e fun z => n (h c z)
theorem Same.new {H : Hp} {p : Addr} {o : HO} (h : H p = none) : Same H (upd H p o) := fun a u e => by
  rw [upd_ne (ne_of_none e h)]
  exact e
/-- what was free at the beginning may change -/
theorem Same.mut {H H' : Hp} {p : Addr} {o : HO} (e : Same H H') (h : H p = none) : Same H (upd H' p o) := fun a u ha => by
  rw [upd_ne (ne_of_none ha h)]
  exact e a u ha
theorem Same.by {H H1 H2 : Hp} {F : Addr → Prop} (e : Same H H1) (h : But F H1 H2) (n : ∀ b, F b → H b = none) : Same H H2 := fun a u ha =>
  h a u (e a u ha) fun z => by
    rw [n a z] at ha
    cases ha
theorem but1 {H : Hp} {d : Addr} {o : HO} : But (fun b => b = d) H (upd H d o) := fun b u e n => by
  rw [upd_ne n]
  exact e
theorem But.same {H H' : Hp} {F : Addr → Prop} (h : Same H H') : But F H H' := fun b o e _ => h b o e
/-- what is never written -/
def Fx : HO → Prop
  | .tup _ => True
  | .frz _ (.lst _) => True
  | .frz _ (.tup _) => True
  | _ => False
/-- what never changes is kept -/
def Kp (H H' : Hp) : Prop := ∀ b o, H b = some o → Fx o → H' b = some o
/-- all but F stays, and what never changes -/
structure Fr (F : Addr → Prop) (H H' : Hp) : Prop where
  but : But F H H'
  kp : Kp H H'
theorem Fr.refl {F : Addr → Prop} (H : Hp) : Fr F H H := ⟨But.refl H, fun _ _ h _ => h⟩
theorem Fr.trans {F : Addr → Prop} {H H1 H2 : Hp} (a : Fr F H H1) (b : Fr F H1 H2) : Fr F H H2 := ⟨a.but.trans b.but, fun c o h n => b.kp c o (a.kp c o h n) n⟩
theorem Fr.mono {F G : Addr → Prop} {H H' : Hp} (a : Fr F H H') (h : ∀ b, F b → G b) : Fr G H H' := ⟨a.but.mono h, a.kp⟩
theorem Fr.same {F : Addr → Prop} {H H' : Hp} (h : Same H H') : Fr F H H' := ⟨But.same h, fun b o e _ => h b o e⟩
theorem Fr.new {F : Addr → Prop} {H : Hp} {p : Addr} {o : HO} (h : H p = none) : Fr F H (upd H p o) := Fr.same (Same.new h)
theorem Fr.at {F : Addr → Prop} {H : Hp} {d : Addr} {o : HO} (m : ∀ u, H d = some u → ¬ Fx u) (f : F d) : Fr F H (upd H d o) := ⟨fun b u e n => by
  rw [upd_ne fun z => n (by rw [z]; exact f)]
  exact e, fun b u e n => by
  rw [upd_ne fun z => m u (by rw [z] at e; exact e) n]
  exact e⟩
theorem Fr.at1 {H : Hp} {d : Addr} {o : HO} (m : ∀ u, H d = some u → ¬ Fx u) : Fr (fun b => b = d) H (upd H d o) := Fr.at m rfl
/-- what was free at the beginning may change -/
theorem Fr.late {F G : Addr → Prop} {H H1 H2 : Hp} (a : Fr F H H1) (b : Fr G H1 H2) (h : ∀ c, G c → F c ∨ H c = none) : Fr F H H2 := by
  refine ⟨fun c o e n => b.but c o (a.but c o e n) fun g => ?_, fun c o e n => b.kp c o (a.kp c o e n) n⟩
  rcases h c g with z | z
  · exact n z
  · rw [z] at e
    cases e
theorem Fr.toSame {F : Addr → Prop} {H H1 : Hp} (a : Fr F H H1) (h : ∀ b, F b → H b = none) : Same H H1 := fun c o e => a.but c o e fun f => by
  rw [h c f] at e
  cases e
theorem nfx {H : Hp} {d : Addr} {o : HO} (h : H d = some o) (n : ¬ Fx o) : ∀ u, H d = some u → ¬ Fx u := fun u e => by
  rw [h] at e
  cases e
  exact n
theorem mut_lst {H : Hp} {d : Addr} {xs : List V} (h : H d = some (.lst xs)) : ∀ u, H d = some u → ¬ Fx u := nfx h id
/-- a list that never changes -/
def FixL (K : PySem.W.Frag) (H : Hp) (a : Addr) (xs : List V) : Prop := (∃ o, H a = some (.frz o (.lst xs))) ∨
  ∃ (o : Obj) (its : Array Value) (n : Nat), K.lookup a = some o ∧ o.cls = .type "list" ∧ o.dict = none ∧ o.data = .seq its n ∧ its.size ≤ sizeLine ∧ Vals xs its.toList
theorem FixL.sq {K : PySem.W.Frag} {H : Hp} {a : Addr} {xs : List V} (h : FixL K H a xs) : SqL K H a xs := by
  rcases h with h | h
  · exact .inl (.inr h)
  · exact .inr h
theorem FixL.kp {K : PySem.W.Frag} {H H' : Hp} {a : Addr} {xs : List V} (h : FixL K H a xs) (k : Kp H H') : FixL K H' a xs := by
  rcases h with ⟨o, h⟩ | h
  · exact .inl ⟨o, k _ _ h trivial⟩
  · exact .inr h
theorem FixL.of {K : PySem.W.Frag} {H : Hp} {a : Addr} {xs : List V} (hO : Only H) (h : SqL K H a xs) : FixL K H a xs := by
  rcases h with (h | ⟨o, h⟩) | h
  · rcases hO a with z | ⟨o, ys, z⟩
    · rw [h] at z
      cases z
    · rw [h] at z
      cases z
  · exact .inl ⟨o, h⟩
  · exact .inr h
/-! ### data that never changes: scalars, tuples of such -/
mutual
def Imm : PyData → Bool
  | .none => true
  | .bool _ => true
  | .int _ => true
  | .str _ => true
  | .tuple xs => ImmAll xs
  | .list _ => false
  | .dict _ => false
def ImmAll : List PyData → Bool
  | [] => true
  | d :: ds => Imm d && ImmAll ds
end
theorem sqT_kp {K : PySem.W.Frag} {H H' : Hp} {a : Addr} {xs : List V} (h : SqT K H a xs) (k : Kp H H') : SqT K H' a xs := by
  rcases h with (h | ⟨o, h⟩) | h
  · exact .inl (.inl (k _ _ h trivial))
  · exact .inl (.inr ⟨o, k _ _ h trivial⟩)
  · exact .inr h
theorem sqL_but {K : PySem.W.Frag} {F : Addr → Prop} {H H' : Hp} {a : Addr} {xs : List V} (h : SqL K H a xs) (k : But F H H') (n : ¬ F a) : SqL K H' a xs := by
  rcases h with (h | ⟨o, h⟩) | h
  · exact .inl (.inl (k _ _ h n))
  · exact .inl (.inr ⟨o, k _ _ h n⟩)
  · exact .inr h
mutual
theorem dp_kp {K : PySem.W.Frag} {H H' : Hp} (k : Kp H H') : ∀ (d : PyData) (v : V), Imm d = true → Dp K H v d → Dp K H' v d
  | .none, _, _, h => by cases h; exact .non
  | .bool _, _, _, h => by cases h; exact .bl _
  | .int _, _, _, h => by cases h; exact .int _
  | .str _, _, _, h => by cases h; exact .str _
  | .tuple ds, _, i, h => by
    cases h with
    | tup hs ha => exact .tup (sqT_kp hs k) (dp_kpAll k ds _ i ha)
  | .list _, _, i, _ => by cases i
  | .dict _, _, i, _ => by cases i
theorem dp_kpAll {K : PySem.W.Frag} {H H' : Hp} (k : Kp H H') : ∀ (ds : List PyData) (vs : List V), ImmAll ds = true → DpAll K H vs ds → DpAll K H' vs ds
  | [], _, _, h => by cases h; exact .nil
  | d :: ds, _, i, h => by
    have i' : (Imm d && ImmAll ds) = true := i
    have i2 := Bool.and_eq_true_iff.mp i'
    cases h with
    | cons h1 h2 => exact .cons (dp_kp k d _ i2.1 h1) (dp_kpAll k ds _ i2.2 h2)
end
mutual
theorem dp_same {K : PySem.W.Frag} {H H' : Hp} (k : Same H H') : ∀ (d : PyData) (v : V), Dp K H v d → Dp K H' v d
  | .none, _, h => by cases h; exact .non
  | .bool _, _, h => by cases h; exact .bl _
  | .int _, _, h => by cases h; exact .int _
  | .str _, _, h => by cases h; exact .str _
  | .tuple ds, _, h => by
    cases h with
    | tup hs ha => exact .tup (sqT_kp hs fun b o e _ => k b o e) (dp_sameAll k ds _ ha)
  | .list ds, _, h => by
    cases h with
    | lst hs ha => exact .lst (Same.seq k hs) (dp_sameAll k ds _ ha)
  | .dict _, _, h => by cases h
theorem dp_sameAll {K : PySem.W.Frag} {H H' : Hp} (k : Same H H') : ∀ (ds : List PyData) (vs : List V), DpAll K H vs ds → DpAll K H' vs ds
  | [], _, h => by cases h; exact .nil
  | d :: ds, _, h => by
    cases h with
    | cons h1 h2 => exact .cons (dp_same k d _ h1) (dp_sameAll k ds _ h2)
end
theorem dpAll_get {K : PySem.W.Frag} {H : Hp} : ∀ {vs : List V} {ds : List PyData} {i : Nat} {v : V}, DpAll K H vs ds → vs[i]? = some v → ∃ d, ds[i]? = some d ∧ Dp K H v d
  | [], _, _, _, _, e => by simp at e
  | v0 :: vs, _, 0, v, h, e => by
    cases h with
    | cons h1 h2 =>
      have e2 : v0 = v := by simpa using e
      subst e2
      exact ⟨_, rfl, h1⟩
  | v0 :: vs, _, i + 1, v, h, e => by
    cases h with
    | cons h1 h2 =>
      obtain ⟨d, e1, h3⟩ := dpAll_get (i := i) h2 (by simpa using e)
      exact ⟨d, by simpa using e1, h3⟩
theorem dpAll_len {K : PySem.W.Frag} {H : Hp} : ∀ {vs : List V} {ds : List PyData}, DpAll K H vs ds → vs.length = ds.length
  | [], _, h => by cases h; rfl
  | _ :: _, _, h => by
    cases h with
    | cons h1 h2 => rw [List.length_cons, List.length_cons, dpAll_len h2]
theorem dpAll_snoc {K : PySem.W.Frag} {H : Hp} : ∀ {vs : List V} {ds : List PyData} {v : V} {d : PyData}, DpAll K H vs ds → Dp K H v d → DpAll K H (vs ++ [v]) (ds ++ [d])
  | [], _, _, _, h, h1 => by cases h; exact .cons h1 .nil
  | _ :: _, _, _, _, h, h1 => by
    cases h with
    | cons h2 h3 => exact .cons h2 (dpAll_snoc h3 h1)
theorem dpAll_ints {K : PySem.W.Frag} {H : Hp} : ∀ (l : List Int), DpAll K H (l.map V.int) (l.map PyData.int)
  | [] => .nil
  | _ :: l => .cons (.int _) (dpAll_ints l)
/-- a pair of ints as data -/
def prD (p : Int × Int) : PyData := .tuple [.int p.1, .int p.2]
theorem dp_pr {K : PySem.W.Frag} {H : Hp} {v : V} {p : Int × Int} (h : Dp K H v (prD p)) : ∃ t, v = .ref t ∧ SqT K H t [.int p.1, .int p.2] := by
  cases h with
  | tup hs ha =>
    cases ha with
    | cons h1 h2 =>
      cases h1
      cases h2 with
      | cons h3 h4 =>
        cases h3
        cases h4
        exact ⟨_, rfl, hs⟩
theorem imm_prs : ∀ l : List (Int × Int), ImmAll (l.map prD) = true
  | [] => rfl
  | _ :: l => by
    show (true && ImmAll (l.map prD)) = true
    rw [imm_prs l]
    rfl
/-! ### a def of the module, by its promise -/
def FnG (P : Program) (w : World) (K : PySem.W.Frag) (mg : Str → Option Value) (base : Heap) (CX : CXT) (k : Nat) (x : Str) (ps : List Str) (dvs : List V) (sp : Sp) : Prop :=
  ∃ (f : Addr) (fd : FuncData) (ds : List Value), FnOk P w K mg base CX k f fd ps sp ∧ mg x = some (.ref f) ∧ PySem.W.keepIn K (.ref f) = true ∧ Binds K fd ps ds ∧ Vals dvs ds
section
variable {X : Cx} {CX : CXT} {k : Nat} {x : Str} {ps : List Str} {dvs : List V} {sp : Sp} {E : XK} {e : Expr} {es : List Expr} {t : TA} {p pos : Pos}
theorem pe_callG (F : FnG X.prog X.w X.K X.mg X.base CX k x ps dvs sp) (hr : Room k X.A) (hg : Gl X x) (hx : Passes CX X E) (ha : PA X (e :: es) t)
    (hdb : (x == ("__debug__" : Str)) = false := by decide) (he : starEach (e :: es) X.env = (false, eval e X.env) :: starEach es X.env := by rfl) (hpl : (backTo pos (starEach es X.env)).any (·.1) = false := by rfl) :
    PE X (.Call (.Name x p) (e :: es) [] pos) (tCall sp dvs E t) := by
  obtain ⟨f, fd, ds, F, hm, hk, hb, hd⟩ := F
  exact pe_call F hr hg hm hk hb hd hx ha hdb he hpl
theorem pe_call0G (F : FnG X.prog X.w X.K X.mg X.base CX k x ps dvs sp) (hr : Room k X.A) (hg : Gl X x) (hx : Passes CX X E)
    (hdb : (x == ("__debug__" : Str)) = false := by decide) : PE X (.Call (.Name x p) [] [] pos) (tCall sp dvs E tNil) := by
  obtain ⟨f, fd, ds, F, hm, hk, hb, hd⟩ := F
  exact pe_call0 F hr hg hm hk hb hd hx hdb
end
/-- a module's name holds v -/
def GlV (mg : Str → Option Value) (x : Str) (v : V) : Prop := ∃ u, mg x = some u ∧ RelV v u
theorem pe_gV {X : Cx} {x : Str} {v : V} {pos : Pos} (hg : Gl X x) (h : GlV X.mg x v) (hdb : (x == ("__debug__" : Str)) = false := by decide) : PE X (.Name x pos) (tC v) := by
  obtain ⟨u, h1, h2⟩ := h
  exact pe_glob hg h1 h2 hdb
/-! ### lists -/
theorem take_more {α : Type} : ∀ {l : List α} {i : Nat} {x : α}, l[i]? = some x → l.take (i + 1) = l.take i ++ [x]
  | [], i, x, h => by simp at h
  | a :: l, 0, x, h => by
    have e : a = x := Option.some.inj h
    subst e
    rfl
  | a :: l, i + 1, x, h => by
    have ih := take_more (l := l) (i := i) (x := x) h
    show a :: l.take (i + 1) = a :: l.take i ++ [x]
    rw [ih]
    rfl
theorem map_get {α β : Type} {f : α → β} {l : List α} {i : Nat} {y : β} (h : (l.map f)[i]? = some y) : ∃ x, l[i]? = some x ∧ y = f x := by
  rw [List.getElem?_map] at h
  cases e : l[i]? with
  | none =>
    rw [e] at h
    cases h
  | some x =>
    rw [e] at h
    exact ⟨x, rfl, (Option.some.inj h).symm⟩
end Ll
namespace Ll
theorem iteD {p : Prop} [Decidable p] {A B : Prop} (h1 : p → A) (h2 : ¬ p → B) : if decide p = true then A else B := by
  by_cases h : p
  · rw [decide_eq_true h, if_pos rfl]
    exact h1 h
  · rw [decide_eq_false h, if_neg Bool.false_ne_true]
    exact h2 h
theorem iteDT {p : Prop} [Decidable p] {A B : Prop} (h : p) (q : A) : if decide p = true then A else B := by
  rw [decide_eq_true h, if_pos rfl]
  exact q
theorem iteDF {p : Prop} [Decidable p] {A B : Prop} (h : ¬ p) (q : B) : if decide p = true then A else B := by
  rw [decide_eq_false h, if_neg Bool.false_ne_true]
  exact q
theorem iteNT {p : Prop} [Decidable p] {A B : Prop} (h : ¬ p) (q : A) : if (!decide p) = true then A else B := by
  rw [decide_eq_false h]
  exact q
theorem iteNF {p : Prop} [Decidable p] {A B : Prop} (h : p) (q : B) : if (!decide p) = true then A else B := by
  rw [decide_eq_true h]
  exact q
theorem iteN {p : Prop} [Decidable p] {A B : Prop} (h1 : ¬ p → A) (h2 : p → B) : if (!decide p) = true then A else B := by
  by_cases h : p
  · rw [decide_eq_true h]
    exact h2 h
  · rw [decide_eq_false h]
    exact h1 h
end Ll

namespace Ll
open PySem PySem.Spec PyProof.Rows L2
/-! ### a heap in parts -/
/-- a part: what it owns, what it says of that; beside it leans on what never changes alone -/
structure Asr where
  P : (Addr → Prop) → Hp → Prop
  st : ∀ {F : Addr → Prop} {H H' : Hp}, P F H → (∀ b o, H b = some o → F b → H' b = some o) → Kp H H' → P F H'
  al : ∀ {F : Addr → Prop} {H : Hp} {b : Addr}, P F H → F b → H b ≠ none
/-- parts that stand apart, owning U together -/
def SU : List Asr → (Addr → Prop) → Hp → Prop
  | [], U, _ => ∀ b, ¬ U b
  | A :: cs, U, H => ∃ F V : Addr → Prop, A.P F H ∧ SU cs V H ∧ (∀ b, F b → ¬ V b) ∧ ∀ b, U b ↔ (F b ∨ V b)
theorem SU.st : ∀ {cs : List Asr} {U : Addr → Prop} {H H' : Hp}, SU cs U H → (∀ b o, H b = some o → U b → H' b = some o) → Kp H H' → SU cs U H'
  | [], _, _, _, h, _, _ => h
  | A :: cs, _, _, _, ⟨F, V, a, r, d, u⟩, k, kp => ⟨F, V, A.st a (fun b o e f => k b o e ((u b).mpr (.inl f))) kp, SU.st r (fun b o e f => k b o e ((u b).mpr (.inr f))) kp, d, u⟩
theorem SU.al : ∀ {cs : List Asr} {U : Addr → Prop} {H : Hp} {b : Addr}, SU cs U H → U b → H b ≠ none
  | [], _, _, b, h, f => absurd f (h b)
  | A :: cs, _, _, b, ⟨F, V, a, r, d, u⟩, f => ((u b).mp f).elim (fun z => A.al a z) fun z => SU.al r z
/-- parts as one part -/
@[irreducible] def Ex {α : Type} (f : α → List Asr) : Asr where
  P := fun F H => ∃ x, SU (f x) F H
  st := fun ⟨x, h⟩ k kp => ⟨x, SU.st h k kp⟩
  al := fun ⟨_, h⟩ f => SU.al h f
def Sep (cs : List Asr) (H : Hp) : Prop := ∃ U, SU cs U H
theorem SU.app : ∀ {as bs : List Asr} {U V : Addr → Prop} {H : Hp}, SU as U H → SU bs V H → (∀ b, U b → ¬ V b) → SU (as ++ bs) (fun b => U b ∨ V b) H
  | [], bs, U, V, H, h, r, _ => by
    have e : (fun b => U b ∨ V b) = V := funext fun b => propext ⟨fun z => z.elim (fun y => absurd y (h b)) id, .inr⟩
    rw [e]
    exact r
  | A :: as, bs, U, V, H, ⟨F, W, a, q, d, u⟩, r, n => ⟨F, fun b => W b ∨ V b, a, SU.app q r (fun b z => n b ((u b).mpr (.inr z))), fun b f z => z.elim (d b f) (n b ((u b).mpr (.inl f))), fun b => by
      show (U b ∨ V b) ↔ (F b ∨ (W b ∨ V b))
      rw [u b, or_assoc]⟩
theorem SU.spl : ∀ {as bs : List Asr} {U : Addr → Prop} {H : Hp}, SU (as ++ bs) U H → ∃ V W : Addr → Prop, SU as V H ∧ SU bs W H ∧ (∀ b, V b → ¬ W b) ∧ ∀ b, U b ↔ (V b ∨ W b)
  | [], bs, U, H, h => ⟨fun _ => False, U, fun _ z => z, h, fun _ z => z.elim, fun b => ⟨.inr, fun z => z.elim (fun y => y.elim) id⟩⟩
  | A :: as, bs, U, H, ⟨F, W, a, q, d, u⟩ => by
    obtain ⟨V1, W1, h1, h2, h3, h4⟩ := SU.spl q
    exact ⟨fun b => F b ∨ V1 b, W1, ⟨F, V1, a, h1, fun b f z => d b f ((h4 b).mpr (.inl z)), fun _ => Iff.rfl⟩, h2, fun b z y => z.elim (fun f => d b f ((h4 b).mpr (.inr y))) fun v => h3 b v y,
      fun b => by rw [u b, h4 b, or_assoc]⟩
/-- a part is taken out -/
inductive Pick : List Asr → Asr → List Asr → Prop
  | hd {A : Asr} {R : List Asr} : Pick (A :: R) A R
  | tl {A c : Asr} {cs R : List Asr} : Pick cs A R → Pick (c :: cs) A (c :: R)
theorem Pick.su {cs R : List Asr} {A : Asr} (p : Pick cs A R) : ∀ {U : Addr → Prop} {H : Hp}, SU cs U H → SU (A :: R) U H := by
  induction p with
  | hd => intro _ _ h; exact h
  | tl p ih =>
    rintro U H ⟨F, V, a, r, d, u⟩
    obtain ⟨F2, V2, a2, r2, d2, u2⟩ := ih r
    exact ⟨F2, fun b => F b ∨ V2 b, a2, ⟨F, V2, a, r2, fun b f z => d b f ((u2 b).mpr (.inr z)), fun _ => Iff.rfl⟩, fun b f z => z.elim (fun y => d b y ((u2 b).mpr (.inl f))) (d2 b f),
      fun b => by rw [u b, u2 b, or_left_comm]⟩
theorem Pick.back {cs R : List Asr} {A B : Asr} (p : Pick cs A R) : ∃ cs', Pick cs' B R := ⟨B :: R, .hd⟩
theorem Sep.pick {cs R : List Asr} {A : Asr} {H : Hp} (h : Sep cs H) (p : Pick cs A R) : Sep (A :: R) H := h.imp fun _ z => p.su z
theorem Sep.pk2 {cs R1 R2 : List Asr} {A B : Asr} {H : Hp} (h : Sep cs H) (p : Pick cs A R1) (q : Pick R1 B R2) : Sep (A :: B :: R2) H := by
  obtain ⟨U, F, V, a, r, d, u⟩ := h.pick p
  exact ⟨U, F, V, a, q.su r, d, u⟩
/-- parts among parts -/
inductive Subs : List Asr → List Asr → Prop
  | nil {cs : List Asr} : Subs cs []
  | refl {cs : List Asr} : Subs cs cs
  | sel {cs R ds : List Asr} {A : Asr} : Pick cs A R → Subs R ds → Subs cs (A :: ds)
  | skip {cs ds : List Asr} {A : Asr} : Subs cs ds → Subs (A :: cs) ds
theorem Subs.sep {cs ds : List Asr} (p : Subs cs ds) : ∀ {U : Addr → Prop} {H : Hp}, SU cs U H → ∃ V : Addr → Prop, SU ds V H ∧ ∀ b, V b → U b := by
  induction p with
  | nil => intro U H _; exact ⟨fun _ => False, fun _ z => z, fun _ z => z.elim⟩
  | refl => intro U H h; exact ⟨U, h, fun _ z => z⟩
  | sel q _ ih =>
    intro U H h
    obtain ⟨F, V, a, r, d, u⟩ := q.su h
    obtain ⟨W, h1, h2⟩ := ih r
    exact ⟨fun b => F b ∨ W b, ⟨F, W, a, h1, fun b f z => d b f (h2 b z), fun _ => Iff.rfl⟩, fun b z => (u b).mpr (z.imp id (h2 b))⟩
  | skip _ ih =>
    intro U H h
    obtain ⟨F, V, a, r, d, u⟩ := h
    obtain ⟨W, h1, h2⟩ := ih r
    exact ⟨W, h1, fun b z => (u b).mpr (.inr (h2 b z))⟩
theorem Sep.sub {cs ds : List Asr} {H : Hp} (h : Sep cs H) (p : Subs cs ds) : Sep ds H := by
  obtain ⟨U, h⟩ := h
  obtain ⟨V, h1, _⟩ := p.sep h
  exact ⟨V, h1⟩
theorem Sep.tail {A : Asr} {cs : List Asr} {H : Hp} (h : Sep (A :: cs) H) : Sep cs H := by
  obtain ⟨U, F, V, a, r, d, u⟩ := h
  exact ⟨V, r⟩
theorem Sep.op {α : Type} {f : α → List Asr} {cs : List Asr} {H : Hp} (h : Sep (Ex f :: cs) H) : ∃ x, Sep (f x ++ cs) H := by
  unfold Ex at h
  obtain ⟨U, F, V, ⟨x, a⟩, r, d, u⟩ := h
  exact ⟨x, _, SU.app a r d⟩
theorem Sep.cl {α : Type} {f : α → List Asr} (x : α) {cs : List Asr} {H : Hp} (h : Sep (f x ++ cs) H) : Sep (Ex f :: cs) H := by
  unfold Ex
  obtain ⟨U, h⟩ := h
  obtain ⟨V, W, h1, h2, h3, h4⟩ := SU.spl h
  exact ⟨U, V, W, ⟨x, h1⟩, h2, h3, h4⟩
/-- parts stand where what they own stands -/
theorem Sep.fr {cs : List Asr} {F V : Addr → Prop} {H H' : Hp} (r : SU cs V H) (d : ∀ b, F b → ¬ V b) (f : Fr F H H') : SU cs V H' := r.st (fun b o e v => f.but b o e fun z => d b z v) f.kp
theorem Sep.same {cs : List Asr} {H H' : Hp} (h : Sep cs H) (s : Same H H') : Sep cs H' := h.imp fun _ z => z.st (fun b o e _ => s b o e) fun b o e _ => s b o e
/-! ### one object -/
@[irreducible] def obj (a : Addr) (o : HO) : Asr where
  P := fun F H => (∀ b, F b ↔ b = a) ∧ H a = some o
  st := fun ⟨h, e⟩ k _ => ⟨h, k _ _ e ((h _).mpr rfl)⟩
  al := fun {F H b} ⟨h, e⟩ f => by
    obtain rfl := (h b).mp f
    rw [e]
    exact fun z => nomatch z
theorem Sep.get0 {a : Addr} {o : HO} {cs : List Asr} {H : Hp} (h : Sep (obj a o :: cs) H) : H a = some o := by
  unfold obj at h
  obtain ⟨U, F, V, ⟨_, e⟩, _⟩ := h
  exact e
theorem Sep.get {a : Addr} {o : HO} {cs R : List Asr} {H : Hp} (h : Sep cs H) (p : Pick cs (obj a o) R) : H a = some o := (h.pick p).get0
theorem Sep.put0 {a : Addr} {o o' : HO} {cs : List Asr} {H : Hp} (h : Sep (obj a o :: cs) H) (m : ¬ Fx o) : Sep (obj a o' :: cs) (upd H a o') := by
  unfold obj at h ⊢
  obtain ⟨U, F, V, ⟨f, e⟩, r, d, u⟩ := h
  have fr : Fr F H (upd H a o') := Fr.at (fun u z => by rw [e] at z; cases z; exact m) ((f a).mpr rfl)
  exact ⟨U, F, V, ⟨f, upd_same⟩, Sep.fr r d fr, d, u⟩
theorem SU.new {cs : List Asr} {V : Addr → Prop} {H : Hp} {a : Addr} (h : SU cs V H) (n : H a = none) : ¬ V a := fun z => h.al z n
theorem Sep.new {a : Addr} {o : HO} {cs : List Asr} {H : Hp} (h : Sep cs H) (n : H a = none) : Sep (obj a o :: cs) (upd H a o) := by
  unfold obj
  obtain ⟨V, r⟩ := h
  exact ⟨fun b => b = a ∨ V b, fun b => b = a, V, ⟨fun _ => Iff.rfl, upd_same⟩, r.st (fun b o e v => by rw [upd_ne (ne_of_none e n)]; exact e) (Fr.new (F := fun _ => False) n).kp, fun b z v => r.new n (z ▸ v), fun _ => Iff.rfl⟩
/-- one object changed, where it stands among the parts -/
inductive Put : List Asr → Addr → HO → HO → List Asr → Prop
  | hd {a : Addr} {o o' : HO} {R : List Asr} : Put (obj a o :: R) a o o' (obj a o' :: R)
  | tl {a : Addr} {o o' : HO} {c : Asr} {cs cs' : List Asr} : Put cs a o o' cs' → Put (c :: cs) a o o' (c :: cs')
theorem Put.pk {cs cs' : List Asr} {a : Addr} {o o' : HO} (p : Put cs a o o' cs') : ∃ R, Pick cs (obj a o) R ∧ ∀ {U : Addr → Prop} {H : Hp}, SU (obj a o' :: R) U H → SU cs' U H := by
  induction p with
  | hd => exact ⟨_, .hd, fun h => h⟩
  | tl p ih =>
    obtain ⟨R, h1, h2⟩ := ih
    refine ⟨_, .tl h1, ?_⟩
    rintro U H ⟨F, V, a, ⟨F2, V2, a2, r2, d2, u2⟩, d, u⟩
    exact ⟨F2, fun b => F b ∨ V2 b, a2, h2 ⟨F, V2, a, r2, fun b f z => d b f ((u2 b).mpr (.inr z)), fun _ => Iff.rfl⟩, fun b f z => z.elim (fun y => d b y ((u2 b).mpr (.inl f))) (d2 b f), fun b => by rw [u b, u2 b, or_left_comm]⟩
theorem Sep.put {cs cs' : List Asr} {a : Addr} {o o' : HO} {H : Hp} (h : Sep cs H) (p : Put cs a o o' cs') (m : ¬ Fx o) : Sep cs' (upd H a o') := by
  obtain ⟨R, h1, h2⟩ := p.pk
  obtain ⟨U, q⟩ := (h.pick h1).put0 (o' := o') m
  exact ⟨U, h2 q⟩
/-! ### what never changes -/
@[irreducible] def Pr (φ : Hp → Prop) (h : ∀ {H H' : Hp}, Kp H H' → φ H → φ H') : Asr where
  P := fun F H => (∀ b, ¬ F b) ∧ φ H
  st := fun ⟨f, p⟩ _ kp => ⟨f, h kp p⟩
  al := fun {F H b} ⟨f, _⟩ z => absurd z (f b)
theorem Sep.pr0 {φ : Hp → Prop} {h : ∀ {H H' : Hp}, Kp H H' → φ H → φ H'} {cs : List Asr} {H : Hp} (s : Sep (Pr φ h :: cs) H) : φ H := by
  unfold Pr at s
  obtain ⟨U, F, V, ⟨_, e⟩, _⟩ := s
  exact e
theorem Sep.mk {φ : Hp → Prop} {h : ∀ {H H' : Hp}, Kp H H' → φ H → φ H'} {cs : List Asr} {H : Hp} (s : Sep cs H) (p : φ H) : Sep (Pr φ h :: cs) H := by
  unfold Pr
  obtain ⟨V, r⟩ := s
  exact ⟨V, fun _ => False, V, ⟨fun _ z => z, p⟩, r, fun _ z => z.elim, fun b => ⟨.inr, fun z => z.elim (fun y => y.elim) id⟩⟩
/-- a tuple -/
@[irreducible] def tupA (K : PySem.W.Frag) (a : Addr) (xs : List V) : Asr := Pr (fun H => SqT K H a xs) fun k h => sqT_kp h k
theorem Sep.tup {K : PySem.W.Frag} {a : Addr} {xs : List V} {cs R : List Asr} {H : Hp} (s : Sep cs H) (p : Pick cs (tupA K a xs) R) : SqT K H a xs := by
  unfold tupA at p
  exact Sep.pr0 (s.pick p)
theorem Sep.newT {K : PySem.W.Frag} {a : Addr} {xs : List V} {cs : List Asr} {H : Hp} (s : Sep cs H) (n : H a = none) : Sep (tupA K a xs :: cs) (upd H a (.tup xs)) := by
  unfold tupA
  exact Sep.mk (s.same (Same.new n)) (.of upd_same)
/-- data that never changes -/
@[irreducible] def datA (K : PySem.W.Frag) (v : V) (d : PyData) : Asr where
  P := fun F H => (∀ b, ¬ F b) ∧ Imm d = true ∧ Dp K H v d
  st := fun ⟨f, i, p⟩ _ kp => ⟨f, i, dp_kp kp _ _ i p⟩
  al := fun {F H b} ⟨f, _⟩ z => absurd z (f b)
theorem Sep.dat {K : PySem.W.Frag} {v : V} {d : PyData} {cs R : List Asr} {H : Hp} (s : Sep cs H) (p : Pick cs (datA K v d) R) : Imm d = true ∧ Dp K H v d := by
  unfold datA at p
  obtain ⟨U, F, V, ⟨_, e⟩, _⟩ := s.pick p
  exact e
theorem Sep.mkD {K : PySem.W.Frag} {v : V} {d : PyData} {cs : List Asr} {H : Hp} (s : Sep cs H) (i : Imm d = true) (p : Dp K H v d) : Sep (datA K v d :: cs) H := by
  unfold datA
  obtain ⟨V, r⟩ := s
  exact ⟨V, fun _ => False, V, ⟨fun _ z => z, i, p⟩, r, fun _ z => z.elim, fun b => ⟨.inr, fun z => z.elim (fun y => y.elim) id⟩⟩
/-- a list of data -/
@[irreducible] def lstA (K : PySem.W.Frag) (a : Addr) (ds : List PyData) : Asr where
  P := fun F H => (∀ b, F b ↔ b = a) ∧ ImmAll ds = true ∧ ∃ xs, H a = some (.lst xs) ∧ DpAll K H xs ds
  st := fun ⟨h, i, xs, e, d⟩ k kp => ⟨h, i, xs, k _ _ e ((h _).mpr rfl), dp_kpAll kp _ _ i d⟩
  al := fun {F H b} ⟨h, _, xs, e, _⟩ f => by
    obtain rfl := (h b).mp f
    rw [e]
    exact fun z => nomatch z
theorem Sep.lst0 {K : PySem.W.Frag} {a : Addr} {ds : List PyData} {cs : List Asr} {H : Hp} (h : Sep (lstA K a ds :: cs) H) : ImmAll ds = true ∧ ∃ xs, H a = some (.lst xs) ∧ DpAll K H xs ds ∧ Sep (obj a (.lst xs) :: cs) H := by
  unfold lstA at h
  unfold obj
  obtain ⟨U, F, V, ⟨f, i, xs, e, d⟩, r, dj, u⟩ := h
  exact ⟨i, xs, e, d, U, F, V, ⟨f, e⟩, r, dj, u⟩
theorem Sep.lstC {K : PySem.W.Frag} {a : Addr} {ds : List PyData} {cs : List Asr} {H : Hp} {xs : List V} (h : Sep (obj a (.lst xs) :: cs) H) (i : ImmAll ds = true) (d : DpAll K H xs ds) : Sep (lstA K a ds :: cs) H := by
  unfold obj at h
  unfold lstA
  obtain ⟨U, F, V, ⟨f, e⟩, r, dj, u⟩ := h
  exact ⟨U, F, V, ⟨f, i, xs, e, d⟩, r, dj, u⟩
theorem Sep.lst {K : PySem.W.Frag} {a : Addr} {ds : List PyData} {cs R : List Asr} {H : Hp} (h : Sep cs H) (p : Pick cs (lstA K a ds) R) : ImmAll ds = true ∧ ∃ xs, H a = some (.lst xs) ∧ DpAll K H xs ds ∧ Sep (obj a (.lst xs) :: R) H := (h.pick p).lst0
/-- an instance of the class at C -/
@[irreducible] def insA (C a : Addr) (fs : List (Str × V)) : Asr := Ex fun dx : Addr => [obj a (.ins C dx fs)]
end Ll

namespace Ll
open PySem PySem.Spec PyProof.Rows L2
theorem ixN_nat {n j : Nat} (hj : j < n) : ixN n (j : Int) = some j := by
  unfold ixN
  rw [if_pos (by omega), if_pos (by omega)]
  simp
theorem index_ints {l : List Int} {x : Int} (hx : x ∈ l) : (l.map V.int).all flatV = true ∧ (l.map V.int)[l.idxOf x]? = some (.int x) ∧ eqV (.int x) (.int x) = true ∧
    ∀ (m : Nat) (z' : V), m < l.idxOf x → (l.map V.int)[m]? = some z' → eqV z' (.int x) = false := by
  have hlt : l.idxOf x < l.length := List.idxOf_lt_length_of_mem hx
  refine ⟨?_, ?_, ?_, fun m z' hm e => ?_⟩
  · rw [List.all_map]
    exact List.all_eq_true.mpr fun _ _ => rfl
  · rw [List.getElem?_map, List.getElem?_eq_getElem hlt, List.getElem_idxOf]
    rfl
  · show (x == x) = true
    exact beq_self_eq_true x
  · rw [List.getElem?_map] at e
    cases e2 : l[m]? with
    | none =>
      rw [e2] at e
      cases e
    | some y =>
      rw [e2] at e
      have e3 : V.int y = z' := Option.some.inj e
      subst e3
      show (y == x) = false
      obtain ⟨h1, h2⟩ := List.getElem?_eq_some_iff.mp e2
      have h3 := List.not_of_lt_findIdx (p := fun z => z == x) (xs := l) hm
      rw [← h2]
      simpa using h3
theorem pick3 {x0 x1 x2 y : Int} (h0 : 0 ≤ y) (h1 : y < 3) : ∃ z, atI [V.int x0, V.int x1, V.int x2] y = some (.int z) ∧ (z = x0 ∨ z = x1 ∨ z = x2) := by
  rcases (by omega : y = 0 ∨ y = 1 ∨ y = 2) with e | e | e
  · subst e
    exact ⟨x0, rfl, .inl rfl⟩
  · subst e
    exact ⟨x1, rfl, .inr (.inl rfl)⟩
  · subst e
    exact ⟨x2, rfl, .inr (.inr rfl)⟩
theorem pick2 {x0 x1 y : Int} (h0 : 0 ≤ y) (h1 : y < 2) : ∃ z, atI [V.int x0, V.int x1] y = some (.int z) ∧ (z = x0 ∨ z = x1) := by
  rcases (by omega : y = 0 ∨ y = 1) with e | e
  · subst e
    exact ⟨x0, rfl, .inl rfl⟩
  · subst e
    exact ⟨x1, rfl, .inr rfl⟩
/-- a comprehension that changes nothing of what stood: its items by the turn -/
theorem lc_pure {J : It} {n : Nat} {G : Hp → Prop} {Y : Nat → Hp → V → Hp → Prop} (w : Walk J n G Y) {g : TG} {tt : TT} {te : TE} {vs : List Nat} {σ : L2.St} {H1 : Hp} {D : Addr} {Qd : Hp → Prop} (f : Nat → Option V) (nD : H1 D = none) (hn : n ≤ 100000)
    (hG : ∀ H, Same H1 H → G H)
    (hs : ∀ (i : Nat) (x : V) (H H' : Hp) (Qy : V → Hp → Prop) (Qn : Hp → Prop), i < n → Same H1 H → Y i H x H' → (∀ y H4, f i = some y → Same H H4 → Qy y H4) → (∀ H3, f i = none → Same H H3 → Qn H3) →
      g x (wipe σ vs) H' fun σ2 H2 => wipe σ2 vs = wipe σ vs ∧ tt σ2 H2 fun b H3 => if b = true then te σ2 H3 Qy else Qn H3)
    (hd : ∀ H, Same H1 H → H D = some (.lst ((List.range n).filterMap f)) → Qd H) :
    ∃ W : Nat → Nat → Hp → Prop, (∃ m, W 0 m (upd H1 D (.lst []))) ∧ ∀ i m H, W i m H →
      (J.stop i H ∧ Qd H) ∨ (J.go i H ∧ ∃ Nx : Hp → Prop, (∀ H', Nx H' → ∃ m', m' < m ∧ W (i + 1) m' H') ∧ ∀ x H', J.yld i H x H' → g x (wipe σ vs) H' fun σ2 H2 => wipe σ2 vs = wipe σ vs ∧ tt σ2 H2 fun b H3 =>
        if b = true then te σ2 H3 fun y H4 => ∃ acc, H4 D = some (.lst acc) ∧ acc.length < sizeLine ∧ Nx (upd H4 D (.lst (acc ++ [y]))) else Nx H3) := by
  have hr : ∀ i, (List.range (i + 1)).filterMap f = (List.range i).filterMap f ++ (f i).toList := fun i => by
    rw [List.range_succ, List.filterMap_append]
    cases h : f i <;> simp [h]
  have hl : ∀ i, ((List.range i).filterMap f).length ≤ i := fun i => by
    have := List.length_filterMap_le f (List.range i)
    rw [List.length_range] at this
    exact this
  refine lc_it w (fun i H => Same H1 H ∧ H D = some (.lst ((List.range i).filterMap f))) ⟨Same.new nD, upd_same⟩ (fun i H _ p => hG H p.1) (fun i x H H' hi p y => ?_) (fun H p => hd H p.1 p.2)
  refine hs i x H H' _ _ hi p.1 y (fun y H4 e s => ?_) (fun H3 e s => ?_)
  · refine ⟨_, s _ _ p.2, ?_, ?_, ?_⟩
    · have := hl i
      exact Nat.lt_of_le_of_lt (Nat.le_trans this (by omega : i ≤ 100000)) (by decide)
    · intro b o e2
      have ne : b ≠ D := ne_of_none e2 nD
      rw [upd_ne ne]
      exact s b o (p.1 b o e2)
    · rw [upd_same, hr i, e]
      rfl
  · refine ⟨fun b o e2 => s b o (p.1 b o e2), ?_⟩
    rw [hr i, e, s _ _ p.2]
    simp
theorem immAll_append : ∀ {a b : List PyData}, ImmAll a = true → ImmAll b = true → ImmAll (a ++ b) = true
  | [], _, _, h => h
  | d :: a, b, h1, h2 => by
    have h' : (Imm d && ImmAll a) = true := h1
    have q := Bool.and_eq_true_iff.mp h'
    show (Imm d && ImmAll (a ++ b)) = true
    rw [q.1, immAll_append q.2 h2]
    rfl
/-- a comprehension that changes nothing of what stood: its items' data by the turn -/
theorem lc_data {K : PySem.W.Frag} {J : It} {n : Nat} {G : Hp → Prop} {Y : Nat → Hp → V → Hp → Prop} (w : Walk J n G Y) {g : TG} {tt : TT} {te : TE} {vs : List Nat} {σ : L2.St} {H1 : Hp} {D : Addr} {Qd : Hp → Prop} (f : Nat → Option PyData) (nD : H1 D = none) (hn : n ≤ 100000)
    (hi : ∀ i d, f i = some d → Imm d = true) (hG : ∀ H, Same H1 H → G H)
    (hs : ∀ (i : Nat) (x : V) (H H' : Hp) (Qy : V → Hp → Prop) (Qn : Hp → Prop), i < n → Same H1 H → Y i H x H' → (∀ y H4 d, f i = some d → Dp K H4 y d → Same H H4 → Qy y H4) → (∀ H3, f i = none → Same H H3 → Qn H3) →
      g x (wipe σ vs) H' fun σ2 H2 => wipe σ2 vs = wipe σ vs ∧ tt σ2 H2 fun b H3 => if b = true then te σ2 H3 Qy else Qn H3)
    (hd : ∀ H ys, Same H1 H → H D = some (.lst ys) → DpAll K H ys ((List.range n).filterMap f) → Qd H) :
    ∃ W : Nat → Nat → Hp → Prop, (∃ m, W 0 m (upd H1 D (.lst []))) ∧ ∀ i m H, W i m H →
      (J.stop i H ∧ Qd H) ∨ (J.go i H ∧ ∃ Nx : Hp → Prop, (∀ H', Nx H' → ∃ m', m' < m ∧ W (i + 1) m' H') ∧ ∀ x H', J.yld i H x H' → g x (wipe σ vs) H' fun σ2 H2 => wipe σ2 vs = wipe σ vs ∧ tt σ2 H2 fun b H3 =>
        if b = true then te σ2 H3 fun y H4 => ∃ acc, H4 D = some (.lst acc) ∧ acc.length < sizeLine ∧ Nx (upd H4 D (.lst (acc ++ [y]))) else Nx H3) := by
  have hr : ∀ i, (List.range (i + 1)).filterMap f = (List.range i).filterMap f ++ (f i).toList := fun i => by
    rw [List.range_succ, List.filterMap_append]
    cases h : f i <;> simp [h]
  have hl : ∀ i, ((List.range i).filterMap f).length ≤ i := fun i => by
    have := List.length_filterMap_le f (List.range i)
    rw [List.length_range] at this
    exact this
  have him : ∀ i, ImmAll ((List.range i).filterMap f) = true := fun i => by
    induction i with
    | zero => rfl
    | succ i ih =>
      rw [hr i]
      refine immAll_append ih ?_
      cases h : f i with
      | none => rfl
      | some d =>
        show (Imm d && true) = true
        rw [hi i d h]
        rfl
  refine lc_it w (fun i H => Same H1 H ∧ ∃ ys, H D = some (.lst ys) ∧ DpAll K H ys ((List.range i).filterMap f)) ⟨Same.new nD, [], upd_same, .nil⟩ (fun i H _ p => hG H p.1) (fun i x H H' hi p y => ?_) (fun H p => by
    obtain ⟨p1, ys, p2, p3⟩ := p
    exact hd H ys p1 p2 p3)
  obtain ⟨p1, ys, p2, p3⟩ := p
  refine hs i x H H' _ _ hi p1 y (fun y H4 d e hy s => ?_) (fun H3 e s => ?_)
  · refine ⟨_, s _ _ p2, ?_, ?_, _, upd_same, ?_⟩
    · have := hl i
      rw [dpAll_len p3]
      exact Nat.lt_of_le_of_lt (Nat.le_trans this (by omega : i ≤ 100000)) (by decide)
    · intro b o e2
      have ne : b ≠ D := ne_of_none e2 nD
      rw [upd_ne ne]
      exact s b o (p1 b o e2)
    · have f1 : Fr (fun b => b = D) H4 (upd H4 D (.lst (ys ++ [y]))) := Fr.at1 (mut_lst (s _ _ p2))
      have q := him (i + 1)
      rw [hr i, e] at q ⊢
      exact dp_kpAll f1.kp _ _ q (dpAll_snoc (dp_sameAll s _ _ p3) hy)
  · refine ⟨fun b o e2 => s b o (p1 b o e2), ys, s _ _ p2, ?_⟩
    rw [hr i, e]
    show DpAll K H3 ys ((List.range i).filterMap f ++ [])
    rw [List.append_nil]
    exact dp_sameAll s _ _ p3
theorem filterMap_get {α β : Type} (l : List α) (h : α → β) : (List.range l.length).filterMap (fun i => (l[i]?).map h) = l.map h := by
  have key : ∀ (n : Nat), n ≤ l.length → (List.range n).filterMap (fun i => (l[i]?).map h) = (l.take n).map h := fun n => by
    induction n with
    | zero => intro _; simp
    | succ n ih =>
      intro hn
      have hlt : n < l.length := by omega
      rw [List.range_succ, List.filterMap_append, ih (by omega), List.take_succ_eq_append_getElem hlt, List.map_append]
      simp [List.getElem?_eq_getElem hlt]
  have := key l.length (Nat.le_refl _)
  rw [List.take_length] at this
  exact this
theorem filterMap_bind {α β : Type} (l : List α) (h : α → Option β) : (List.range l.length).filterMap (fun i => (l[i]?).bind h) = l.filterMap h := by
  have key : ∀ (n : Nat), n ≤ l.length → (List.range n).filterMap (fun i => (l[i]?).bind h) = (l.take n).filterMap h := fun n => by
    induction n with
    | zero => intro _; simp
    | succ n ih =>
      intro hn
      have hlt : n < l.length := by omega
      rw [List.range_succ, List.filterMap_append, ih (by omega), List.take_succ_eq_append_getElem hlt, List.filterMap_append]
      congr 1
      simp only [List.filterMap_cons, List.filterMap_nil, List.getElem?_eq_getElem hlt, Option.bind_some]
  have := key l.length (Nat.le_refl _)
  rw [List.take_length] at this
  exact this
theorem sIx_nat {n d i : Nat} (h : i ≤ n) : HT.sIx n d (some (i : Int)) = i := by
  show (if (i : Int) < 0 then ((i : Int) + (n : Int)).toNat else min (i : Int).toNat n) = i
  rw [if_neg (by omega)]
  omega
theorem cut_take {xs : List V} {k : Int} {i : Nat} (e : k = (i : Int)) (h : i ≤ xs.length) : cutV xs none (some k) = xs.take i := by
  subst e
  show (xs.drop 0).take (HT.sIx xs.length xs.length (some (i : Int)) - 0) = xs.take i
  rw [sIx_nat h]
  rfl
theorem cut_drop {xs : List V} {k : Int} {i : Nat} (e : k = (i : Int)) (h : i ≤ xs.length) : cutV xs (some k) none = xs.drop i := by
  subst e
  show (xs.drop (HT.sIx xs.length 0 (some (i : Int)))).take (xs.length - HT.sIx xs.length 0 (some (i : Int))) = xs.drop i
  rw [sIx_nat h]
  exact List.take_of_length_le (by rw [List.length_drop]; exact Nat.le_refl _)
theorem dpAll_erase {K : PySem.W.Frag} {H : Hp} : ∀ {xs : List V} {ds : List PyData} (i : Nat), DpAll K H xs ds → DpAll K H (xs.eraseIdx i) (ds.eraseIdx i)
  | [], _, _, h => by cases h; exact .nil
  | _ :: _, _, 0, h => by
    cases h with
    | cons _ h2 => exact h2
  | _ :: _, _, i + 1, h => by
    cases h with
    | cons h1 h2 => exact .cons h1 (dpAll_erase i h2)
theorem inV_ints (x : Int) (l : List Int) : inV (.int x) (l.map V.int) = decide (x ∈ l) := by
  unfold inV
  rw [List.any_map]
  induction l with
  | nil => rfl
  | cons a l ih =>
    rw [List.any_cons, ih]
    show ((a == x) || decide (x ∈ l)) = decide (x ∈ a :: l)
    by_cases h : a = x
    · subst h
      simp
    · have h2 : ¬ x = a := fun z => h z.symm
      simp [h, h2]
theorem flat_ints (l : List Int) : (l.map V.int).all flatV = true := by
  rw [List.all_map]
  exact List.all_eq_true.mpr fun _ _ => rfl
/-- how many a comprehension keeps -/
theorem count_keep {α : Type} {P : α → Bool} (g : Nat → V) (l : List α) : ((List.range l.length).filterMap fun j => (l[j]?).bind fun q => if P q then some (g j) else none).length = l.countP P := by
  have key : ∀ (n : Nat), n ≤ l.length → ((List.range n).filterMap fun j => (l[j]?).bind fun q => if P q then some (g j) else none).length = (l.take n).countP P := fun n => by
    induction n with
    | zero => intro _; simp
    | succ n ih =>
      intro hn
      have hlt : n < l.length := by omega
      rw [List.range_succ, List.filterMap_append, List.length_append, ih (by omega), List.take_succ_eq_append_getElem hlt, List.countP_append]
      congr 1
      simp only [List.filterMap_cons, List.filterMap_nil, List.getElem?_eq_getElem hlt, Option.bind_some]
      by_cases h : P l[n] = true
      · simp [h]
      · simp [h]
  have := key l.length (Nat.le_refl _)
  rw [List.take_length] at this
  exact this
theorem dpAll_app {K : PySem.W.Frag} {H : Hp} : ∀ {xs ys : List V} {ds es : List PyData}, DpAll K H xs ds → DpAll K H ys es → DpAll K H (xs ++ ys) (ds ++ es)
  | [], _, _, _, h, h1 => by cases h; exact h1
  | _ :: _, _, _, _, h, h1 => by
    cases h with
    | cons h2 h3 => exact .cons h2 (dpAll_app h3 h1)
end Ll

namespace L2
open PySem PySem.Spec PyProof.Rows
/-! ### rules of this proof's own: an attribute as a target, four targets, methods by keywords, list.remove of data -/
section
variable {X : Cx} {o e : Expr} {to te : TE} {pos apos : Pos}
def gFld (K : PySem.W.Frag) (to : TE) (f : Str) : TG := fun v σ H Q => to σ H fun x H1 => ∃ a C dx fs, x = .ref a ∧ H1 a = some (.ins C dx fs) ∧ Cls K C ∧ NoAttr K C f ∧ fs.length < 1000 ∧ Q σ (upd H1 a (.ins C dx (putF f v fs)))
theorem pg_fld {f : Str} (ho : PE X o to)
    (ha : ∀ v, assign (.Attribute o f pos) X.env v = (do
      let ov ← holding [v] (eval o X.env)
      standAt pos.atName
      holding [v, ov] (setAttr ov f v)
      release [v, ov] []) := by intro _; rfl) : PG X (.Attribute o f pos) (gFld X.K to f) := by
  refine ⟨fun pins s σ H v u Q I r h => ?_⟩
  rw [ha]
  refine wpAny_bind (wpAny_holding (thn (ho.run pins s σ H _ I h) fun ov s1 ⟨x, H1, I1, rx, a, C, dx, fs, ex, ea, c, n, l, q⟩ => ?_))
  subst ex
  obtain rfl : ov = Value.ref a := rx
  refine wpAny_bind (wpAny_standAt (wpAny_bind (wpAny_holding (setattr_ok I1 ea c n l r fun s2 I2 => ?_))))
  exact wpAny_release ⟨σ, _, I2, q⟩
/-- t1 = t2 = t3 = t4 = e -/
def tAsg4 (te : TE) (g1 g2 g3 g4 : TG) : TS := fun D σ H => te σ H fun x H1 => g1 x σ H1 fun σ1 H2 => g2 x σ1 H2 fun σ2 H3 => g3 x σ2 H3 fun σ3 H4 => g4 x σ3 H4 D.nx
theorem ps_asg4 {t1 t2 t3 t4 : Expr} {g1 g2 g3 g4 : TG} (he : PE X e te) (h1 : PG X t1 g1) (h2 : PG X t2 g2) (h3 : PG X t3 g3) (h4 : PG X t4 g4)
    (ha : (assignEach [t1, t2, t3, t4] X.env).map (·.2) = [assign t1 X.env, assign t2 X.env, assign t3 X.env, assign t4 X.env] := by rfl) (hw : swappedStores [t1, t2, t3, t4] e X.env = pure none := by rfl) :
    PS X (.Assign [t1, t2, t3, t4] e pos) (tAsg4 te g1 g2 g3 g4) := by
  refine ⟨fun pins s σ H D I h => ?_⟩
  refine wpAny_Assign_stores (thn (he.run pins s σ H _ I h) fun v s1 ⟨x, H1, I1, r1, q1⟩ => ?_) rfl hw
  rw [ha]
  refine wpAny_bind (wpAny_holding (thn (h1.run pins s1 σ H1 x v _ I1 r1 q1) fun _ s2 ⟨σ2, H2, I2, q2⟩ => ?_))
  refine wpAny_bind (wpAny_holding (thn (h2.run pins s2 σ2 H2 x v _ I2 r1 q2) fun _ s3 ⟨σ3, H3, I3, q3⟩ => ?_))
  refine wpAny_bind (wpAny_holding (thn (h3.run pins s3 σ3 H3 x v _ I3 r1 q3) fun _ s4 ⟨σ4, H4, I4, q4⟩ => ?_))
  exact thn (h4.run pins s4 σ4 H4 x v _ I4 r1 q4) fun _ s5 q => q
end
/-- o.m(e, .., k = v, ..) of an instance of the class at C -/
def tMethN (C : Addr) (m : Str) (n j : Nat) (sp : Sp) (gV : List V → List V → List V) (E : XK) (ta : TE) (t tk : TA) : TE := fun σ H Q => ta σ H fun x H1 => ∃ a dx fs, x = .ref a ∧ H1 a = some (.ins C dx fs) ∧ fs.lookup m = none ∧
  t σ H1 fun vs H2 => tk σ H2 fun zs H3 => (x :: vs).length = n ∧ zs.length = j ∧ sp (gV (x :: vs) zs) H3 Q E
section
variable {X : Cx} {CX : CXT} {k n : Nat} {f C : Addr} {fd : FuncData} {ps ks : List Str} {sp : Sp} {E : XK} {m : Str} {pos apos : Pos} {e o : Expr} {es : List Expr} {kws : List Keyword} {ta : TE} {t tk : TA} {g : List Value → List Value → List Value} {gV : List V → List V → List V}
theorem pe_methN {pl : Sem Bool} (he : PE X o ta) (c : Cls X.K C) (hm : Meth X.K C m f) (F : FnOk X.prog X.w X.K X.mg X.base CX k f fd ps sp) (hr : Room k X.A) (hb : KBn X.K fd ps n ks g gV) (hx : Passes CX X E) (ha : PA X (e :: es) t) (hkw : PK X kws tk)
    (hall : (backToKw pos (keywordEach kws X.env)).all (·.1.isSome) = true := by rfl) (hks : (backToKw pos (keywordEach kws X.env)).filterMap (·.1) = ks := by rfl)
    (hst : starEach (e :: es) X.env = (false, eval e X.env) :: starEach es X.env := by rfl) (hpl : ((backTo pos (starEach (e :: es) X.env)).any (·.1) || (backToKw pos (keywordEach kws X.env)).any (·.1.isNone)) = false := by rfl)
    (ht : eval (.Call (.Attribute o m apos) (e :: es) kws pos) X.env = (do
      let ov ← eval o X.env
      standAt apos.atName
      let (f, first) ← holding [ov] (getMethod ov m pl)
      callWith pos f first (backTo pos (starEach (e :: es) X.env)) (backToKw pos (keywordEach kws X.env))) := by rfl) :
    PE X (.Call (.Attribute o m apos) (e :: es) kws pos) (tMethN C m n ks.length sp gV E ta t tk) := by
  refine ⟨fun pins s σ H Q I h => ?_⟩
  refine PySem.W.methodCall_KW (pl := pl) (thn (he.run pins s σ H _ I h) fun u s1 ⟨x, H1, I1, rx, a, dx, fs, ex, ea, l, q⟩ => ?_) ht
  subst ex
  obtain rfl : u = Value.ref a := rx
  refine getmeth_ok I1 ea c hm l ?_
  refine PySem.W.callWith_KW (first := [.ref a]) (h₀ := X.base) I.ok.mod.kin hm.kp hall (thn (ha.run pos pins s1 σ H1 _ I1 q) fun us s2 ⟨vs, H2, I2, r, q2⟩ => ?_) hpl hst
  refine thn (hkw.run pos pins s2 σ H2 _ I2 q2) fun ws s3 ⟨zs, H3, I3, rz, l1, l2, q3⟩ => ⟨I3.kIn, ?_⟩
  rw [hks]
  exact run_fnN (us := .ref a :: us) (vs := .ref a :: vs) F hr hb hx I3 (.cons rfl r) rz l1 l2 q3
theorem pe_methN0 {pl : Sem Bool} (he : PE X o ta) (c : Cls X.K C) (hm : Meth X.K C m f) (F : FnOk X.prog X.w X.K X.mg X.base CX k f fd ps sp) (hr : Room k X.A) (hb : KBn X.K fd ps n ks g gV) (hx : Passes CX X E) (hkw : PK X kws tk)
    (hall : (backToKw pos (keywordEach kws X.env)).all (·.1.isSome) = true := by rfl) (hks : (backToKw pos (keywordEach kws X.env)).filterMap (·.1) = ks := by rfl)
    (hpl : ((backTo pos (starEach [] X.env)).any (·.1) || (backToKw pos (keywordEach kws X.env)).any (·.1.isNone)) = false := by rfl)
    (ht : eval (.Call (.Attribute o m apos) [] kws pos) X.env = (do
      let ov ← eval o X.env
      standAt apos.atName
      let (f, first) ← holding [ov] (getMethod ov m pl)
      callWith pos f first (backTo pos (starEach [] X.env)) (backToKw pos (keywordEach kws X.env))) := by rfl) :
    PE X (.Call (.Attribute o m apos) [] kws pos) (tMethN C m n ks.length sp gV E ta tNil tk) := by
  refine ⟨fun pins s σ H Q I h => ?_⟩
  refine PySem.W.methodCall_KW (pl := pl) (thn (he.run pins s σ H _ I h) fun u s1 ⟨x, H1, I1, rx, a, dx, fs, ex, ea, l, q⟩ => ?_) ht
  subst ex
  obtain rfl : u = Value.ref a := rx
  refine getmeth_ok I1 ea c hm l ?_
  refine PySem.W.callWith_KW0 (first := [.ref a]) (h₀ := X.base) I.ok.mod.kin hm.kp hall ?_ hpl
  refine thn (hkw.run pos pins s1 σ H1 _ I1 q) fun ws s3 ⟨zs, H3, I3, rz, l1, l2, q3⟩ => ⟨I3.kIn, ?_⟩
  rw [hks]
  exact run_fnN (us := [.ref a]) (vs := [.ref a]) F hr hb hx I3 (.cons rfl .nil) rz l1 l2 q3
end
/-- list.remove of data -/
def rRemD (K : PySem.W.Frag) : V → List V → Hp → VK → Prop := fun x xs H Q => ∃ (l : Addr) (ys : List V) (ds : List PyData) (y : V) (d : PyData) (j : Nat), x = .ref l ∧ xs = [y] ∧ H l = some (.lst ys) ∧ DpAll K H ys ds ∧ Dp K H y d ∧
  PyData.plainAll ds = true ∧ d.plain = true ∧ d.depth < 60 ∧ SeqAt.dataPlace ds d = some j ∧ Q .non (upd H l (.lst (ys.eraseIdx j)))
theorem mt_removeD {X : Cx} (hu : X.A.units + 64 < cLine) : MtM X "list.remove" (rRemD X.K) := by
  intro pins s σ H x xs v us Q I rx rxs h
  obtain ⟨l, ys, ds, y, d, j, rfl, rfl, hH, hD, hd, p1, p2, p3, hj, q⟩ := h
  cases rx
  obtain ⟨u, rfl, ru⟩ := rxs.one
  obtain ⟨z, its, n, r, hl, e⟩ := I.lstM hH
  obtain ⟨as, r1⟩ := Dp.readsAll I ds ys its hD r
  obtain ⟨bs, r2⟩ := Dp.reads I d y u hd ru
  have hsz : its.toArray.size ≤ sizeLine := by rw [List.size_toArray, ← hl]; exact z
  refine SeqAt.remove_list_data (vs := its.toArray) ⟨_, e, rfl, n, rfl⟩ r1 r2 p1 p2 (by omega) hj hsz ?_
  refine ⟨.non, _, I.lset (its' := its.eraseIdx j) (t' := s.toks) hH e ?_ (r.eraseIdx j) ?_, rfl, q⟩
  · show its.toArray.eraseIdxIfInBounds j = (its.eraseIdx j).toArray
    rw [List.eraseIdxIfInBounds_toArray]
  · have := List.length_eraseIdx_le ys j
    omega
end L2

namespace L2
open PySem PySem.Spec PyProof.Rows
/-! ### min(ints, default=None) -/
/-- the lowest of ints, none of none -/
def lowO : List Int → Option Int
  | [] => none
  | a :: l => some (l.foldl min a)
theorem lowO_snoc (l : List Int) (x : Int) : lowO (l ++ [x]) = some (match lowO l with | none => x | some m => if x < m then x else m) := by
  cases l with
  | nil => rfl
  | cons a l =>
    show some ((l ++ [x]).foldl min a) = some (if x < l.foldl min a then x else l.foldl min a)
    rw [List.foldl_append]
    show some (min (l.foldl min a) x) = _
    congr 1
    by_cases h : x < l.foldl min a
    · rw [if_pos h, Int.min_eq_right (by omega)]
    · rw [if_neg h, Int.min_eq_left (by omega)]
theorem lowO_none {l : List Int} : lowO l = none ↔ l = [] := by
  cases l with
  | nil => exact ⟨fun _ => rfl, fun _ => rfl⟩
  | cons a l => exact ⟨(fun h => by exact absurd h (by simp [lowO])), (fun h => by exact absurd h (by simp))⟩
def oIv : Option Int → Value → Prop
  | none, v => v = .none
  | some i, v => ∃ t, v = .int i t
def bestOf : Option Int → Array Value → Prop
  | none, a => a = #[]
  | some m, a => ∃ t, a = #[.int m t, .int m t]
theorem minD_loop {prog : Program} {w : World} {A : Around} {R : Result → Shared → Prop} {I l : Addr} {its : List Value} {ns : List Int} (hh : A.in1.handled = none) (hne : l ≠ I) (hi : IntsAre its ns) (S : Addr) (hSf : S ∉ [I, l]) :
    ∀ (k j : Nat) (s : Shared) (a : Array Value) (c : Nat), ns.length - j = k → j ≤ ns.length → s.heap.IsListIter I l j ∧ s.heap.IsList l its.toArray → bestOf (lowO (ns.take j)) a →
    s.heap.get? S = some { cls := .type "list", dict := none, data := .seq a c, slots := #[] } →
    (∀ v h' tk, oIv (lowO ns) v → (∀ b o, b ∉ [I] → b ≠ S → s.heap.get? b = some o → h'.get? b = some o) → R (.ok (.ret v)) { s with heap := h', toks := tk }) →
    codeAny (model prog w) A (.builtin "min.loop" ⟨[.ref I, .none, .ref S], [(Str.ofString "default", .none)]⟩) R s := by
  have W := Walks.list (prog := prog) (w := w) (A := A.in1) hh I l hne its.toArray
  have hSw : S ∉ [I] := fun h => hSf (W.sub _ h)
  have hname : (toString "min" ++ toString ".loop" : String) = "min.loop" := by decide
  have hlen : its.length = ns.length := hi.length
  have hsz : its.toArray.size = ns.length := by rw [List.size_toArray, hlen]
  intro k
  induction k with
  | zero =>
    intro j s a c hk hj hst hb hS hR
    have hin : j = ns.length := by omega
    subst hin
    rw [List.take_length] at hb
    refine codeAny_builtin F.entry_min_loop ?_
    rw [Around.under_plainId F.plain_min_loop _]
    show wpAny _ A.in1 (seqItems? (.ref S) >>= _) _ _ s
    refine wpAny_bind (wpAny_seqItems hS rfl ?_)
    show wpAny _ A.in1 (tryCatch (pyNext (.ref I)) _ >>= _) _ _ s
    refine wpAny_bind (wpAny_tryCatch (W.done s _ _ (hsz.symm ▸ hst) fun h' tk hk' => ?_))
    have hS' := hk' S _ hSw hS
    cases hl : lowO ns with
    | none =>
      rw [hl] at hb
      cases (show a = #[] from hb)
      show wpAny (model prog w) A.in1 (rule _ >>= fun _ => ret .none) _ _ _
      refine wpAny_bind (wpAny_rule (wpAny_pure ?_))
      exact hR .none _ tk (by rw [hl]; rfl) fun b o hbw hbS e => hk' b o hbw e
    | some m =>
      rw [hl] at hb
      obtain ⟨t, rfl⟩ := (show ∃ t, a = #[.int m t, .int m t] from hb)
      show wpAny _ A.in1 (updateSeq S (fun _ => #[]) >>= _) _ _ _
      refine wpAny_bind ?_
      refine wpAny_updateSeq hS' rfl (wpAny_bind (wpAny_letGo (wpAny_pure ?_)))
      exact hR (.int m t) _ tk (by rw [hl]; exact ⟨t, rfl⟩) fun b o hbw hbS e => (Heap.get?_update_other _ _ (Ne.symm hbS)).trans (hk' b o hbw e)
  | succ k ih =>
    intro j s a c hk hj hst hb hS hR
    have hlt : j < ns.length := by omega
    have hx : ns[j]? = some ns[j] := List.getElem?_eq_getElem hlt
    obtain ⟨tx, hjt⟩ := hi.get j ns[j] hx
    have htk : ns.take (j + 1) = ns.take j ++ [ns[j]] := Ll.take_more hx
    refine codeAny_builtin F.entry_min_loop ?_
    rw [Around.under_plainId F.plain_min_loop _]
    show wpAny _ A.in1 (seqItems? (.ref S) >>= _) _ _ s
    refine wpAny_bind (wpAny_seqItems hS rfl ?_)
    show wpAny _ A.in1 (tryCatch (pyNext (.ref I)) _ >>= _) _ _ s
    refine wpAny_bind (wpAny_tryCatch (W.item j s _ _ (by rw [hsz]; exact hlt) hst fun v h' tk hP hst' hk' => ?_))
    have hv : v = .int ns[j] tx := by
      have e1 : its.toArray[j]? = some v := hP
      rw [List.getElem?_toArray, hjt] at e1
      exact (Option.some.inj e1).symm
    subst hv
    have hS' := hk' S _ hSw hS
    have nxt : ∀ (a' : Array Value) (c' : Nat) (h2 : Heap), bestOf (lowO (ns.take (j + 1))) a' → (∀ b ∈ [I, l], ∀ o, h'.get? b = some o → h2.get? b = some o) → h2.get? S = some { cls := .type "list", dict := none, data := .seq a' c', slots := #[] } →
        (∀ b o, b ≠ S → h'.get? b = some o → h2.get? b = some o) → ∀ tk2,
        codeAny (model prog w) A (.builtin "min.loop" ⟨[.ref I, .none, .ref S], [(Str.ofString "default", .none)]⟩) R { s with heap := h2, toks := tk2 } := fun a' c' h2 b1 b2 b3 b4 tk2 => by
      refine ih (j + 1) _ a' c' (by omega) (by omega) (W.frame _ _ _ hst' b2) b1 b3 fun v' h'' tk'' o1 o2 => ?_
      exact hR v' h'' tk'' o1 fun b o hbw hbS e => o2 b o hbw hbS (b4 b o hbS (hk' b o hbw e))
    have oth : ∀ {u : Obj → Obj}, ∀ b ∈ [I, l], ∀ o, h'.get? b = some o → (h'.update S u).get? b = some o := fun b hbf o e => (Heap.get?_update_other _ _ (fun h : S = b => hSf (by rw [h]; exact hbf))).trans e
    cases hl : lowO (ns.take j) with
    | none =>
      rw [hl] at hb
      cases (show a = #[] from hb)
      show wpAny _ A.in1 (updateSeq S (fun _ => #[.int ns[j] tx, .int ns[j] tx]) >>= _) _ _ _
      refine wpAny_bind ?_
      refine wpAny_updateSeq hS' rfl ?_
      rw [hname]
      refine wpAny_pure ⟨plainId_quiet F.plain_min_loop _, nxt _ _ _ ?_ oth (Heap.get?_update_self _ hS' rfl) (fun b o hbS e => (Heap.get?_update_other _ _ (Ne.symm hbS)).trans e) _⟩
      rw [htk, lowO_snoc, hl]
      exact ⟨tx, rfl⟩
    | some m =>
      rw [hl] at hb
      obtain ⟨t, rfl⟩ := (show ∃ t, a = #[.int m t, .int m t] from hb)
      show wpAny _ A.in1 (tryCatch (holding [.int ns[j] tx, .int ns[j] tx] (richCompare .Lt (.int ns[j] tx) (.int m t) >>= _)) _ >>= _) _ _ _
      refine wpAny_bind (wpAny_tryCatch (wpAny_holding (wpAny_bind (richCompare_gives (op := .Lt) (typeIs_int _ _ tx) (typeIs_int _ _ t) F.slot_int_lt F.entry_int_lt (F.args_int_lt_2 _ _) (gives_int_lt _ _ tx t) (fun x => nomatch x) ?_))))
      refine wpAny_bind (wpAny_holding (wpAny_truthy_bool ?_))
      refine wpAny_bind (wpAny_letGo (wpAny_pure ?_))
      by_cases hc : ns[j] < m
      · rw [decide_eq_true hc]
        simp only [if_true]
        refine wpAny_bind ?_
        refine wpAny_updateSeq hS' rfl (wpAny_bind (wpAny_letGo ?_))
        rw [hname]
        refine wpAny_pure ⟨plainId_quiet F.plain_min_loop _, nxt _ _ _ ?_ oth (Heap.get?_update_self _ hS' rfl) (fun b o hbS e => (Heap.get?_update_other _ _ (Ne.symm hbS)).trans e) _⟩
        rw [htk, lowO_snoc, hl]
        simp only [if_pos hc]
        exact ⟨tx, rfl⟩
      · rw [decide_eq_false hc]
        simp only [Bool.false_eq_true, if_false]
        refine wpAny_bind (wpAny_letGo ?_)
        rw [hname]
        refine wpAny_pure ⟨plainId_quiet F.plain_min_loop _, nxt _ _ _ ?_ (fun b _ o e => e) hS' (fun b o _ e => e) _⟩
        rw [htk, lowO_snoc, hl]
        simp only [if_neg hc]
        exact ⟨t, rfl⟩
def oV : Option Int → V
  | none => .non
  | some i => .int i
def rMinD (K : PySem.W.Frag) : List V → List V → Hp → VK → Prop := fun xs zs H Q => ∃ (a : Addr) (ns : List Int), xs = [.ref a] ∧ zs = [.non] ∧ SqL K H a (ns.map V.int) ∧ Q (oV (lowO ns)) H
theorem args_minD (a v : Value) : argsOk "min" ⟨[a], [(Str.ofString "default", v)]⟩ := by unfold argsOk; kernel_rfl
theorem call_kw_tree {prog : Program} {w : World} {A : Around} {E : Value → Shared → Prop} {s : Shared} {id : String} {b : Builtin} {args : List Value} {kw : List (Str × Value)} {Q : Value → Shared → Prop} (hk : builtinKind id = none) (hp : plainId id = true)
    (hb : entryFor table id = some b) (ha : argsOk id ⟨args, kw⟩)
    (hc : wpAny (model prog w) A.in1 (b ⟨args, kw⟩) (fun fin s' => match fin with
      | .done f => (match (Except.ok f : Result) with | .ok (.ret v) => Q v s' | .ok _ => False | .error e => E e s')
      | .again c' => c'.quiet = true ∧ codeAny (model prog w) A c' (fun r s' => match r with | .ok (.ret v) => Q v s' | .ok _ => False | .error e => E e s') s') E s) :
    wpAny (model prog w) A (call (.builtin id) args kw) Q E s := by
  refine wpAny_call (codeAny_call_builtin hp hb ?_)
  simp only [checkBuiltinCall, hk]
  cases hsig : Manifest.signature? id with
  | none => exact wpAny_pure hc
  | some sig =>
    simp only [argsOk, hsig] at ha
    have h2 : Bind.checkArgs id sig ⟨args, kw⟩ = pure () := ha
    show wpAny _ A.in1 (Bind.checkArgs id sig ⟨args, kw⟩) _ _ s
    rw [h2]
    exact wpAny_pure hc
theorem cr_minD {X : Cx} (hc : X.calm = true) : CallRK X (.builtin "min") [Str.ofString "default"] (rMinD X.K) := by
  intro pins s σ H xs zs us ws Q I r rz h
  obtain ⟨a, ns, rfl, rfl, hs, q⟩ := h
  obtain rfl := Vals.ref1 r
  obtain ⟨w1, rfl, e1⟩ := vals1 rz
  obtain rfl : w1 = Value.none := e1
  obtain ⟨its, rv, hl, _⟩ := I.list hs
  have hname : (toString "min" ++ toString ".loop" : String) = "min.loop" := by decide
  refine call_kw_tree F.kind_min F.plain_min F.entry_min (args_minD _ _) ?_
  show wpAny _ X.A.in1 (Builtin.Builtins.bindParams "min" ["key", "default"] 0 ⟨[], [(Str.ofString "default", .none)]⟩ >>= _) _ _ s
  refine wpAny_bind (wpAny_of_eq (show Builtin.Builtins.bindParams "min" ["key", "default"] 0 ⟨[], [(Str.ofString "default", .none)]⟩ = pure [none, some .none] from rfl) ?_)
  refine wpAny_bind (wpAny_pure ?_)
  refine wpAny_bind (iter_any hl.isList fun s₂ e2 st hne => ?_)
  subst e2
  refine wpAny_bind (wpAny_newObj_type ?_)
  rw [hname]
  have hlt : a < s.heap.objs.size := by
    obtain ⟨_, e, _⟩ := hl.isList
    exact Heap.lt_size e
  refine wpAny_pure ⟨plainId_quiet F.plain_min_loop _, minD_loop (I.ok.hd hc) hne rv.ints _ ?_ ns.length 0 _ #[] _ (by omega) (by omega) ?_ rfl (Heap.get?_push_size _ rfl) fun v h' tk ho hk => ?_⟩
  · rw [Heap.size_push]
    intro hm
    rcases List.mem_cons.mp hm with e | hm
    · exact Nat.succ_ne_self _ e
    · rcases List.mem_cons.mp hm with e | hm
      · rw [← e] at hlt
        exact Nat.lt_irrefl _ (Nat.lt_of_succ_lt hlt)
      · cases hm
  · exact ⟨st.1.at fun o e => Heap.get?_push_of_some _ e, st.2.at fun o e => Heap.get?_push_of_some _ e⟩
  · refine ⟨oV (lowO ns), H, I.kept fun b o e => hk b o ?_ ?_ (Heap.get?_push_of_some _ (Heap.get?_push_of_some _ e)), ?_, q⟩
    · intro hm
      rcases List.mem_cons.mp hm with e1 | hm
      · exact absurd (e1 ▸ Heap.lt_size e) (Nat.lt_irrefl _)
      · cases hm
    · intro e1
      have h9 := Heap.lt_size e
      rw [Heap.size_push] at e1
      rw [e1] at h9
      exact Nat.lt_irrefl _ (Nat.lt_of_succ_lt h9)
    · cases hl : lowO ns with
      | none =>
        rw [hl] at ho
        exact ho
      | some i =>
        rw [hl] at ho
        exact ho
end L2

namespace L2
open PySem PySem.Spec PyProof.Rows
/-! ### try: a block / finally: a suite -/
def tTryFin (tb : WX → TS) (tf tfs : TS) (Wout : WX) : TS := fun D σ H => tb (wFin tfs Wout) { nx := fun σ1 H1 => tf D σ1 H1, rt := fun _ _ => False, bk := fun _ _ => False, ct := fun _ _ => False } σ H
section
variable {X : Cx} {body : List Stmt} {f₀ : Stmt} {fs : List Stmt} {pos : Pos} {tb : WX → TS} {tf tfs : TS} {Wout : WX}
theorem ps_tryFin (hs : X.stack = X.env :: X.outer) (hf : X.env.frame = some X.env.locals) (hex : X.ex = []) (tk : Takes X Wout)
    (hb : ∀ (W : WX) (pn : List (Addr × Obj)) (xe : Value → Shared → Prop), Takes (X.tr pn xe) W → PSs (X.tr pn xe) body (tb W))
    (hfin : PSs X.nox (f₀ :: fs) tf) (hsu : ∀ (a : Addr) (pn : List (Addr × Obj)), PSs (X.suite a pn) (f₀ :: fs) tfs) : PS X (.Try body [] [] (f₀ :: fs) pos) (tTryFin tb tf tfs Wout) := by
  refine ⟨fun pins s σ H D I h => ?_⟩
  have ok := I.ok
  refine wpAny_Try_finally ?_
  refine wpAny_mono ((hb (wFin tfs Wout) (X.pn ++ pins) (fun x s₁ => wpAny (model X.prog X.w) X.A (noteFrame x X.env) (fun _ s₂ => FinallyRaised X.prog X.w X.A X.xe X.env (f₀ :: fs) (SP X pins D) x s₂) (FinallyRaised X.prog X.w X.A X.xe X.env (f₀ :: fs) (SP X pins D)) s₁)
    (fun u s' xx => ?_)).run [] s σ H _ (I.toTry _) h) (fun g s1 z => ?_) (fun x s1 hx => hx)
  · exact fin_exc hs hf hex ok tk hsu xx
  · cases g with
    | next =>
      obtain ⟨σ1, H1, I1, q1⟩ := z
      refine wpAny_execs_nil ?_
      refine wpAny_mono (hfin.run pins s1 σ1 H1 D ((I1.ofTry ok).wish _) q1) (fun g s2 q => ?_) fun _ _ z => False.elim z
      have q' : SP X pins D g s2 := q.unwish
      cases g <;> exact q'
    | ret u =>
      obtain ⟨_, _, _, _, _, q⟩ := z
      exact q.elim
    | brk =>
      obtain ⟨_, _, _, q⟩ := z
      exact q.elim
    | cont =>
      obtain ⟨_, _, _, q⟩ := z
      exact q.elim
end
end L2

namespace L2
open PySem PySem.Spec PyProof.Rows
theorem PS.nox {X : Cx} {st : Stmt} {t : TS} (h : PS X.nox st t) : PS X st t := ⟨fun pins s σ H D I hw =>
  wpAny_mono (h.run pins s σ H D (I.wish _) hw) (fun _ _ q => q.unwish) fun _ _ z => False.elim z⟩
end L2
namespace Ll
open PySem PySem.Spec PyProof.Rows L2
/-! ### methods, classes, refusals by what is promised -/
/-- a class: it stands, no attribute of its instances by these names -/
structure ClsF (K : PySem.W.Frag) (C : Addr) (fs : List Str) : Prop where
  c : Cls K C
  n : ∀ f ∈ fs, NoAttr K C f
def MtG (P : Program) (w : World) (K : PySem.W.Frag) (mg : Str → Option Value) (base : Heap) (CX : CXT) (k : Nat) (C : Addr) (m : Str) (ps : List Str) (dvs : List V) (sp : Sp) : Prop :=
  ∃ (f : Addr) (fd : FuncData) (ds : List Value), FnOk P w K mg base CX k f fd ps sp ∧ Cls K C ∧ Meth K C m f ∧ Binds K fd ps ds ∧ Vals dvs ds
def MtK (P : Program) (w : World) (K : PySem.W.Frag) (mg : Str → Option Value) (base : Heap) (CX : CXT) (k : Nat) (C : Addr) (m : Str) (ps : List Str) (n : Nat) (ks : List Str) (gV : List V → List V → List V) (sp : Sp) : Prop :=
  ∃ (f : Addr) (fd : FuncData) (g : List Value → List Value → List Value), FnOk P w K mg base CX k f fd ps sp ∧ Cls K C ∧ Meth K C m f ∧ KBn K fd ps n ks g gV
def FnK (P : Program) (w : World) (K : PySem.W.Frag) (mg : Str → Option Value) (base : Heap) (CX : CXT) (k : Nat) (x : Str) (ps : List Str) (n : Nat) (ks : List Str) (gV : List V → List V → List V) (sp : Sp) : Prop :=
  ∃ (f : Addr) (fd : FuncData) (g : List Value → List Value → List Value), FnOk P w K mg base CX k f fd ps sp ∧ mg x = some (.ref f) ∧ PySem.W.keepIn K (.ref f) = true ∧ KBn K fd ps n ks g gV
def MkG (P : Program) (w : World) (K : PySem.W.Frag) (mg : Str → Option Value) (base : Heap) (CX : CXT) (k : Nat) (x : Str) (C : Addr) (ps : List Str) (dvs : List V) (sp : Sp) : Prop :=
  ∃ (f : Addr) (fd : FuncData) (ds : List Value), Mk K C f ∧ FnOk P w K mg base CX k f fd ps sp ∧ mg x = some (.ref C) ∧ Binds K fd ps ds ∧ Vals dvs ds
def MkK (P : Program) (w : World) (K : PySem.W.Frag) (mg : Str → Option Value) (base : Heap) (CX : CXT) (k : Nat) (x : Str) (C : Addr) (ps ks : List Str) (gV : List V → List V → List V) (sp : Sp) : Prop :=
  ∃ (f : Addr) (fd : FuncData) (g : List Value → List Value → List Value), Mk K C f ∧ FnOk P w K mg base CX k f fd ps sp ∧ mg x = some (.ref C) ∧ KBn K fd ps 1 ks g gV
section
variable {X : Cx} {CX : CXT} {k n : Nat} {C : Addr} {x m : Str} {ps ks : List Str} {dvs : List V} {sp : Sp} {E : XK} {e o : Expr} {es : List Expr} {kws : List Keyword} {ta : TE} {t tk : TA} {p pos apos : Pos} {gV : List V → List V → List V}
theorem pe_methG {pl : Sem Bool} (G : MtG X.prog X.w X.K X.mg X.base CX k C m ps dvs sp) (hr : Room k X.A) (hx : Passes CX X E) (he : PE X o ta) (ha : PA X (e :: es) t)
    (hst : starEach (e :: es) X.env = (false, eval e X.env) :: starEach es X.env := by rfl) (hpl : (backTo pos (starEach es X.env)).any (·.1) = false := by rfl)
    (ht : eval (.Call (.Attribute o m apos) (e :: es) [] pos) X.env = (do
      let ov ← eval o X.env
      standAt apos.atName
      let (f, first) ← holding [ov] (getMethod ov m pl)
      callWith pos f first (backTo pos (starEach (e :: es) X.env)) (backToKw pos (keywordEach [] X.env))) := by rfl) :
    PE X (.Call (.Attribute o m apos) (e :: es) [] pos) (tMeth C m sp dvs E ta t) := by
  obtain ⟨f, fd, ds, F, c, hm, hb, hd⟩ := G
  exact pe_meth (pl := pl) he c hm F hr hb hd hx ha hst hpl ht
theorem pe_meth0G {pl : Sem Bool} (G : MtG X.prog X.w X.K X.mg X.base CX k C m ps dvs sp) (hr : Room k X.A) (hx : Passes CX X E) (he : PE X o ta)
    (ht : eval (.Call (.Attribute o m apos) [] [] pos) X.env = (do
      let ov ← eval o X.env
      standAt apos.atName
      let (f, first) ← holding [ov] (getMethod ov m pl)
      callWith pos f first (backTo pos (starEach [] X.env)) (backToKw pos (keywordEach [] X.env))) := by rfl) :
    PE X (.Call (.Attribute o m apos) [] [] pos) (tMeth C m sp dvs E ta tNil) := by
  obtain ⟨f, fd, ds, F, c, hm, hb, hd⟩ := G
  exact pe_meth0 (pl := pl) he c hm F hr hb hd hx ht
theorem pe_methKG {pl : Sem Bool} (G : MtK X.prog X.w X.K X.mg X.base CX k C m ps n ks gV sp) (hr : Room k X.A) (hx : Passes CX X E) (he : PE X o ta) (ha : PA X (e :: es) t) (hkw : PK X kws tk)
    (hall : (backToKw pos (keywordEach kws X.env)).all (·.1.isSome) = true := by rfl) (hks : (backToKw pos (keywordEach kws X.env)).filterMap (·.1) = ks := by rfl)
    (hst : starEach (e :: es) X.env = (false, eval e X.env) :: starEach es X.env := by rfl) (hpl : ((backTo pos (starEach (e :: es) X.env)).any (·.1) || (backToKw pos (keywordEach kws X.env)).any (·.1.isNone)) = false := by rfl)
    (ht : eval (.Call (.Attribute o m apos) (e :: es) kws pos) X.env = (do
      let ov ← eval o X.env
      standAt apos.atName
      let (f, first) ← holding [ov] (getMethod ov m pl)
      callWith pos f first (backTo pos (starEach (e :: es) X.env)) (backToKw pos (keywordEach kws X.env))) := by rfl) :
    PE X (.Call (.Attribute o m apos) (e :: es) kws pos) (tMethN C m n ks.length sp gV E ta t tk) := by
  obtain ⟨f, fd, g, F, c, hm, hb⟩ := G
  exact pe_methN (pl := pl) he c hm F hr hb hx ha hkw hall hks hst hpl ht
theorem pe_methK0G {pl : Sem Bool} (G : MtK X.prog X.w X.K X.mg X.base CX k C m ps n ks gV sp) (hr : Room k X.A) (hx : Passes CX X E) (he : PE X o ta) (hkw : PK X kws tk)
    (hall : (backToKw pos (keywordEach kws X.env)).all (·.1.isSome) = true := by rfl) (hks : (backToKw pos (keywordEach kws X.env)).filterMap (·.1) = ks := by rfl)
    (hpl : ((backTo pos (starEach [] X.env)).any (·.1) || (backToKw pos (keywordEach kws X.env)).any (·.1.isNone)) = false := by rfl)
    (ht : eval (.Call (.Attribute o m apos) [] kws pos) X.env = (do
      let ov ← eval o X.env
      standAt apos.atName
      let (f, first) ← holding [ov] (getMethod ov m pl)
      callWith pos f first (backTo pos (starEach [] X.env)) (backToKw pos (keywordEach kws X.env))) := by rfl) :
    PE X (.Call (.Attribute o m apos) [] kws pos) (tMethN C m n ks.length sp gV E ta tNil tk) := by
  obtain ⟨f, fd, g, F, c, hm, hb⟩ := G
  exact pe_methN0 (pl := pl) he c hm F hr hb hx hkw hall hks hpl ht
theorem pe_callKG (G : FnK X.prog X.w X.K X.mg X.base CX k x ps n ks gV sp) (hr : Room k X.A) (hg : Gl X x) (hx : Passes CX X E) (ha : PA X (e :: es) t) (hkw : PK X kws tk)
    (hall : (backToKw pos (keywordEach kws X.env)).all (·.1.isSome) = true := by rfl) (hks : (backToKw pos (keywordEach kws X.env)).filterMap (·.1) = ks := by rfl)
    (hdb : (x == ("__debug__" : Str)) = false := by decide) (he : starEach (e :: es) X.env = (false, eval e X.env) :: starEach es X.env := by rfl)
    (hpl : ((backTo pos (starEach (e :: es) X.env)).any (·.1) || (backToKw pos (keywordEach kws X.env)).any (·.1.isNone)) = false := by rfl) :
    PE X (.Call (.Name x p) (e :: es) kws pos) (tCallN n ks.length sp gV E t tk) := by
  obtain ⟨f, fd, g, F, hm, hk, hb⟩ := G
  exact pe_callN F hr hg hm hk hb hx ha hkw hall hks hdb he hpl
theorem pe_makeG (G : MkG X.prog X.w X.K X.mg X.base CX k x C ps dvs sp) (hr : Room (k + 1) X.A) (hg : Gl X x) (hx : Passes CX X E) (ha : PA X (e :: es) t)
    (hdb : (x == ("__debug__" : Str)) = false := by decide) (he : starEach (e :: es) X.env = (false, eval e X.env) :: starEach es X.env := by rfl) (hpl : (backTo pos (starEach es X.env)).any (·.1) = false := by rfl) :
    PE X (.Call (.Name x p) (e :: es) [] pos) (tMake C sp dvs E t) := by
  obtain ⟨f, fd, ds, M, F, hm, hb, hd⟩ := G
  exact pe_make M F hr hg hm hb hd hx ha hdb he hpl
theorem pe_make0G (G : MkG X.prog X.w X.K X.mg X.base CX k x C ps dvs sp) (hr : Room (k + 1) X.A) (hg : Gl X x) (hx : Passes CX X E)
    (hdb : (x == ("__debug__" : Str)) = false := by decide) : PE X (.Call (.Name x p) [] [] pos) (tMake C sp dvs E tNil) := by
  obtain ⟨f, fd, ds, M, F, hm, hb, hd⟩ := G
  exact pe_make0 M F hr hg hm hb hd hx hdb
theorem pe_makeKG (G : MkK X.prog X.w X.K X.mg X.base CX k x C ps ks gV sp) (hr : Room (k + 1) X.A) (hg : Gl X x) (hx : Passes CX X E) (hkw : PK X kws tk)
    (hall : (backToKw pos (keywordEach kws X.env)).all (·.1.isSome) = true := by rfl) (hks : (backToKw pos (keywordEach kws X.env)).filterMap (·.1) = ks := by rfl) (hdb : (x == ("__debug__" : Str)) = false := by decide)
    (hpl : ((backTo pos (starEach [] X.env)).any (·.1) || (backToKw pos (keywordEach kws X.env)).any (·.1.isNone)) = false := by rfl) :
    PE X (.Call (.Name x p) [] kws pos) (tMakeK C 0 ks.length sp gV E tNil tk) := by
  obtain ⟨f, fd, g, M, F, hm, hb⟩ := G
  exact pe_makeK0 M F hr hg hm hb hx hkw hall hks hdb hpl
end
/-- an own exception class over ValueError without own __init__ -/
structure ExG (K : PySem.W.Frag) (mg : Str → Option Value) (x : Str) (C : Addr) : Prop where
  g : mg x = some (.ref C)
  x : PySem.W.excIn K C [.type "ValueError", .type "Exception", .type "BaseException", .type "object"] "ValueError.__new__" = true
  k : PySem.W.keepIn K (.ref C) = true
  b : PySem.W.subIn K (.ref C) (.type "BaseException") = some true
  t : PySem.W.typeIn K (.ref C) = some (.type "type")
section
variable {X : Cx} {W : WX} {C : Addr} {x m : Str} {j : Nat} {p p2 pos pos2 : Pos}
theorem ps_raiseT (tk : Takes X W) (G : ExG X.K X.mg x C) (hg : Gl X x) (hc : X.calm = true := by rfl) (hdb : (x == ("__debug__" : Str)) = false := by decide) :
    PS X (.Raise (some (.Call (.Name x p) [.Constant (.str m) j p2] [] pos)) none pos2) (fun _ σ H => W (.ref C) none σ H) :=
  ps_raise hc tk (pmk_own PySem.F.excBase_ValueError G.x G.g G.k (raises_own G.b G.t) hg hdb)
end
end Ll

namespace Ll
open PySem PySem.Spec PyProof.Rows L2
/-! ### == of data without bools -/
mutual
def noB : PyData → Bool
  | .none => true
  | .bool _ => false
  | .int _ => true
  | .str _ => true
  | .tuple xs => noBAll xs
  | .list xs => noBAll xs
  | .dict _ => false
def noBAll : List PyData → Bool
  | [] => true
  | d :: ds => noB d && noBAll ds
end
theorem noB_cons {d : PyData} {ds : List PyData} (h : noBAll (d :: ds) = true) : noB d = true ∧ noBAll ds = true := Bool.and_eq_true_iff.mp (show (noB d && noBAll ds) = true from h)
mutual
theorem eqv_is : ∀ (d e : PyData), noB d = true → noB e = true → (PyData.eqv d e = true ↔ d = e)
  | .none, e, _, h => by
    cases e <;> first | exact ⟨fun _ => rfl, fun _ => by simp [PyData.eqv]⟩ | exact ⟨fun z => by simp [PyData.eqv] at z, fun z => by cases z⟩
  | .bool _, _, h, _ => by cases h
  | .int i, e, _, h => by
    cases e with
    | int j => exact ⟨fun z => by simp [PyData.eqv] at z; rw [z], fun z => by cases z; simp [PyData.eqv]⟩
    | bool b => cases h
    | _ => exact ⟨fun z => by simp [PyData.eqv] at z, fun z => by cases z⟩
  | .str x, e, _, h => by
    cases e with
    | str j => exact ⟨fun z => by simp [PyData.eqv] at z; rw [z], fun z => by cases z; simp [PyData.eqv]⟩
    | bool b => cases h
    | _ => exact ⟨fun z => by simp [PyData.eqv] at z, fun z => by cases z⟩
  | .list ds, e, h1, h => by
    cases e with
    | list es =>
      have q := eqvAll_is ds es h1 h
      exact ⟨fun z => by rw [PyData.eqv] at z; rw [q.mp z], fun z => by cases z; rw [PyData.eqv]; exact q.mpr rfl⟩
    | bool b => cases h
    | _ => exact ⟨fun z => by simp [PyData.eqv] at z, fun z => by cases z⟩
  | .tuple ds, e, h1, h => by
    cases e with
    | tuple es =>
      have q := eqvAll_is ds es h1 h
      exact ⟨fun z => by rw [PyData.eqv] at z; rw [q.mp z], fun z => by cases z; rw [PyData.eqv]; exact q.mpr rfl⟩
    | bool b => cases h
    | _ => exact ⟨fun z => by simp [PyData.eqv] at z, fun z => by cases z⟩
  | .dict _, _, h, _ => by cases h
theorem eqvAll_is : ∀ (ds es : List PyData), noBAll ds = true → noBAll es = true → (PyData.eqvAll ds es = true ↔ ds = es)
  | [], [], _, _ => ⟨fun _ => rfl, fun _ => by simp [PyData.eqvAll]⟩
  | [], _ :: _, _, _ => ⟨fun z => by simp [PyData.eqvAll] at z, fun z => by cases z⟩
  | _ :: _, [], _, _ => ⟨fun z => by simp [PyData.eqvAll] at z, fun z => by cases z⟩
  | d :: ds, e :: es, h1, h2 => by
    have a := noB_cons h1
    have b := noB_cons h2
    have q1 := eqv_is d e a.1 b.1
    have q2 := eqvAll_is ds es a.2 b.2
    rw [PyData.eqvAll, Bool.and_eq_true_iff, q1, q2]
    exact ⟨fun z => by rw [z.1, z.2], fun z => by cases z; exact ⟨rfl, rfl⟩⟩
end
theorem eqv_t {d e : PyData} (h1 : noB d = true) (h2 : noB e = true) (h : d = e) : PyData.eqv d e = true := (eqv_is d e h1 h2).mpr h
theorem eqv_f {d e : PyData} (h1 : noB d = true) (h2 : noB e = true) (h : d ≠ e) : PyData.eqv d e = false := by
  cases q : PyData.eqv d e with
  | false => rfl
  | true => exact absurd ((eqv_is d e h1 h2).mp q) h
/-! ### what may be compared: depth below k, texts that are texts -/
mutual
def shp : Nat → PyData → Bool
  | _, .none => true
  | _, .bool _ => true
  | _, .int _ => true
  | _, .str x => PyData.strOk x
  | 0, .tuple _ => false
  | k + 1, .tuple xs => shpAll k xs
  | 0, .list _ => false
  | k + 1, .list xs => shpAll k xs
  | _, .dict _ => false
def shpAll : Nat → List PyData → Bool
  | _, [] => true
  | k, d :: ds => shp k d && shpAll k ds
end
mutual
theorem shp_ok : ∀ (d : PyData) (k : Nat), shp k d = true → d.canLay0 = true ∧ d.depth ≤ k
  | .none, _, _ => ⟨by simp [PyData.canLay0], by simp [PyData.depth]⟩
  | .bool _, _, _ => ⟨by simp [PyData.canLay0], by simp [PyData.depth]⟩
  | .int _, _, _ => ⟨by simp [PyData.canLay0], by simp [PyData.depth]⟩
  | .str x, k, h => by
    have h' : PyData.strOk x = true := by
      cases k <;> exact h
    exact ⟨by simpa [PyData.canLay0] using h', by simp [PyData.depth]⟩
  | .tuple ds, 0, h => by cases h
  | .tuple ds, k + 1, h => by
    have q := shpAll_ok ds k h
    exact ⟨by simpa [PyData.canLay0] using q.1, by rw [PyData.depth]; omega⟩
  | .list ds, 0, h => by cases h
  | .list ds, k + 1, h => by
    have q := shpAll_ok ds k h
    exact ⟨by simpa [PyData.canLay0] using q.1, by rw [PyData.depth]; omega⟩
  | .dict _, k, h => by
    cases k <;> cases h
theorem shpAll_ok : ∀ (ds : List PyData) (k : Nat), shpAll k ds = true → PyData.canLayAll0 ds = true ∧ PyData.depthAll ds ≤ k
  | [], _, _ => ⟨by simp [PyData.canLayAll0], by simp [PyData.depthAll]⟩
  | d :: ds, k, h => by
    have h' : (shp k d && shpAll k ds) = true := h
    have a := Bool.and_eq_true_iff.mp h'
    have q1 := shp_ok d k a.1
    have q2 := shpAll_ok ds k a.2
    exact ⟨by rw [PyData.canLayAll0, q1.1, q2.1]; rfl, by rw [PyData.depthAll]; omega⟩
end
theorem shaped_of {d : PyData} (k : Nat) (h : shp k d = true) (hk : k ≤ 64 := by decide) : SeqAt.shaped d = true := by
  have q := shp_ok d k h
  unfold SeqAt.shaped
  rw [q.1, decide_eq_true (by omega)]
  rfl
theorem shpAll_map {α : Type} {f : α → PyData} {k : Nat} (h : ∀ x, shp k (f x) = true) : ∀ l : List α, shpAll k (l.map f) = true
  | [] => rfl
  | x :: l => by
    show (shp k (f x) && shpAll k (l.map f)) = true
    rw [h x, shpAll_map h l]
    rfl
theorem noBAll_map {α : Type} {f : α → PyData} (h : ∀ x, noB (f x) = true) : ∀ l : List α, noBAll (l.map f) = true
  | [] => rfl
  | x :: l => by
    show (noB (f x) && noBAll (l.map f)) = true
    rw [h x, noBAll_map h l]
    rfl
theorem shp_int (k : Nat) (i : Int) : shp k (.int i) = true := by cases k <;> rfl
/-- a list of ints -/
def inD (l : List Int) : PyData := .list (l.map PyData.int)
theorem noB_inD (l : List Int) : noB (inD l) = true := noBAll_map (fun _ => rfl) l
theorem shaped_inD (l : List Int) : SeqAt.shaped (inD l) = true := shaped_of 1 (shpAll_map (fun x => shp_int 0 x) l)
theorem inD_inj {a b : List Int} (h : inD a = inD b) : a = b := by
  have h1 := PyData.list.inj h
  have h2 := congrArg (List.map fun d => match d with | PyData.int i => i | _ => 0) h1
  simpa [List.map_map, Function.comp_def] using h2
theorem dp_ints {K : PySem.W.Frag} {H : Hp} {a : Addr} {l : List Int} (h : SqL K H a (l.map V.int)) : Dp K H (.ref a) (inD l) := .lst h (dpAll_ints l)
theorem eqv_ints (a b : List Int) : PyData.eqv (inD a) (inD b) = decide (a = b) := by
  by_cases h : a = b
  · rw [decide_eq_true h]
    exact eqv_t (noB_inD a) (noB_inD b) (by rw [h])
  · rw [decide_eq_false h]
    exact eqv_f (noB_inD a) (noB_inD b) fun z => h (inD_inj z)
end Ll

namespace Yd
open PySem
/-! ### a yard, as plain functions -/
inductive Kd where | op | fr | le
  deriving DecidableEq
structure Ln where
  kd : Kd
  birth : Option Int
  since : Int
  paper : Option Int
  client : Option Int
  start : Option Int
def Ln.new : Ln := ⟨.op, none, 0, none, none, none⟩
structure Ru where
  least : Int
  most : Int
  span : Int
  idle : Int
  wait : Int
  queue : Int
  pause : Int
inductive Ev where
  | opn (l m : Int) | made (l m : Int) | failed (l m : Int) | free (l m : Int) | lend (l t c m : Int) | back (l t m : Int) | close (l : Int) (why : Str) (m : Int)
  | waits (c m : Int) | late (c m : Int) | left (c m : Int) | sent (c m : Int) | stop (m : Int)
  deriving DecidableEq
structure Y where
  r : Ru
  all : List (Int × Ln)
  free : List Int
  row : List (Int × Int)
  given : Int
  papers : Int
  fails : Int
  clock : Int
  quiet : Option Int
  over : Bool
  book : List Ev
def getL (all : List (Int × Ln)) (n : Int) : Option Ln := (all.find? fun p => decide (p.1 = n)).map (·.2)
def setL (n : Int) (f : Ln → Ln) (all : List (Int × Ln)) : List (Int × Ln) := all.map fun p => if p.1 = n then (p.1, f p.2) else p
def delL (n : Int) (all : List (Int × Ln)) : List (Int × Ln) := all.filter fun p => decide (p.1 ≠ n)
def Y.get (y : Y) (n : Int) : Option Ln := getL y.all n
def Y.note (y : Y) (e : Ev) : Y := { y with book := y.book ++ [e] }
/-- the line that got free last -/
def Y.top (y : Y) : Int := y.free.getLastD 0
def lent (p c m : Int) (l : Ln) : Ln := { l with kd := .le, paper := some p, client := some c, start := some m }
def freed (m : Int) (l : Ln) : Ln := { l with kd := .fr, since := m, paper := none }
def born (m : Int) (l : Ln) : Ln := { l with birth := some m }
def Y.lend (y : Y) (c : Int) : Y :=
  { y with free := y.free.dropLast, all := setL y.top (lent y.papers c y.clock) y.all, papers := y.papers + 1, book := y.book ++ [.lend y.top y.papers c y.clock] }
def Y.close (y : Y) (n : Int) (why : Str) : Y := { y with all := delL n y.all, free := y.free.erase n, book := y.book ++ [.close n why y.clock] }
def Y.layFree (y : Y) (n : Int) : Y := { y with all := setL n (freed y.clock) y.all, free := y.free ++ [n], book := y.book ++ [.free n y.clock] }
def Y.isIdle (y : Y) (n : Int) : Bool := match y.get n with
  | some l => decide (y.clock - l.since ≥ y.r.idle)
  | none => false
def Y.isOld (y : Y) (n : Int) : Bool := match y.get n with
  | some l => decide (y.clock - l.birth.getD 0 ≥ y.r.span)
  | none => false
def Y.many (y : Y) : Int := y.all.length
def Y.opening (y : Y) : Int := (y.all.countP fun p => decide (p.2.kd = .op) : Nat)
def Y.wantsLine (y : Y) : Bool := decide (y.many < y.r.least) || (decide (y.many < y.r.most) && decide (y.opening < y.row.length))
/-- while c: f, so many times at the most -/
def loop (c : Y → Bool) (f : Y → Y) : Nat → Y → Y
  | 0, y => y
  | n + 1, y => if c y then loop c f n (f y) else y
def lendC (y : Y) : Bool := y.row != [] && y.free != []
def lend1 (y : Y) : Y := match y.row with
  | [] => y
  | p :: r => Y.lend { y with row := r } p.1
def idleC (y : Y) : Bool := decide (y.many > y.r.least) && (y.free != [] && y.isIdle (y.free.headD 0))
def idle1 (y : Y) : Y := y.close (y.free.headD 0) "idle"
def openC (y : Y) : Bool := !y.over && (y.quiet == none && y.wantsLine)
def open1 (y : Y) : Y := { y with all := y.all ++ [(y.given, .new)], book := y.book ++ [.opn y.given y.clock], given := y.given + 1 }
def settle1 (y : Y) : Y := loop lendC lend1 y.row.length y
def settle2 (y : Y) : Y := loop idleC idle1 y.free.length y
def settle3 (y : Y) : Y := loop openC open1 (y.r.most.toNat + y.r.least.toNat) y
def Y.settle (y : Y) : Y := settle3 (settle2 (settle1 y))
def Y.lateOnes (y : Y) : List (Int × Int) := y.row.filter fun p => decide (y.clock - p.2 ≥ y.r.wait)
def late1 (y : Y) (p : Int × Int) : Y := { y with row := y.row.erase p, book := y.book ++ [.late p.1 y.clock] }
def old1 (y : Y) (n : Int) : Y := if y.isOld n then y.close n "old" else y
def srt (l : List Int) : List Int := l.mergeSort (fun a b => decide (a ≤ b))
def Y.lates (y : Y) : Y := y.lateOnes.foldl late1 y
def Y.olds (y : Y) : Y := (srt y.free).foldl old1 y
def Y.calms (y : Y) : Y := match y.quiet with
  | some q => if y.clock ≥ q then { y with quiet := none } else y
  | none => y
def Y.happens (y : Y) : Y := y.lates.olds.calms.settle
/-! asks -/
inductive Rf where | badMoment | stopped | waits | full | notWaiting | notOpening | notLent
  deriving DecidableEq
inductive Tl where | non | lent (t l : Int) | waits (n : Int)
  deriving DecidableEq
inductive Ask where
  | want (c : Int) | leave (c : Int) | made (l : Int) | failed (l : Int) | back (t : Int) (sick : Bool) | stop | look
  deriving DecidableEq
def times : List Int := [1, 2, 4, 8, 16, 32, 64]
def Y.waits (y : Y) (c : Int) : Bool := (y.row.map (·.1)).contains c
def Y.want (y : Y) (c : Int) : Except Rf (Y × Tl) :=
  if y.over then .error .stopped
  else if y.waits c then .error .waits
  else if y.free = [] ∧ (y.row.length : Int) ≥ y.r.queue then .error .full
  else if y.free ≠ [] then .ok ((y.lend c).settle, .lent y.papers y.top)
  else .ok (Y.settle { y with row := y.row ++ [(c, y.clock)], book := y.book ++ [.waits c y.clock] }, .waits y.row.length)
def Y.leave (y : Y) (c : Int) : Except Rf Y := match y.row.find? fun p => decide (p.1 = c) with
  | some p => .ok { y with row := y.row.erase p, book := y.book ++ [.left c y.clock] }
  | none => .error .notWaiting
def Y.isOpening (y : Y) (n : Int) : Bool := match y.get n with
  | some l => decide (l.kd = .op)
  | none => false
def Y.made (y : Y) (n : Int) : Except Rf Y := if y.isOpening n then
    .ok (let z : Y := { y with book := y.book ++ [.made n y.clock], fails := 0, quiet := none, all := setL n (born y.clock) y.all }
      if z.over then z.close n "stop" else z.layFree n)
  else .error .notOpening
def pauseOf (fails pause : Int) : Int := times.getD (min fails 7 - 1).toNat 0 * pause
def Y.failed (y : Y) (n : Int) : Except Rf Y := if y.isOpening n then
    .ok { y with book := y.book ++ [.failed n y.clock], all := delL n y.all, fails := y.fails + 1, quiet := some (y.clock + pauseOf (y.fails + 1) y.r.pause) }
  else .error .notOpening
def Y.lentTo (y : Y) (t : Int) : Option (Int × Ln) := y.all.find? fun p => decide (p.2.kd = .le) && decide (p.2.paper = some t)
def Y.back (y : Y) (t : Int) (sick : Bool) : Except Rf Y := match y.lentTo t with
  | some p =>
    .ok (let z := y.note (.back p.1 t y.clock)
      if sick || (y.over || y.isOld p.1) then z.close p.1 (if sick then "sick" else if y.over then "stop" else "old") else z.layFree p.1)
  | none => .error .notLent
def sent1 (y : Y) (p : Int × Int) : Y := y.note (.sent p.1 y.clock)
def stopClose (y : Y) (n : Int) : Y := y.close n "stop"
def Y.stop (y : Y) : Except Rf Y := if y.over then .error .stopped else
  .ok (let z := y.row.foldl sent1 (Y.note { y with over := true } (.stop y.clock))
    let u := { z with row := [] }
    (srt u.free).foldl stopClose u)
def Y.do_ (y : Y) : Ask → Except Rf (Y × Tl)
  | .want c => y.want c
  | .leave c => (y.leave c).map fun z => (z.settle, .non)
  | .made n => (y.made n).map fun z => (z.settle, .non)
  | .failed n => (y.failed n).map fun z => (z.settle, .non)
  | .back t s => (y.back t s).map fun z => (z.settle, .non)
  | .stop => y.stop.map fun z => (z.settle, .non)
  | .look => .ok (y.settle, .non)
def Y.empty (r : Ru) : Y := ⟨r, [], [], [], 0, 0, 0, 0, none, false, []⟩
def Y.new (r : Ru) : Y := (Y.empty r).settle
/-- the next moment at which something is due -/
def minO : List Int → Option Int
  | [] => none
  | a :: l => some (l.foldl min a)
def Y.frees (y : Y) : List Ln := (y.all.filter fun p => decide (p.2.kd = .fr)).map (·.2)
def Y.dues (y : Y) : List Int := y.row.map (fun p => p.2 + y.r.wait) ++ y.frees.map (fun l => l.birth.getD 0 + y.r.span)
  ++ (if y.many > y.r.least then y.frees.map fun l => l.since + y.r.idle else []) ++ y.quiet.toList
def Y.due (y : Y) : Option Int := minO y.dues
/-! a pool -/
structure P where
  y : Y
  last : Int
  asked : Int
/-- what is due by a moment happens; n: fuel -/
def pass (m : Int) : Nat → Y → Y
  | 0, y => y
  | n + 1, y => match y.due with
    | some d => if d ≤ m then pass m n ({ y with clock := d }).happens else y
    | none => y
def P.new (r : Ru) : P := ⟨.new r, 0, 0⟩
/-- how far all may be due: more than the moments there are -/
def fuel : Nat := 20000
def P.ask (p : P) (m : Int) (a : Ask) : Except Rf Tl × P :=
  if p.last ≤ m ∧ m ≤ 9999 then
    let y : Y := { pass m fuel p.y with clock := m }
    match y.do_ a with
    | .ok (z, t) => (.ok t, ⟨z, m, p.asked + 1⟩)
    | .error e => (.error e, ⟨y, m, p.asked + 1⟩)
  else (.error .badMoment, { p with asked := p.asked + 1 })
end Yd

namespace Ll
open PySem PySem.Spec PyProof.Rows L2 Yd
/-! ### a yard in the heap -/
def oI : Option Int → V
  | none => .non
  | some i => .int i
def kdS : Kd → Str
  | .op => "opening"
  | .fr => "free"
  | .le => "lent"
def evD : Ev → PyData
  | .opn l m => .tuple [.str "open", .int l, .int m]
  | .made l m => .tuple [.str "made", .int l, .int m]
  | .failed l m => .tuple [.str "failed", .int l, .int m]
  | .free l m => .tuple [.str "free", .int l, .int m]
  | .lend l t c m => .tuple [.str "lend", .int l, .int t, .int c, .int m]
  | .back l t m => .tuple [.str "back", .int l, .int t, .int m]
  | .close l w m => .tuple [.str "close", .int l, .str w, .int m]
  | .waits c m => .tuple [.str "waits", .int c, .int m]
  | .late c m => .tuple [.str "late", .int c, .int m]
  | .left c m => .tuple [.str "left", .int c, .int m]
  | .sent c m => .tuple [.str "sent", .int c, .int m]
  | .stop m => .tuple [.str "stop", .int m]
theorem imm_ev (e : Ev) : Imm (evD e) = true := by cases e <;> rfl
theorem immAll_map {α : Type} {f : α → PyData} (h : ∀ x, Imm (f x) = true) : ∀ l : List α, ImmAll (l.map f) = true
  | [] => rfl
  | x :: l => by
    show (Imm (f x) && ImmAll (l.map f)) = true
    rw [h x, immAll_map h l]
    rfl
/-- a scalar as data -/
def vD : V → PyData
  | .int i => .int i
  | .str x => .str x
  | .bl b => .bool b
  | _ => .none
def vOk : V → Bool
  | .int _ => true
  | .str _ => true
  | .bl _ => true
  | .non => true
  | _ => false
theorem dp_sc {K : PySem.W.Frag} {H : Hp} : ∀ {v : V}, vOk v = true → Dp K H v (vD v)
  | .non, _ => .non
  | .bl b, _ => .bl b
  | .int i, _ => .int i
  | .str x, _ => .str x
theorem dp_scs {K : PySem.W.Frag} {H : Hp} : ∀ {vs : List V}, vs.all vOk = true → DpAll K H vs (vs.map vD)
  | [], _ => .nil
  | v :: vs, h => by
    have h' : (vOk v && vs.all vOk) = true := h
    have q := Bool.and_eq_true_iff.mp h'
    exact .cons (dp_sc q.1) (dp_scs q.2)
/-- the classes -/
structure Cl where
  yard : Addr
  rules : Addr
  line : Addr
  pool : Addr
  ex : Rf → Addr
  times : Addr
  bounds : Addr
  bnd : Nat → Addr
def rfS : Rf → Str
  | .badMoment => "BadMoment"
  | .stopped => "Stopped"
  | .waits => "Waits"
  | .full => "Full"
  | .notWaiting => "NotWaiting"
  | .notOpening => "NotOpening"
  | .notLent => "NotLent"
def tlD : Tl → PyData
  | .non => .none
  | .lent t l => .tuple [.str "lent", .int t, .int l]
  | .waits n => .tuple [.str "waits", .int n]
/-- where a yard's parts stand -/
structure YAd where
  y : Addr
  dy : Addr
  r : Addr
  dr : Addr
  a : Addr
  f : Addr
  w : Addr
  e : Addr
abbrev Lq := Int × Addr × Ln
def lnF (l : Ln) : List (Str × V) := [("kind", .str (kdS l.kd)), ("birth", oI l.birth), ("since", .int l.since), ("paper", oI l.paper), ("client", oI l.client), ("start", oI l.start)]
def ruF (r : Ru) : List (Str × V) := [("least", .int r.least), ("most", .int r.most), ("span", .int r.span), ("idle", .int r.idle), ("wait", .int r.wait), ("queue", .int r.queue), ("pause", .int r.pause)]
def yaF (A : YAd) (y : Y) : List (Str × V) := [("rules", .ref A.r), ("all", .ref A.a), ("free", .ref A.f), ("row", .ref A.w), ("given", .int y.given), ("papers", .int y.papers), ("fails", .int y.fails), ("clock", .int y.clock),
  ("quiet", oI y.quiet), ("is_over", .bl y.over), ("events", .ref A.e)]
def lnsL (cL : Addr) : List Lq → List Asr := List.map fun q => insA cL q.2.1 (lnF q.2.2)
/-- the lines -/
@[irreducible] def lnsA (cL : Addr) (ls : List Lq) : Asr := Ex fun _ : Unit => lnsL cL ls
def dkL (ls : List Lq) : List (Key × V) := ls.map fun q => (Sum.inl q.1, V.ref q.2.1)
def alL (ls : List Lq) : List (Int × Ln) := ls.map fun q => (q.1, q.2.2)
def YO (K : PySem.W.Frag) (C : Cl) (A : YAd) (ls : List Lq) (y : Y) (R : List Asr) : List Asr :=
  obj A.y (.ins C.yard A.dy (yaF A y)) :: obj A.r (.ins C.rules A.dr (ruF y.r)) :: obj A.a (.dK (dkL ls)) :: obj A.f (.lst (y.free.map V.int)) :: lstA K A.w (y.row.map prD) :: lstA K A.e (y.book.map evD) :: lnsA C.line ls :: R
/-- a yard at p -/
@[irreducible] def yardA (K : PySem.W.Frag) (C : Cl) (p : Addr) (y : Y) : Asr := Ex fun z : { z : YAd × List Lq // z.1.y = p ∧ alL z.2 = y.all } => YO K C z.1.1 z.1.2 y []
theorem Sep.yard {K : PySem.W.Frag} {C : Cl} {p : Addr} {y : Y} {R : List Asr} {H : Hp} (h : Sep (yardA K C p y :: R) H) : ∃ A ls, A.y = p ∧ alL ls = y.all ∧ Sep (YO K C A ls y R) H := by
  unfold yardA at h
  obtain ⟨⟨⟨A, ls⟩, h1, h2⟩, h⟩ := h.op
  exact ⟨A, ls, h1, h2, h⟩
theorem Sep.yardC {K : PySem.W.Frag} {C : Cl} {A : YAd} {ls : List Lq} {y : Y} {R : List Asr} {H : Hp} (h : Sep (YO K C A ls y R) H) (e : alL ls = y.all) : Sep (yardA K C A.y y :: R) H := by
  unfold yardA
  exact Sep.cl (f := fun z : { z : YAd × List Lq // z.1.y = A.y ∧ alL z.2 = y.all } => YO K C z.1.1 z.1.2 y []) ⟨(A, ls), rfl, e⟩ h
theorem Sep.ins {C a : Addr} {fs : List (Str × V)} {R : List Asr} {H : Hp} (h : Sep (insA C a fs :: R) H) : ∃ dx, Sep (obj a (.ins C dx fs) :: R) H := by
  unfold insA at h
  exact h.op
theorem Sep.insC {C a dx : Addr} {fs : List (Str × V)} {R : List Asr} {H : Hp} (h : Sep (obj a (.ins C dx fs) :: R) H) : Sep (insA C a fs :: R) H := by
  unfold insA
  exact Sep.cl dx h
theorem lns_mid {cL : Addr} {l1 l2 : List Lq} {q : Lq} : lnsL cL (l1 ++ q :: l2) = lnsL cL l1 ++ insA cL q.2.1 (lnF q.2.2) :: lnsL cL l2 := by
  unfold lnsL
  rw [List.map_append, List.map_cons]
theorem Pick.mid {A : Asr} : ∀ {as bs : List Asr}, Pick (as ++ A :: bs) A (as ++ bs)
  | [], _ => .hd
  | _ :: as, bs => .tl (Pick.mid (as := as) (bs := bs))
theorem SU.mid {A : Asr} {bs : List Asr} : ∀ {as : List Asr} {U : Addr → Prop} {H : Hp}, SU (A :: (as ++ bs)) U H → SU (as ++ A :: bs) U H
  | [], _, _, h => h
  | B :: as, U, H, h => by
    obtain ⟨F, V, a, ⟨F2, V2, a2, r2, d2, u2⟩, d, u⟩ := h
    exact ⟨F2, fun b => F b ∨ V2 b, a2, SU.mid ⟨F, V2, a, r2, fun b f z => d b f ((u2 b).mpr (.inr z)), fun _ => Iff.rfl⟩, fun b f z => z.elim (fun y => d b y ((u2 b).mpr (.inl f))) (d2 b f), fun b => by rw [u b, u2 b, or_left_comm]⟩
/-- one line of them -/
theorem Sep.line {cL : Addr} {l1 l2 : List Lq} {q : Lq} {R : List Asr} {H : Hp} (h : Sep (lnsA cL (l1 ++ q :: l2) :: R) H) : ∃ dx, Sep (obj q.2.1 (.ins cL dx (lnF q.2.2)) :: lnsA cL (l1 ++ l2) :: R) H := by
  unfold lnsA at h
  obtain ⟨_, h⟩ := h.op
  rw [lns_mid, List.append_assoc] at h
  have h2 := h.pick (A := insA cL q.2.1 (lnF q.2.2)) (R := lnsL cL l1 ++ (lnsL cL l2 ++ R)) Pick.mid
  obtain ⟨dx, h3⟩ := h2.ins
  refine ⟨dx, ?_⟩
  obtain ⟨U, F, V, a, r, d, u⟩ := h3
  have h4 : Sep (lnsA cL (l1 ++ l2) :: R) H → True := fun _ => trivial
  have e : lnsL cL l1 ++ (lnsL cL l2 ++ R) = lnsL cL (l1 ++ l2) ++ R := by
    unfold lnsL
    rw [List.map_append, List.append_assoc]
  rw [e] at r
  obtain ⟨V1, W1, q1, q2, q3, q4⟩ := SU.spl r
  refine ⟨U, F, V, a, ⟨V1, W1, ?_, q2, q3, q4⟩, d, u⟩
  unfold lnsA Ex
  exact ⟨(), q1⟩
theorem Sep.lineC {cL dx : Addr} {l1 l2 : List Lq} {q : Lq} {R : List Asr} {H : Hp} (h : Sep (obj q.2.1 (.ins cL dx (lnF q.2.2)) :: lnsA cL (l1 ++ l2) :: R) H) : Sep (lnsA cL (l1 ++ q :: l2) :: R) H := by
  obtain ⟨U, h⟩ := h.insC
  obtain ⟨F, V, a, ⟨F2, V2, a2, r, d2, u2⟩, d, u⟩ := h
  unfold lnsA Ex at a2
  obtain ⟨_, a2⟩ := a2
  have h5 : SU (lnsL cL (l1 ++ q :: l2)) (fun b => F b ∨ F2 b) H := by
    rw [lns_mid]
    refine SU.mid ⟨F, F2, a, ?_, fun b f z => d b f ((u2 b).mpr (.inl z)), fun _ => Iff.rfl⟩
    unfold lnsL at a2 ⊢
    rw [← List.map_append]
    exact a2
  refine ⟨U, fun b => F b ∨ F2 b, V2, ?_, r, fun b f z => f.elim (fun y => d b y ((u2 b).mpr (.inr z))) fun y => d2 b y z, fun b => by rw [u b, u2 b, or_assoc]⟩
  unfold lnsA Ex
  exact ⟨(), h5⟩
/-- a line is read -/
theorem Sep.lineGet {cL : Addr} {ls : List Lq} {q : Lq} {R cs : List Asr} {H : Hp} (h : Sep cs H) (p : Pick cs (lnsA cL ls) R) (hq : q ∈ ls) : ∃ dx, H q.2.1 = some (.ins cL dx (lnF q.2.2)) := by
  obtain ⟨l1, l2, rfl⟩ := List.append_of_mem hq
  obtain ⟨dx, h2⟩ := (h.pick p).line
  exact ⟨dx, h2.get0⟩
end Ll

namespace Ll
open PySem PySem.Spec PyProof.Rows L2
theorem tnilI {σ : L2.St} {H : Hp} {Q : List V → Hp → Prop} (h : Q [] H) : tNil σ H Q := h
theorem tconsI {te : TE} {t : TA} {σ : L2.St} {H : Hp} {Q : List V → Hp → Prop} (h : te σ H fun x H1 => t σ H1 fun xs H2 => Q (x :: xs) H2) : tCons te t σ H Q := h
theorem tcI {v : V} {σ : L2.St} {H : Hp} {Q : VK} (h : Q v H) : tC v σ H Q := h
theorem iteB {b : Bool} {A B : Prop} (h1 : b = true → A) (h2 : b = false → B) : if b = true then A else B := by
  cases b with
  | true => exact h1 rfl
  | false => exact h2 rfl
/-- a heap by its parts -/
theorem put_eq {cs cs' : List Asr} {a : Addr} {o o' : HO} {H H' : Hp} (e : upd H a o' = H') (h : Sep cs H) (p : Put cs a o o' cs') (n : ¬ Fx o) : Sep cs' H' := e ▸ h.put p n
theorem new_eq {cs : List Asr} {a : Addr} {o : HO} {H H' : Hp} (e : upd H a o = H') (h : Sep cs H) (n : H a = none) : Sep (obj a o :: cs) H' := e ▸ h.new n
theorem newT_eq {K : PySem.W.Frag} {cs : List Asr} {a : Addr} {xs : List V} {H H' : Hp} (e : upd H a (.tup xs) = H') (h : Sep cs H) (n : H a = none) : Sep (tupA K a xs :: cs) H' := e ▸ h.newT n
/-- one part for another, in its place -/
inductive Swp : List Asr → Asr → Asr → List Asr → Prop
  | hd {A B : Asr} {R : List Asr} : Swp (A :: R) A B (B :: R)
  | tl {A B c : Asr} {cs cs' : List Asr} : Swp cs A B cs' → Swp (c :: cs) A B (c :: cs')
theorem Swp.pk {cs cs' : List Asr} {A B : Asr} (p : Swp cs A B cs') : ∃ R, Pick cs A R ∧ ∀ {U : Addr → Prop} {H : Hp}, SU (B :: R) U H → SU cs' U H := by
  induction p with
  | hd => exact ⟨_, .hd, fun h => h⟩
  | tl p ih =>
    obtain ⟨R, h1, h2⟩ := ih
    refine ⟨_, .tl h1, ?_⟩
    rintro U H ⟨F, V, a, ⟨F2, V2, a2, r2, d2, u2⟩, d, u⟩
    exact ⟨F2, fun b => F b ∨ V2 b, a2, h2 ⟨F, V2, a, r2, fun b f z => d b f ((u2 b).mpr (.inr z)), fun _ => Iff.rfl⟩, fun b f z => z.elim (fun y => d b y ((u2 b).mpr (.inl f))) (d2 b f), fun b => by rw [u b, u2 b, or_left_comm]⟩
theorem Sep.swp {cs cs' : List Asr} {A B : Asr} {H H' : Hp} (h : Sep cs H) (p : Swp cs A B cs') (f : ∀ {R : List Asr}, Sep (A :: R) H → Sep (B :: R) H') : Sep cs' H' := by
  obtain ⟨R, h1, h2⟩ := p.pk
  obtain ⟨U, q⟩ := f (h.pick h1)
  exact ⟨U, h2 q⟩
theorem Sep.mkT {K : PySem.W.Frag} {t : Addr} {xs : List V} {cs : List Asr} {H : Hp} (s : Sep cs H) (p : SqT K H t xs) : Sep (tupA K t xs :: cs) H := by
  unfold tupA
  exact Sep.mk s p
theorem Sep.lstEx {K : PySem.W.Frag} {a : Addr} {ds : List PyData} {cs R : List Asr} {H : Hp} (h : Sep cs H) (p : Pick cs (lstA K a ds) R) : ∃ xs, SqL K H a xs := by
  obtain ⟨_, xs, e, _⟩ := h.lst p
  exact ⟨xs, .of e⟩
theorem Sep.lstDp {K : PySem.W.Frag} {a : Addr} {ds : List PyData} {cs R : List Asr} {H : Hp} (h : Sep cs H) (p : Pick cs (lstA K a ds) R) : Dp K H (.ref a) (.list ds) := by
  obtain ⟨_, xs, e, d, _⟩ := h.lst p
  exact .lst (.of e) d
/-- what may be put into a list of data -/
theorem Sep.lstPut {K : PySem.W.Frag} {a : Addr} {ds ds' : List PyData} {cs cs' : List Asr} {H : Hp} {xs' : List V} (h : Sep cs H) (p : Swp cs (lstA K a ds) (lstA K a ds') cs') (i : ImmAll ds' = true) (d : DpAll K H xs' ds') : Sep cs' (upd H a (.lst xs')) :=
  h.swp p fun q => by
    obtain ⟨_, xs, e, _, q⟩ := q.lst0
    exact (q.put0 (o' := .lst xs') id).lstC i (dp_kpAll (Fr.at1 (mut_lst e)).kp _ _ i d)
theorem Sep.lstNew {K : PySem.W.Frag} {a : Addr} {ds : List PyData} {cs : List Asr} {H : Hp} {xs : List V} (h : Sep cs H) (n : H a = none) (i : ImmAll ds = true) (d : DpAll K H xs ds) : Sep (lstA K a ds :: cs) (upd H a (.lst xs)) :=
  (h.new n).lstC i (dp_kpAll (Fr.new (F := fun _ => False) n).kp _ _ i d)
theorem dp_tup {K : PySem.W.Frag} {H : Hp} {t : Addr} {xs : List V} (h : SqT K H t xs) (v : xs.all vOk = true) : Dp K H (.ref t) (.tuple (xs.map vD)) := .tup h (dp_scs v)
theorem imm_vD : ∀ v : V, Imm (vD v) = true
  | .int _ => rfl
  | .str _ => rfl
  | .bl _ => rfl
  | .non => rfl
  | .byt _ => rfl
  | .flt _ => rfl
  | .ref _ => rfl
  | .ty _ => rfl
theorem imm_tup (xs : List V) : Imm (.tuple (xs.map vD)) = true := immAll_map imm_vD xs
theorem immAll_snoc {ds : List PyData} {d : PyData} (h : ImmAll ds = true) (i : Imm d = true) : ImmAll (ds ++ [d]) = true := immAll_append h (by show (Imm d && true) = true; rw [i]; rfl)
theorem goAppD {K : PySem.W.Frag} {e : Addr} {ds : List PyData} {d : PyData} {v : V} {cs cs' : List Asr} {H : Hp} {Q : VK} (h : Sep cs H) (p : Swp cs (lstA K e ds) (lstA K e (ds ++ [d])) cs') (hd : Dp K H v d) (i : Imm d = true) (hl : ds.length < sizeLine)
    (k : ∀ H', Sep cs' H' → Q .non H') : rAppend (.ref e) [v] H Q := by
  obtain ⟨R, p1, _⟩ := p.pk
  obtain ⟨i0, xs, e0, d0, _⟩ := h.lst p1
  refine ⟨e, xs, v, rfl, rfl, e0, by rw [dpAll_len d0]; exact hl, k _ (h.lstPut p (immAll_snoc i0 i) (dpAll_snoc d0 hd))⟩
theorem goAppP {K : PySem.W.Frag} {e t : Addr} {l : List (Int × Int)} {a b : Int} {cs cs' : List Asr} {H : Hp} {Q : VK} (h : Sep cs H) (p : Swp cs (lstA K e (l.map prD)) (lstA K e ((l ++ [(a, b)]).map prD)) cs') (ht : SqT K H t [.int a, .int b]) (hl : l.length < sizeLine)
    (k : ∀ H', Sep cs' H' → Q .non H') : rAppend (.ref e) [.ref t] H Q := by
  rw [List.map_append] at p
  exact goAppD h p (.tup ht (.cons (.int _) (.cons (.int _) .nil))) rfl (by rw [List.length_map]; exact hl) k
theorem Sep.lstR {K : PySem.W.Frag} {a : Addr} {ds : List PyData} {cs R : List Asr} {H : Hp} (h : Sep cs H) (p : Pick cs (lstA K a ds) R) : ∃ xs, H a = some (.lst xs) ∧ DpAll K H xs ds := by
  obtain ⟨_, xs, e, d, _⟩ := h.lst p
  exact ⟨xs, e, d⟩
theorem Sep.aput {cs cs' : List Asr} {a : Addr} {o o' : HO} {H : Hp} (h : Sep cs H) (p : Put cs a o o' cs') (n : ¬ Fx o) : Sep cs' (upd H a o') := h.put p n
end Ll

namespace Ll
open PySem PySem.Spec PyProof.Rows L2 Yd
/-! ### operators and methods over a heap in parts -/
theorem Sep.ofAll {cs : List Asr} {H H' : Hp} (e : H' = H) (h : Sep cs H) : Sep cs H' := e ▸ h
/-- dicts of ints' and texts' keys -/
theorem dgI {H : Hp} {a : Addr} {kvs : List (Key × V)} {i : Int} {o : Option V} (e : H a = some (.dK kvs)) (g : valV kvs (.inl i) = o) : DGet H a (.int i) o := g ▸ DGet.k (k := .inl i) e
theorem dgS {H : Hp} {a : Addr} {kvs : List (Key × V)} {x : Str} {o : Option V} (e : H a = some (.dK kvs)) (g : valV kvs (.inr x) = o) : DGet H a (.str x) o := g ▸ DGet.k (k := .inr x) e
theorem dpI {H : Hp} {a : Addr} {kvs : List (Key × V)} {i : Int} {v : V} (e : H a = some (.dK kvs)) (l : kvs.length < sizeLine) : DPut H a (.int i) v (upd H a (.dK (putK kvs (.inl i) v))) := DPut.k (k := .inl i) e l
theorem dpS {H : Hp} {a : Addr} {kvs : List (Key × V)} {x : Str} {v : V} (e : H a = some (.dK kvs)) (l : kvs.length < sizeLine) : DPut H a (.str x) v (upd H a (.dK (putK kvs (.inr x) v))) := DPut.k (k := .inr x) e l
/-! the lines' dict -/
theorem dk_none {ls : List Lq} {n : Int} (h : n ∉ ls.map (·.1)) : valV (dkL ls) (.inl n) = none := by
  unfold valV dkL
  rw [Option.map_eq_none_iff, List.find?_eq_none]
  intro kv hkv
  obtain ⟨q, hq, rfl⟩ := List.mem_map.mp hkv
  intro hd
  exact h (List.mem_map.mpr ⟨q, hq, Sum.inl.inj (of_decide_eq_true hd)⟩)
theorem find_mid {α : Type} {p : α → Bool} {x : α} : ∀ {l1 l2 : List α}, (∀ y ∈ l1, p y = false) → p x = true → (l1 ++ x :: l2).find? p = some x
  | [], l2, _, h => by
    rw [List.nil_append, List.find?_cons_of_pos h]
  | y :: l1, l2, h1, h => by
    rw [List.cons_append, List.find?_cons_of_neg (by rw [h1 y List.mem_cons_self]; exact Bool.false_ne_true)]
    exact find_mid (fun z hz => h1 z (List.mem_cons_of_mem _ hz)) h
theorem nd_mid {l1 l2 : List Lq} {q : Lq} (nd : ((l1 ++ q :: l2).map (·.1)).Nodup) : (∀ z ∈ l1, z.1 ≠ q.1) ∧ (∀ z ∈ l2, z.1 ≠ q.1) := by
  rw [List.map_append, List.map_cons, List.nodup_append] at nd
  obtain ⟨_, h2, h3⟩ := nd
  refine ⟨fun z hz e => h3 z.1 (List.mem_map.mpr ⟨z, hz, rfl⟩) q.1 List.mem_cons_self e, fun z hz e => ?_⟩
  exact (List.nodup_cons.mp h2).1 (e ▸ List.mem_map.mpr ⟨z, hz, rfl⟩)
theorem dk_get {l1 l2 : List Lq} {n : Int} {x : Addr} {l : Ln} (nd : ((l1 ++ (n, x, l) :: l2).map (·.1)).Nodup) : valV (dkL (l1 ++ (n, x, l) :: l2)) (.inl n) = some (.ref x) := by
  unfold valV dkL
  rw [List.map_append, List.map_cons, find_mid (fun kv hkv => ?_) (by simp)]
  · rfl
  · obtain ⟨z, hz, rfl⟩ := List.mem_map.mp hkv
    exact decide_eq_false fun e => (nd_mid nd).1 z hz (Sum.inl.inj e)
theorem dk_set {l1 l2 : List Lq} {n : Int} {x : Addr} {l l' : Ln} : dkL (l1 ++ (n, x, l) :: l2) = dkL (l1 ++ (n, x, l') :: l2) := by
  unfold dkL
  rw [List.map_append, List.map_append]
  rfl
theorem filter_all {α : Type} {p : α → Bool} : ∀ {l : List α}, (∀ x ∈ l, p x = true) → l.filter p = l := fun h => List.filter_eq_self.mpr h
theorem dk_drop {l1 l2 : List Lq} {n : Int} {x : Addr} {l : Ln} (nd : ((l1 ++ (n, x, l) :: l2).map (·.1)).Nodup) : dropK (dkL (l1 ++ (n, x, l) :: l2)) (.inl n) = dkL (l1 ++ l2) := by
  unfold dropK dkL
  obtain ⟨h1, h2⟩ := nd_mid nd
  rw [List.map_append, List.map_cons, List.filter_append, List.filter_cons_of_neg (by simp), List.map_append]
  rw [filter_all (fun kv hkv => ?_), filter_all (fun kv hkv => ?_)]
  · obtain ⟨z, hz, rfl⟩ := List.mem_map.mp hkv
    exact decide_eq_true fun e => h2 z hz (Sum.inl.inj e)
  · obtain ⟨z, hz, rfl⟩ := List.mem_map.mp hkv
    exact decide_eq_true fun e => h1 z hz (Sum.inl.inj e)
theorem dk_put {ls : List Lq} {n : Int} {x : Addr} {l : Ln} (h : n ∉ ls.map (·.1)) : putK (dkL ls) (.inl n) (.ref x) = dkL (ls ++ [(n, x, l)]) := by
  have h0 : ∀ kv ∈ dkL ls, ¬ kv.1 = (Sum.inl n : Key) := fun kv hkv e => by
    obtain ⟨q, hq, rfl⟩ := List.mem_map.mp hkv
    exact h (List.mem_map.mpr ⟨q, hq, Sum.inl.inj e⟩)
  unfold putK
  rw [if_neg]
  · unfold dkL
    rw [List.map_append]
    rfl
  · intro z
    obtain ⟨kv, h1, h2⟩ := List.any_eq_true.mp z
    exact h0 kv h1 (of_decide_eq_true h2)
theorem dk_len {ls : List Lq} : (dkL ls).length = ls.length := by
  unfold dkL
  rw [List.length_map]
/-! lists of ints -/
abbrev intA (a : Addr) (l : List Int) : Asr := obj a (.lst (l.map V.int))
theorem Sep.put' {cs cs' : List Asr} {a : Addr} {o o' : HO} {H : Hp} (h : Sep cs H) (p : Swp cs (obj a o) (obj a o') cs') (n : ¬ Fx o) : Sep cs' (upd H a o') := h.swp p fun q => q.put0 n
theorem Swp.get {cs cs' : List Asr} {a : Addr} {o : HO} {B : Asr} {H : Hp} (h : Sep cs H) (p : Swp cs (obj a o) B cs') : H a = some o := by
  obtain ⟨R, h1, _⟩ := p.pk
  exact h.get h1
theorem goPopI {f : Addr} {l : List Int} {n : Int} {cs cs' : List Asr} {H : Hp} {Q : VK} (h : Sep cs H) (p : Swp cs (intA f l) (intA f l.dropLast) cs') (hn : l.getLast? = some n) (k : ∀ H', Sep cs' H' → Q (.int n) H') : rPop (.ref f) [] H Q := by
  refine ⟨f, l.map V.int, .int n, rfl, rfl, Swp.get h p, ?_, ?_⟩
  · rw [List.length_map, List.getElem?_map, ← List.getLast?_eq_getElem?, hn]
    rfl
  · rw [← List.map_dropLast]
    exact k _ (h.put' p id)
theorem goAppI {f : Addr} {l : List Int} {n : Int} {cs cs' : List Asr} {H : Hp} {Q : VK} (h : Sep cs H) (p : Swp cs (intA f l) (intA f (l ++ [n])) cs') (hl : l.length < sizeLine) (k : ∀ H', Sep cs' H' → Q .non H') : rAppend (.ref f) [.int n] H Q := by
  refine ⟨f, l.map V.int, .int n, rfl, rfl, Swp.get h p, by rw [List.length_map]; exact hl, ?_⟩
  have := k _ (h.put' p id)
  rw [List.map_append] at this
  exact this
theorem eraseIdx_map' {α β : Type} (f : α → β) : ∀ (l : List α) (i : Nat), (l.map f).eraseIdx i = (l.eraseIdx i).map f
  | [], _ => rfl
  | _ :: _, 0 => rfl
  | a :: l, i + 1 => by
    show f a :: (l.map f).eraseIdx i = f a :: (l.eraseIdx i).map f
    rw [eraseIdx_map' f l i]
theorem goExtI {D E : Addr} {l m : List Int} {cs cs' R : List Asr} {H : Hp} {Q : VK} (h : Sep cs H) (p : Swp cs (intA D l) (intA D (l ++ m)) cs') (q : Pick cs (intA E m) R) (hl : l.length + m.length ≤ sizeLine) (k : ∀ H', Sep cs' H' → Q .non H') : rExtend (.ref D) [.ref E] H Q := by
  refine ⟨D, E, l.map V.int, m.map V.int, rfl, rfl, Swp.get h p, h.get q, by rw [List.length_map, List.length_map]; exact hl, ?_⟩
  have := k _ (h.put' p id)
  rw [List.map_append] at this
  exact this
theorem place_int {l : List Int} {n : Int} (h : n ∈ l) : SeqAt.dataPlace (l.map PyData.int) (.int n) = some (l.idxOf n) := by
  induction l with
  | nil => cases h
  | cons a l ih =>
    unfold SeqAt.dataPlace at ih ⊢
    rw [List.map_cons, List.findIdx?_cons, List.idxOf_cons]
    by_cases e : a = n
    · subst e
      simp [PyData.eqv]
    · have h2 : n ∈ l := by
        rcases List.mem_cons.mp h with q | q
        · exact absurd q.symm e
        · exact q
      rw [ih h2]
      simp [PyData.eqv, e, beq_false_of_ne e]
theorem plain_ints : ∀ l : List Int, PyData.plainAll (l.map PyData.int) = true
  | [] => by simp [PyData.plainAll]
  | _ :: l => by simp [PyData.plainAll, PyData.plain, plain_ints l]
theorem goRemI {K : PySem.W.Frag} {f : Addr} {l : List Int} {n : Int} {cs cs' : List Asr} {H : Hp} {Q : VK} (h : Sep cs H) (p : Swp cs (intA f l) (intA f (l.erase n)) cs') (hn : n ∈ l) (k : ∀ H', Sep cs' H' → Q .non H') : rRemD K (.ref f) [.int n] H Q := by
  refine ⟨f, l.map V.int, l.map PyData.int, .int n, .int n, l.idxOf n, rfl, rfl, Swp.get h p, dpAll_ints l, .int n, plain_ints l, by simp [PyData.plain], by simp [PyData.depth], place_int hn, ?_⟩
  have := k _ (h.put' p id)
  rw [List.erase_eq_eraseIdx_of_idxOf rfl, ← eraseIdx_map'] at this
  exact this
theorem goInI {K : PySem.W.Frag} {neg : Bool} {f : Addr} {l : List Int} {n : Int} {H : Hp} {Q : VK} (e : SqL K H f (l.map V.int)) (k : Q (.bl (if neg then !decide (n ∈ l) else decide (n ∈ l))) H) : rIn K neg (.int n) (.ref f) H Q := by
  refine ⟨f, l.map V.int, rfl, .inl e, rfl, flat_ints l, ?_⟩
  rw [inV_ints]
  exact k
theorem atI_head {l : List Int} {n : Int} (h : l.head? = some n) : atI (l.map V.int) 0 = some (.int n) := by
  cases l with
  | nil => cases h
  | cons a l =>
    cases h
    exact atI_nat (j := 0) rfl
/-! lists of data -/
theorem dpAll_nil {K : PySem.W.Frag} {H : Hp} : DpAll K H [] [] := .nil
/-- xs != [] of data -/
theorem goNeE {K : PySem.W.Frag} {a b : Addr} {ds : List PyData} {H : Hp} {Q : VK} (k1 : Nat) (h1 : Dp K H (.ref a) (.list ds)) (h2 : SqL K H b []) (s1 : shp k1 (.list ds) = true) (hk : k1 ≤ 64) (n1 : noB (.list ds) = true)
    (k : Q (.bl (!decide (ds = []))) H) : rNeD K (.ref a) (.ref b) H Q := by
  refine ⟨_, _, h1, .lst h2 .nil, shaped_of k1 s1 hk, shaped_of 1 rfl, ?_⟩
  by_cases e : ds = []
  · rw [decide_eq_true e] at k
    rw [eqv_t n1 rfl (by rw [e])]
    exact k
  · rw [decide_eq_false e] at k
    rw [eqv_f n1 rfl fun z => e (PyData.list.inj z)]
    exact k
theorem goEqE {K : PySem.W.Frag} {a b : Addr} {ds : List PyData} {H : Hp} {Q : VK} (k1 : Nat) (h1 : Dp K H (.ref a) (.list ds)) (h2 : SqL K H b []) (s1 : shp k1 (.list ds) = true) (hk : k1 ≤ 64) (n1 : noB (.list ds) = true)
    (k : Q (.bl (decide (ds = []))) H) : rEqD K (.ref a) (.ref b) H Q := by
  refine ⟨_, _, h1, .lst h2 .nil, shaped_of k1 s1 hk, shaped_of 1 rfl, ?_⟩
  by_cases e : ds = []
  · rw [decide_eq_true e] at k
    rw [eqv_t n1 rfl (by rw [e])]
    exact k
  · rw [decide_eq_false e] at k
    rw [eqv_f n1 rfl fun z => e (PyData.list.inj z)]
    exact k
theorem map_nil {α β : Type} {f : α → β} {l : List α} : decide (l.map f = []) = decide (l = []) := by
  cases l <;> rfl
theorem shp_prs (l : List (Int × Int)) : shp 2 (.list (l.map prD)) = true := shpAll_map (fun x => rfl) l
theorem noB_prs (l : List (Int × Int)) : noB (.list (l.map prD)) = true := noBAll_map (fun x => rfl) l
theorem shp_inD (l : List Int) : shp 1 (inD l) = true := shpAll_map (fun x => shp_int 0 x) l
theorem goNeI {K : PySem.W.Frag} {a b : Addr} {l : List Int} {H : Hp} {Q : VK} (h1 : SqL K H a (l.map V.int)) (h2 : SqL K H b []) (k : Q (.bl (!decide (l = []))) H) : rNeD K (.ref a) (.ref b) H Q :=
  goNeE 1 (dp_ints h1) h2 (shp_inD l) (by decide) (noB_inD l) (by rw [map_nil]; exact k)
theorem goNeP {K : PySem.W.Frag} {a b : Addr} {l : List (Int × Int)} {H : Hp} {Q : VK} (h1 : Dp K H (.ref a) (.list (l.map prD))) (h2 : SqL K H b []) (k : Q (.bl (!decide (l = []))) H) : rNeD K (.ref a) (.ref b) H Q :=
  goNeE 2 h1 h2 (shp_prs l) (by decide) (noB_prs l) (by rw [map_nil]; exact k)
/-- a tuple of scalars out of data -/
theorem dp_un {K : PySem.W.Frag} {H : Hp} {v : V} {xs : List V} (hv : xs.all vOk = true) (h : Dp K H v (.tuple (xs.map vD))) : ∃ t, v = .ref t ∧ SqT K H t xs := by
  cases h with
  | tup hs ha =>
    have e : ∀ (xs ys : List V), xs.all vOk = true → DpAll K H ys (xs.map vD) → ys = xs := fun xs => by
      induction xs with
      | nil => intro ys _ h; cases h; rfl
      | cons x xs ih =>
        intro ys ho h
        have ho' : (vOk x && xs.all vOk) = true := ho
        have q := Bool.and_eq_true_iff.mp ho'
        cases h with
        | cons h1 h2 =>
          rw [ih _ q.2 h2]
          congr 1
          cases x <;> first | (cases h1; rfl) | (have := q.1; exact nomatch this)
    rw [e _ _ hv ha] at hs
    exact ⟨_, rfl, hs⟩
/-- xs.pop(0) of pairs -/
theorem goPop0P {K : PySem.W.Frag} {w : Addr} {p : Int × Int} {r : List (Int × Int)} {cs cs' : List Asr} {H : Hp} {Q : VK} (h : Sep cs H) (s : Swp cs (lstA K w ((p :: r).map prD)) (lstA K w (r.map prD)) cs')
    (k : ∀ t H', Sep (tupA K t [.int p.1, .int p.2] :: cs') H' → Q (.ref t) H') : rPopAt (.ref w) [.int 0] H Q := by
  obtain ⟨R, p1, _⟩ := s.pk
  obtain ⟨i0, xs, e0, d0, _⟩ := h.lst p1
  cases d0 with
  | cons h1 h2 =>
    obtain ⟨t, rfl, ht⟩ := dp_pr h1
    have hS := h.lstPut s (imm_prs r) h2
    refine ⟨w, _, 0, 0, .ref t, rfl, rfl, e0, by decide, by decide, by simp [seqIndex?], rfl, ?_⟩
    refine k t _ (hS.mkT (sqT_kp ht (Fr.at1 (mut_lst e0)).kp))
/-! comprehensions -/
theorem upd_id {H : Hp} {D : Addr} {o : HO} (e : H D = some o) : upd H D o = H := by
  funext b
  unfold upd
  by_cases h : b = D
  · rw [if_pos h, h, e]
  · rw [if_neg h]
theorem lcS {J : It} {n : Nat} {G : Hp → Prop} {Y : Nat → Hp → V → Hp → Prop} (w : Walk J n G Y) {g : TG} {tt : TT} {te : TE} {vs : List Nat} {σ : L2.St} {H0 : Hp} {D : Addr} {Qd : Hp → Prop} {cs : List Asr} (hS : Sep (obj D (.lst []) :: cs) H0) (f : Nat → Option V) (hn : n ≤ 100000)
    (hG : ∀ acc H, Sep (obj D (.lst acc) :: cs) H → G H)
    (hs : ∀ (i : Nat) (x : V) (H H' : Hp) (acc : List V) (Qy : V → Hp → Prop) (Qn : Hp → Prop), i < n → Sep (obj D (.lst acc) :: cs) H → Y i H x H' → (∀ y H4, f i = some y → Sep (obj D (.lst acc) :: cs) H4 → Qy y H4) → (∀ H3, f i = none → Sep (obj D (.lst acc) :: cs) H3 → Qn H3) →
      g x (wipe σ vs) H' fun σ2 H2 => wipe σ2 vs = wipe σ vs ∧ tt σ2 H2 fun b H3 => if b = true then te σ2 H3 Qy else Qn H3)
    (hd : ∀ H, Sep (obj D (.lst ((List.range n).filterMap f)) :: cs) H → Qd H) :
    ∃ W : Nat → Nat → Hp → Prop, (∃ m, W 0 m H0) ∧ ∀ i m H, W i m H →
      (J.stop i H ∧ Qd H) ∨ (J.go i H ∧ ∃ Nx : Hp → Prop, (∀ H', Nx H' → ∃ m', m' < m ∧ W (i + 1) m' H') ∧ ∀ x H', J.yld i H x H' → g x (wipe σ vs) H' fun σ2 H2 => wipe σ2 vs = wipe σ vs ∧ tt σ2 H2 fun b H3 =>
        if b = true then te σ2 H3 fun y H4 => ∃ acc, H4 D = some (.lst acc) ∧ acc.length < sizeLine ∧ Nx (upd H4 D (.lst (acc ++ [y]))) else Nx H3) := by
  have hr : ∀ i, (List.range (i + 1)).filterMap f = (List.range i).filterMap f ++ (f i).toList := fun i => by
    rw [List.range_succ, List.filterMap_append]
    cases h : f i <;> simp [h]
  have hl : ∀ i, ((List.range i).filterMap f).length ≤ i := fun i => by
    have := List.length_filterMap_le f (List.range i)
    rw [List.length_range] at this
    exact this
  have q := lc_it (H1 := H0) (D := D) (g := g) (tt := tt) (te := te) (vs := vs) (σ := σ) (Qd := Qd) w (fun i H => Sep (obj D (.lst ((List.range i).filterMap f)) :: cs) H) (by rw [upd_id hS.get0]; exact hS) (fun i H _ p => hG _ H p) (fun i x H H' hi p y => ?_) hd
  · rw [upd_id hS.get0] at q
    exact q
  · refine hs i x H H' _ _ _ hi p y (fun y H4 e s => ?_) (fun H3 e s => ?_)
    · refine ⟨_, s.get0, ?_, ?_⟩
      · have := hl i
        exact Nat.lt_of_le_of_lt (Nat.le_trans this (by omega : i ≤ 100000)) (by decide)
      · rw [hr i, e]
        exact s.put0 id
    · rw [hr i, e]
      simpa using s
theorem lcD {K : PySem.W.Frag} {J : It} {n : Nat} {G : Hp → Prop} {Y : Nat → Hp → V → Hp → Prop} (w : Walk J n G Y) {g : TG} {tt : TT} {te : TE} {vs : List Nat} {σ : L2.St} {H0 : Hp} {D : Addr} {Qd : Hp → Prop} {cs : List Asr} (hS : Sep (obj D (.lst []) :: cs) H0) (f : Nat → Option PyData) (hn : n ≤ 100000)
    (hi : ∀ i d, f i = some d → Imm d = true) (hG : ∀ acc H, Sep (lstA K D acc :: cs) H → G H)
    (hs : ∀ (i : Nat) (x : V) (H H' : Hp) (acc : List PyData) (Qy : V → Hp → Prop) (Qn : Hp → Prop), i < n → Sep (lstA K D acc :: cs) H → Y i H x H' → (∀ y H4 d, f i = some d → Dp K H4 y d → Sep (lstA K D acc :: cs) H4 → Qy y H4) → (∀ H3, f i = none → Sep (lstA K D acc :: cs) H3 → Qn H3) →
      g x (wipe σ vs) H' fun σ2 H2 => wipe σ2 vs = wipe σ vs ∧ tt σ2 H2 fun b H3 => if b = true then te σ2 H3 Qy else Qn H3)
    (hd : ∀ H, Sep (lstA K D ((List.range n).filterMap f) :: cs) H → Qd H) :
    ∃ W : Nat → Nat → Hp → Prop, (∃ m, W 0 m H0) ∧ ∀ i m H, W i m H →
      (J.stop i H ∧ Qd H) ∨ (J.go i H ∧ ∃ Nx : Hp → Prop, (∀ H', Nx H' → ∃ m', m' < m ∧ W (i + 1) m' H') ∧ ∀ x H', J.yld i H x H' → g x (wipe σ vs) H' fun σ2 H2 => wipe σ2 vs = wipe σ vs ∧ tt σ2 H2 fun b H3 =>
        if b = true then te σ2 H3 fun y H4 => ∃ acc, H4 D = some (.lst acc) ∧ acc.length < sizeLine ∧ Nx (upd H4 D (.lst (acc ++ [y]))) else Nx H3) := by
  have hr : ∀ i, (List.range (i + 1)).filterMap f = (List.range i).filterMap f ++ (f i).toList := fun i => by
    rw [List.range_succ, List.filterMap_append]
    cases h : f i <;> simp [h]
  have hl : ∀ i, ((List.range i).filterMap f).length ≤ i := fun i => by
    have := List.length_filterMap_le f (List.range i)
    rw [List.length_range] at this
    exact this
  have q := lc_it (H1 := H0) (D := D) (g := g) (tt := tt) (te := te) (vs := vs) (σ := σ) (Qd := Qd) w (fun i H => Sep (lstA K D ((List.range i).filterMap f) :: cs) H) (by rw [upd_id hS.get0]; exact hS.lstC rfl .nil) (fun i H _ p => hG _ H p) (fun i x H H' hi' p y => ?_) hd
  · rw [upd_id hS.get0] at q
    exact q
  · refine hs i x H H' _ _ _ hi' p y (fun y H4 d e hy s => ?_) (fun H3 e s => ?_)
    · obtain ⟨i0, xs, e0, d0, s0⟩ := s.lst0
      refine ⟨_, e0, ?_, ?_⟩
      · have := hl i
        rw [dpAll_len d0]
        exact Nat.lt_of_le_of_lt (Nat.le_trans this (by omega : i ≤ 100000)) (by decide)
      · rw [hr i, e]
        exact s.lstPut .hd (immAll_snoc i0 (hi i d e)) (dpAll_snoc d0 hy)
    · rw [hr i, e]
      simpa using s
theorem dk_at {ls : List Lq} {i : Nat} {k : Key} {v : V} (h : (dkL ls)[i]? = some (k, v)) : ∃ q, ls[i]? = some q ∧ k = .inl q.1 ∧ v = .ref q.2.1 := by
  obtain ⟨q, h1, h2⟩ := map_get h
  cases h2
  exact ⟨q, h1, rfl, rfl⟩
theorem mem_of_get {α : Type} {l : List α} {i : Nat} {x : α} (h : l[i]? = some x) : x ∈ l := List.mem_of_getElem? h
/-! a list of data, its items apart -/
@[irreducible] def dlA (K : PySem.W.Frag) (xs : List V) (ds : List PyData) : Asr where
  P := fun F H => (∀ b, ¬ F b) ∧ ImmAll ds = true ∧ DpAll K H xs ds
  st := fun ⟨f, i, p⟩ _ kp => ⟨f, i, dp_kpAll kp _ _ i p⟩
  al := fun {F H b} ⟨f, _⟩ z => absurd z (f b)
theorem Sep.dl {K : PySem.W.Frag} {xs : List V} {ds : List PyData} {cs R : List Asr} {H : Hp} (s : Sep cs H) (p : Pick cs (dlA K xs ds) R) : DpAll K H xs ds := by
  unfold dlA at p
  obtain ⟨U, F, V, ⟨_, _, e⟩, _⟩ := s.pick p
  exact e
theorem Sep.dlI {K : PySem.W.Frag} {xs : List V} {ds : List PyData} {cs R : List Asr} {H : Hp} (s : Sep cs H) (p : Pick cs (dlA K xs ds) R) : ImmAll ds = true := by
  unfold dlA at p
  obtain ⟨U, F, V, ⟨_, e, _⟩, _⟩ := s.pick p
  exact e
theorem Sep.mkDl {K : PySem.W.Frag} {xs : List V} {ds : List PyData} {cs : List Asr} {H : Hp} (s : Sep cs H) (i : ImmAll ds = true) (p : DpAll K H xs ds) : Sep (dlA K xs ds :: cs) H := by
  unfold dlA
  obtain ⟨V, r⟩ := s
  exact ⟨V, fun _ => False, V, ⟨fun _ z => z, i, p⟩, r, fun _ z => z.elim, fun b => ⟨.inr, fun z => z.elim (fun y => y.elim) id⟩⟩
theorem Sep.lstO {K : PySem.W.Frag} {a : Addr} {ds : List PyData} {cs R : List Asr} {H : Hp} (h : Sep cs H) (p : Pick cs (lstA K a ds) R) : ∃ xs, xs.length = ds.length ∧ Sep (obj a (.lst xs) :: dlA K xs ds :: R) H := by
  obtain ⟨i, xs, e, d, s⟩ := h.lst p
  exact ⟨xs, dpAll_len d, (s.mkDl i d).pick (.tl .hd)⟩
theorem Sep.lstB {K : PySem.W.Frag} {a : Addr} {ds : List PyData} {xs : List V} {cs R1 R2 : List Asr} {H : Hp} (h : Sep cs H) (p : Pick cs (obj a (.lst xs)) R1) (q : Pick R1 (dlA K xs ds) R2) : Sep (lstA K a ds :: R2) H := by
  have h1 := h.pk2 p q
  have i := h1.dlI (.tl .hd)
  have d := h1.dl (.tl .hd)
  exact ((h1.sub (ds := obj a (.lst xs) :: R2) (.sel .hd (.skip .refl)))).lstC i d
theorem place_pr {l : List (Int × Int)} {p : Int × Int} (h : p ∈ l) : SeqAt.dataPlace (l.map prD) (prD p) = some (l.idxOf p) := by
  induction l with
  | nil => cases h
  | cons a l ih =>
    unfold SeqAt.dataPlace at ih ⊢
    rw [List.map_cons, List.findIdx?_cons, List.idxOf_cons]
    by_cases e : a = p
    · subst e
      rw [eqv_t rfl rfl rfl]
      simp
    · have h2 : p ∈ l := by
        rcases List.mem_cons.mp h with q | q
        · exact absurd q.symm e
        · exact q
      rw [ih h2, eqv_f (d := prD a) (e := prD p) rfl rfl fun z => e (by
        have z1 := PyData.tuple.inj z
        have z2 := List.cons.inj z1
        have z3 := List.cons.inj z2.2
        exact Prod.ext (PyData.int.inj z2.1) (PyData.int.inj z3.1))]
      simp [beq_false_of_ne e]
theorem plain_prs : ∀ l : List (Int × Int), PyData.plainAll (l.map prD) = true
  | [] => by simp [PyData.plainAll]
  | _ :: l => by simp [PyData.plainAll, PyData.plain, prD, plain_prs l]
theorem dpAll_erase' {K : PySem.W.Frag} {H : Hp} {xs : List V} {l : List (Int × Int)} {p : Int × Int} (h : DpAll K H xs (l.map prD)) : DpAll K H (xs.eraseIdx (l.idxOf p)) ((l.erase p).map prD) := by
  have := dpAll_erase (l.idxOf p) h
  rw [eraseIdx_map', ← List.erase_eq_eraseIdx_of_idxOf rfl] at this
  exact this
/-- xs.remove((a, b)) of pairs -/
theorem goRemP {K : PySem.W.Frag} {w t : Addr} {p : Int × Int} {l : List (Int × Int)} {cs cs' : List Asr} {H : Hp} {Q : VK} (h : Sep cs H) (s : Swp cs (lstA K w (l.map prD)) (lstA K w ((l.erase p).map prD)) cs') (ht : SqT K H t [.int p.1, .int p.2]) (hp : p ∈ l)
    (k : ∀ H', Sep cs' H' → Q .non H') : rRemD K (.ref w) [.ref t] H Q := by
  obtain ⟨R, p1, _⟩ := s.pk
  obtain ⟨i0, xs, e0, d0, _⟩ := h.lst p1
  refine ⟨w, xs, l.map prD, .ref t, prD p, l.idxOf p, rfl, rfl, e0, d0, .tup ht (.cons (.int _) (.cons (.int _) .nil)), plain_prs l, by simp [PyData.plain, PyData.plainAll, prD], by simp [PyData.depth, PyData.depthAll, prD], place_pr hp, ?_⟩
  exact k _ (h.lstPut s (imm_prs _) (dpAll_erase' d0))
theorem fm_if {α β : Type} (P : α → Bool) (f : α → β) : ∀ l : List α, l.filterMap (fun p => if P p = true then some (f p) else none) = (l.filter P).map f
  | [] => rfl
  | p :: l => by
    cases h : P p with
    | true => rw [List.filterMap_cons_some (b := f p) (by rw [if_pos h]), List.filter_cons_of_pos h, fm_if P f l, List.map_cons]
    | false => rw [List.filterMap_cons_none (by rw [if_neg (by rw [h]; exact Bool.false_ne_true)]), List.filter_cons_of_neg (by rw [h]; exact Bool.false_ne_true), fm_if P f l]
end Ll

namespace Ll
open PySem
def topS (i : Nat) : Stmt := PySem.Challenge.pw_lentlines_k10_served_by_so_many.main.body.getD i (.Pass ⟨0, 0, 0, 0⟩)
end Ll

namespace L2
open PySem PySem.Spec PyProof.Rows
/-! ### heads: binding, tables, names -/
section
variable {K : PySem.W.Frag} {x qual : Str} {params : Arguments} {body : List Stmt} {scope : Scope} {f : Addr} {fd : FuncData} {ps : List Str}
theorem FunD.kbindsN (F : FunD K x qual params body scope [] [] f fd) (n : Nat) (ks : List Str) (g : {α : Type} → List α → List α → List α)
    (hrel : ∀ {vs zs : List V} {us ws : List Value}, Vals vs us → Vals zs ws → Vals (g vs zs) (g us ws))
    (h : ∀ (kV doc pm : Value) (an : Option Addr) (cdv ct : Value) (us ws : List Value), us.length = n → ws.length = ks.length → bindArgs (PySem.W.fnOf x qual params body scope .none kV doc pm an cdv ct) ⟨us, ks.zip ws⟩ = pure (ps.zip (g us ws))) :
    KBn K fd ps n ks (fun us ws => g us ws) (fun vs zs => g vs zs) := by
  obtain ⟨oc, od, dV, kV, doc, pm, an, cdv, ct, osl, rfl, lk, hcd, hD, hK⟩ := F.ex
  rcases hD with ⟨_, rfl⟩ | ⟨e, _⟩
  · exact ⟨fun s us ws X l1 l2 => .of_eq (h kV doc pm an cdv ct us ws l1 l2), fun r1 r2 => hrel r1 r2⟩
  · exact absurd rfl e
end
theorem vals_app : ∀ {vs zs : List V} {us ws : List Value}, Vals vs us → Vals zs ws → Vals (vs ++ zs) (us ++ ws)
  | _, _, _, _, .nil, h => h
  | _, _, _, _, .cons a b, h => .cons a (vals_app b h)
theorem vals_at : ∀ {zs : List V} {ws : List Value} (i : Nat), Vals zs ws → Vals ((zs.drop i).take 1) ((ws.drop i).take 1)
  | _, _, _, .nil => by simp only [List.drop_nil, List.take_nil]; exact .nil
  | _, _, 0, .cons a b => .cons a .nil
  | _, _, i + 1, .cons a b => vals_at i b
end L2
namespace Ll
open PySem PySem.Spec PyProof.Rows L2 He
def tupC (K : PySem.W.Frag) (a : Addr) (vs : List V) : Bool := match K.lookup a with
  | some ⟨.type c, _, .seq its _, _⟩ => decide (c = "tuple") && (decide (its.size ≤ sizeLine) && relAll vs its.toList)
  | _ => false
theorem tupC_ok {K : PySem.W.Frag} {a : Addr} {vs : List V} (h : tupC K a vs = true) (H : Hp) : SqT K H a vs := by
  unfold tupC at h
  cases q : K.lookup a with
  | none =>
    rw [q] at h
    cases h
  | some o =>
    obtain ⟨oc, od, dt, osl⟩ := o
    rw [q] at h
    cases oc with
    | type c =>
      cases dt with
      | seq its n =>
        obtain ⟨h1, h2⟩ := ba (show (decide (c = "tuple") && (decide (its.size ≤ sizeLine) && relAll vs its.toList)) = true from h)
        obtain ⟨h3, h4⟩ := ba h2
        exact .inr ⟨_, its, n, q, congrArg Value.type (of_decide_eq_true h1), rfl, of_decide_eq_true h3, relAll_ok h4⟩
      | _ => cases h
    | _ => cases dt <;> cases h
/-- the i-th of the sequence at a, if it is an object -/
def itemAt (K : PySem.W.Frag) (a : Addr) (i : Nat) : Addr := match K.lookup a with
  | some ⟨_, _, .seq its _, _⟩ => (match its.toList[i]? with
    | some (.ref b) => b
    | _ => 0)
  | _ => 0
def noats (K : PySem.W.Frag) (C : Addr) (fs : List Str) : Bool := fs.all fun f => eqO (PySem.W.findIn K (.ref C) f) (some none)
theorem noats_ok {K : PySem.W.Frag} {C : Addr} {fs : List Str} (h : noats K C fs = true) : ∀ f ∈ fs, NoAttr K C f := fun f hf => eqO_ok (List.all_eq_true.mp h f hf)
theorem glV_int {K : PySem.W.Frag} {h : Heap} {mg : Str → Option Value} (X : K.In h) (G : h.Ns mainGlobals mg) {x : Str} {i : Int} (c : (He.Fa.int x i).ok K = true) : GlV mg x (.int i) := by
  obtain ⟨t, e⟩ := He.int_ok X G c
  exact ⟨_, e, t, rfl⟩
theorem glV_str {K : PySem.W.Frag} {h : Heap} {mg : Str → Option Value} (X : K.In h) (G : h.Ns mainGlobals mg) {x y : Str} (c : (He.Fa.str x y).ok K = true) : GlV mg x (.str y) := by
  obtain ⟨t, e⟩ := He.str_ok X G c
  exact ⟨_, e, t, rfl⟩
theorem glV_ref {K : PySem.W.Frag} {h : Heap} {mg : Str → Option Value} (X : K.In h) (G : h.Ns mainGlobals mg) {x : Str} (c : (He.Fa.glo x).ok K = true) : GlV mg x (.ref (ga K x)) := ⟨_, He.glo_ok X G c, rfl⟩
theorem exG_of {K : PySem.W.Frag} {h : Heap} {mg : Str → Option Value} (X : K.In h) (G : h.Ns mainGlobals mg) {x : Str} (c1 : (He.Fa.glo x).ok K = true) (c2 : (He.Fa.exc x).ok K = true) : ExG K mg x (ga K x) :=
  ⟨He.glo_ok X G c1, (He.exc_ok c2).1, (He.exc_ok c2).2.1, (He.exc_ok c2).2.2.1, (He.exc_ok c2).2.2.2⟩
/-- the classes, tables by names -/
def clOf (K : PySem.W.Frag) : Cl := ⟨ga K "Yard", ga K "Rules", ga K "Line", ga K "Pool", fun r => ga K (rfS r), ga K "TIMES", ga K "BOUNDS", itemAt K (ga K "BOUNDS")⟩
theorem allAt {l : List Bool} (h : l.all id = true) (i : Nat) {b : Bool} (e : l[i]? = some b) : b = true := List.all_eq_true.mp h b (List.mem_of_getElem? e)
end Ll

namespace Ll
open PySem PySem.Spec PyProof.Rows L2 He Yd
/-! ### heads: what is looked at of the refusals -/
def ixR : Rf → Nat
  | .badMoment => 1
  | .stopped => 2
  | .waits => 3
  | .full => 4
  | .notWaiting => 5
  | .notOpening => 6
  | .notLent => 7
def excB (K : PySem.W.Frag) (D : Addr) : Bool :=
  decide (PySem.W.findIn K (.ref D) "__getattribute__" = some (some (.builtin "BaseException.__getattribute__"))) && (decide (PySem.W.findIn K (.ref D) "__getattr__" = some none) && (decide (PySem.W.subIn K (.ref D) (.type "BaseException") = some true) && (PySem.W.hasDictIn K D &&
  (decide (PySem.W.findIn K (.ref D) "__class__" = some (some (.builtin "object.__class__"))) && (decide (PySem.W.specialIn K (.builtin "object.__class__") "__get__" = some (some (.builtin "getset_descriptor.__get__"))) && (decide (PySem.W.takesIn K (.builtin "object.__class__") = some true) && decide (PySem.W.mroIn K D (.type "object") = some true)))))))
def rfs : List Rf := [.badMoment, .stopped, .waits, .full, .notWaiting, .notOpening, .notLent]
def errN : List Str := ["BadPool", "BadMoment", "Stopped", "Waits", "Full", "NotWaiting", "NotOpening", "NotLent", "BadCount", "BadWork"]
def errA (K : PySem.W.Frag) (i : Nat) : Addr := ga K (errN.getD i "")
def errB (K : PySem.W.Frag) : Bool :=
  (rfs.all fun r => excB K (ga K (rfS r)) && (((List.range 10).all fun i => decide (PySem.W.kitOne K (.ref (ga K (rfS r))) (.ref (errA K i)) = some (decide (i = ixR r)))) &&
    (decide (PySem.W.kitOne K (.ref (ga K (rfS r))) (.type "ValueError") = some true) && decide (PySem.W.exmOne K (.ref (ga K (rfS r))) (.ref (ga K "LentError")) = some true)))) &&
  (xfB K (errA K 0) && (decide (PySem.W.findIn K (.ref (errA K 0)) "word" = some none) && (xfB K (errA K 9) && decide (PySem.W.findIn K (.ref (errA K 9)) "at" = some none))))
def exB (K : PySem.W.Frag) : Bool := rfs.all fun r => rfs.all fun r' => decide (PySem.W.exmOne K (.ref (ga K (rfS r))) (.ref (ga K (rfS r'))) = some (decide (r = r')))
end Ll

namespace Sv
/-! ### served, as plain functions -/
def lo : List Int → Int
  | [] => 0
  | a :: r => r.foldl min a
theorem foldl_min : ∀ (r : List Int) (a : Int), (r.foldl min a ∈ a :: r) ∧ ∀ y ∈ a :: r, r.foldl min a ≤ y
  | [], a => ⟨by simp, fun y h => by
    have e : y = a := by simpa using h
    rw [e]
    exact Int.le_refl _⟩
  | b :: r, a => by
    obtain ⟨h1, h2⟩ := foldl_min r (min a b)
    refine ⟨?_, fun y h => ?_⟩
    · show r.foldl min (min a b) ∈ a :: b :: r
      rcases List.mem_cons.mp h1 with e | e
      · rw [e]
        by_cases c : a ≤ b
        · rw [Int.min_eq_left c]
          exact List.mem_cons_self
        · rw [Int.min_eq_right (by omega)]
          exact List.mem_cons_of_mem _ List.mem_cons_self
      · exact List.mem_cons_of_mem _ (List.mem_cons_of_mem _ e)
    · show r.foldl min (min a b) ≤ y
      have h3 := h2 (min a b) List.mem_cons_self
      rcases List.mem_cons.mp h with e | e
      · rw [e]
        have := Int.min_le_left a b
        omega
      · rcases List.mem_cons.mp e with e | e
        · rw [e]
          have := Int.min_le_right a b
          omega
        · exact h2 y (List.mem_cons_of_mem _ e)
theorem lo_mem {l : List Int} (h : 0 < l.length) : lo l ∈ l := by
  cases l with
  | nil => cases h
  | cons a r => exact (foldl_min r a).1
theorem lo_le {l : List Int} {y : Int} (h : y ∈ l) : lo l ≤ y := by
  cases l with
  | nil => cases h
  | cons a r => exact (foldl_min r a).2 y h
theorem lo_is {l : List Int} {m : Int} (h : m ∈ l) (h2 : ∀ y, y ∈ l → m ≤ y) : lo l = m := by
  have h3 := lo_le h
  have h4 := h2 _ (lo_mem (l := l) (List.length_pos_of_mem h))
  omega
/-- one work is served -/
def step (s : List Int × List Int) (p : Int × Int) : List Int × List Int :=
  (s.1.set (s.1.idxOf (lo s.1)) (max p.1 (lo s.1) + p.2), s.2 ++ [max p.1 (lo s.1)])
def run (c : Nat) (w : List (Int × Int)) : List Int × List Int := w.foldl step (List.replicate c 0, [])
def starts (c : Nat) (w : List (Int × Int)) : List Int := (run c w).2
theorem run_more {c : Nat} {w : List (Int × Int)} {i : Nat} {p : Int × Int} (h : w[i]? = some p) : run c (w.take (i + 1)) = step (run c (w.take i)) p := by
  unfold run
  rw [Ll.take_more h, List.foldl_append]
  rfl
theorem run_len1 {c : Nat} : ∀ (w : List (Int × Int)) (s : List Int × List Int), s.1.length = c → (w.foldl step s).1.length = c
  | [], _, h => h
  | p :: w, s, h => run_len1 (c := c) w (step s p) (by
    show (s.1.set _ _).length = c
    rw [List.length_set, h])
theorem run_len {c : Nat} {w : List (Int × Int)} : (run c w).1.length = c := run_len1 w _ (by simp)
theorem run_len2 : ∀ (w : List (Int × Int)) (s : List Int × List Int), (w.foldl step s).2.length = s.2.length + w.length
  | [], _ => rfl
  | p :: w, s => by
    show (w.foldl step (step s p)).2.length = _
    rw [run_len2 w (step s p)]
    show (s.2 ++ [_]).length + w.length = s.2.length + (w.length + 1)
    rw [List.length_append, List.length_singleton]
    omega
theorem starts_len {c : Nat} {w : List (Int × Int)} : (starts c w).length = w.length := by
  unfold starts run
  rw [run_len2]
  simp
/-- works that can be -/
def GoodFrom (last : Int) : List (Int × Int) → Prop
  | [] => True
  | p :: r => last ≤ p.1 ∧ p.1 ≤ 9999 ∧ 0 ≤ p.2 ∧ p.2 ≤ 99 ∧ GoodFrom p.1 r
def Good (w : List (Int × Int)) : Prop := GoodFrom 0 w
/-- the j-th waits longer than l -/
def late (w : List (Int × Int)) (st : List Int) (l : Int) (j : Nat) : Bool := match w[j]?, st[j]? with
  | some q, some s => decide (l < s - q.1)
  | _, _ => false
/-- nobody waits longer with so many lines -/
def fits (w : List (Int × Int)) (l : Int) (c : Nat) : Bool := (List.range w.length).all fun j => !late w (starts c w) l j
theorem ones {α : Type} {p : Nat → Bool} {x : α} : ∀ r : List Nat, r.filterMap (fun j => if p j then some x else none) = List.replicate (r.countP p) x
  | [] => rfl
  | j :: r => by
    have ih := ones (p := p) (x := x) r
    by_cases h : p j = true
    · rw [List.filterMap_cons_some (b := x) (by simp [h]), ih, List.countP_cons_of_pos h]
      rfl
    · rw [List.filterMap_cons_none (by simp [h]), ih, List.countP_cons_of_neg h]
theorem fits_iff {w : List (Int × Int)} {l : Int} {c : Nat} : fits w l c = true ↔ (List.range w.length).countP (late w (starts c w) l) = 0 := by
  unfold fits
  rw [List.countP_eq_zero, List.all_eq_true]
  exact ⟨fun h a ha => by simpa using h a ha, fun h a ha => by simpa using h a ha⟩
def fewest (w : List (Int × Int)) (l : Int) : Option Nat := ((List.range 8).map (· + 1)).find? fun c => fits w l c
theorem fewest_some {w : List (Int × Int)} {l : Int} {c : Nat} (h1 : 1 ≤ c) (h2 : c ≤ 8) (h : fits w l c = true) (hf : ∀ d, 1 ≤ d → d < c → fits w l d = false) : fewest w l = some c := by
  unfold fewest
  rw [List.find?_map, Option.map_eq_some_iff]
  refine ⟨c - 1, ?_, by omega⟩
  rw [List.find?_range_eq_some]
  refine ⟨?_, by simp; omega, fun j hj => ?_⟩
  · show fits w l (c - 1 + 1) = true
    rw [show c - 1 + 1 = c by omega]
    exact h
  · show (!fits w l (j + 1)) = true
    rw [hf (j + 1) (by omega) (by omega)]
    rfl
theorem fewest_none {w : List (Int × Int)} {l : Int} (hf : ∀ d, 1 ≤ d → d ≤ 8 → fits w l d = false) : fewest w l = none := by
  unfold fewest
  rw [List.find?_eq_none]
  intro x hx
  obtain ⟨j, hj, rfl⟩ := List.mem_map.mp hx
  have := List.mem_range.mp hj
  rw [hf (j + 1) (by omega) (by omega)]
  decide
end Sv

namespace Sv
/-! ### ends as bags: what counts is what they are, cut below by the moment -/
theorem set_perm : ∀ {l : List Int} {a b : Int}, a ∈ l → (l.set (l.idxOf a) b).Perm (b :: l.erase a)
  | [], a, b, h => by cases h
  | c :: l, a, b, h => by
    by_cases e : c = a
    · subst e
      simp
    · have hm : a ∈ l := by
        rcases List.mem_cons.mp h with q | q
        · exact absurd q.symm e
        · exact q
      have hb : (c == a) = false := by simpa using e
      rw [List.idxOf_cons, hb]
      show (c :: l.set (l.idxOf a) b).Perm (b :: (c :: l).erase a)
      rw [List.erase_cons, hb]
      exact ((set_perm hm).cons c).trans (List.Perm.swap b c _)
/-- l's numbers, none less than m -/
def cl (m : Int) (l : List Int) : List Int := l.map (max m)
theorem lo_perm {a b : List Int} (h : a.Perm b) : lo a = lo b := by
  by_cases hl : 0 < a.length
  · have h1 := lo_mem hl
    exact lo_is ((h.mem_iff).mpr (lo_mem (by rw [← h.length_eq]; exact hl))) fun y hy => lo_le ((h.mem_iff).mp hy)
  · have ea : a = [] := List.length_eq_zero_iff.mp (by omega)
    subst ea
    rw [h.symm.eq_nil]
theorem lo_cl {m : Int} {l : List Int} (h : 0 < l.length) : lo (cl m l) = max m (lo l) := by
  refine lo_is (List.mem_map.mpr ⟨_, lo_mem h, rfl⟩) fun y hy => ?_
  obtain ⟨z, hz, rfl⟩ := List.mem_map.mp hy
  have := lo_le hz
  omega
theorem cl_cl {m m' : Int} (h : m ≤ m') (l : List Int) : cl m' (cl m l) = cl m' l := by
  unfold cl
  rw [List.map_map]
  exact List.map_congr_left fun x _ => by show max m' (max m x) = max m' x; omega
/-- a step's ends -/
def nx (l : List Int) (p : Int × Int) : List Int := l.set (l.idxOf (lo l)) (max p.1 (lo l) + p.2)
theorem nx_perm {l : List Int} {p : Int × Int} (h : 0 < l.length) : (nx l p).Perm ((max p.1 (lo l) + p.2) :: l.erase (lo l)) := set_perm (lo_mem h)
theorem nx_len {l : List Int} {p : Int × Int} : (nx l p).length = l.length := by
  unfold nx
  rw [List.length_set]
theorem cl_split {m : Int} {l : List Int} (h : 0 < l.length) : (cl m l).Perm (max m (lo l) :: cl m (l.erase (lo l))) :=
  (List.perm_cons_erase (lo_mem h)).map _
theorem cl_nx {l : List Int} {p : Int × Int} (h : 0 < l.length) (hp : 0 ≤ p.2) : (cl p.1 (nx l p)).Perm ((max p.1 (lo l) + p.2) :: cl p.1 (l.erase (lo l))) := by
  have q := (nx_perm (p := p) h).map (max p.1)
  have e : (((max p.1 (lo l) + p.2) :: l.erase (lo l)).map (max p.1)) = (max p.1 (lo l) + p.2) :: cl p.1 (l.erase (lo l)) := by
    show max p.1 (max p.1 (lo l) + p.2) :: _ = _
    rw [show max p.1 (max p.1 (lo l) + p.2) = max p.1 (lo l) + p.2 by omega]
    rfl
  rw [e] at q
  exact q
/-- the same bag, cut at m -/
def Alike (m : Int) (a b : List Int) : Prop := (cl m a).Perm (cl m b)
theorem Alike.later {m m' : Int} {a b : List Int} (h : Alike m a b) (hm : m ≤ m') : Alike m' a b := by
  have q := h.map (max m')
  have e1 := cl_cl hm a
  have e2 := cl_cl hm b
  unfold cl at e1 e2
  unfold Alike cl
  rw [← e1, ← e2]
  exact q
theorem Alike.len {m : Int} {a b : List Int} (h : Alike m a b) : a.length = b.length := by
  have q := h.length_eq
  simpa [cl] using q
theorem Alike.lo {m : Int} {a b : List Int} (h : Alike m a b) (hl : 0 < a.length) : max m (lo a) = max m (lo b) := by
  rw [← lo_cl hl, ← lo_cl (by rw [← h.len]; exact hl), lo_perm h]
theorem Alike.nx {p : Int × Int} {a b : List Int} (h : Alike p.1 a b) (hl : 0 < a.length) (hp : 0 ≤ p.2) : Alike p.1 (nx a p) (nx b p) := by
  have hb : 0 < b.length := by rw [← h.len]; exact hl
  have e := h.lo hl
  have q1 := (cl_split (m := p.1) hl).symm.trans (h.trans (cl_split (m := p.1) hb))
  rw [e] at q1
  have q2 := List.Perm.cons_inv q1
  refine (cl_nx hl hp).trans (List.Perm.trans ?_ (cl_nx hb hp).symm)
  rw [e]
  exact q2.cons _
/-- one held for nothing changes nothing -/
theorem Alike.zero {m : Int} {a b : List Int} (h : Alike m a b) (hl : 0 < a.length) : Alike m (Sv.nx a (m, 0)) b := by
  refine List.Perm.trans (cl_nx (p := (m, 0)) hl (by show (0 : Int) ≤ 0; decide)) ?_
  show ((max m (Sv.lo a) + 0) :: cl m (a.erase (Sv.lo a))).Perm _
  rw [Int.add_zero]
  exact (cl_split hl).symm.trans h
/-- starts from ends -/
def startsE : List Int → List (Int × Int) → List Int
  | _, [] => []
  | l, p :: w => max p.1 (lo l) :: startsE (nx l p) w
theorem foldl_starts : ∀ (w : List (Int × Int)) (s : List Int × List Int), (w.foldl step s).2 = s.2 ++ startsE s.1 w
  | [], s => by simp [startsE]
  | p :: w, s => by
    show (w.foldl step (step s p)).2 = _
    rw [foldl_starts w (step s p)]
    show (s.2 ++ [max p.1 (lo s.1)]) ++ startsE (nx s.1 p) w = s.2 ++ (max p.1 (lo s.1) :: startsE (nx s.1 p) w)
    rw [List.append_assoc]
    rfl
theorem starts_eq (c : Nat) (w : List (Int × Int)) : starts c w = startsE (List.replicate c 0) w := by
  unfold starts run
  rw [foldl_starts]
  rfl
theorem startsE_alike : ∀ (w : List (Int × Int)) (m : Int) (a b : List Int), Alike m a b → 0 < a.length → GoodFrom m w → startsE a w = startsE b w
  | [], _, _, _, _, _, _ => rfl
  | p :: w, m, a, b, h, hl, g => by
    obtain ⟨g1, g2, g3, g4, g5⟩ := g
    have h1 := h.later g1
    have h2 := h1.nx hl g3
    show max p.1 (lo a) :: startsE (nx a p) w = max p.1 (lo b) :: startsE (nx b p) w
    rw [h1.lo hl, startsE_alike w p.1 _ _ h2 (by rw [nx_len]; exact hl) g5]
/-- works with such of hold nothing put in: (work, is it one of the first) -/
def pickT (st : List Int) (mo : List ((Int × Int) × Bool)) : List Int := ((List.zip st mo).filter fun q => q.2.2).map (·.1)
theorem pick_starts : ∀ (mo : List ((Int × Int) × Bool)) (m : Int) (a b : List Int), Alike m a b → 0 < a.length → GoodFrom m (mo.map (·.1)) → (∀ x ∈ mo, x.2 = false → x.1.2 = 0) →
    pickT (startsE a (mo.map (·.1))) mo = startsE b ((mo.filter (·.2)).map (·.1))
  | [], _, _, _, _, _, _, _ => rfl
  | (p, t) :: mo, m, a, b, h, hl, g, hz => by
    obtain ⟨g1, g2, g3, g4, g5⟩ := g
    have g1 : m ≤ p.1 := g1
    have h1 := h.later g1
    have hla : 0 < (nx a p).length := by rw [nx_len]; exact hl
    have hz' : ∀ x ∈ mo, x.2 = false → x.1.2 = 0 := fun x hx => hz x (List.mem_cons_of_mem _ hx)
    cases t with
    | true =>
      have ih := pick_starts mo p.1 _ _ (h1.nx hl g3) hla g5 hz'
      show max p.1 (lo a) :: pickT (startsE (nx a p) (mo.map (·.1))) mo = max p.1 (lo b) :: startsE (nx b p) ((mo.filter (·.2)).map (·.1))
      rw [h1.lo hl, ih]
    | false =>
      have e0 : p.2 = 0 := hz (p, false) List.mem_cons_self rfl
      have ep : p = (p.1, 0) := by rw [← e0]
      have h2 : Alike p.1 (nx a p) b := by
        have q := h1.zero hl
        rw [← ep] at q
        exact q
      show pickT (startsE (nx a p) (mo.map (·.1))) mo = startsE b ((mo.filter (·.2)).map (·.1))
      exact pick_starts mo p.1 _ _ h2 hla g5 hz'
/-- all at one moment with one hold -/
theorem cl_same : ∀ (n : Nat) (c : Nat) (q r : Nat) (m h : Int) (a : List Int), 0 < c → r < c → 0 ≤ m → 0 ≤ h → a.length = c → (cl m a).Perm (List.replicate (c - r) (m + q * h) ++ List.replicate r (m + (q + 1) * h)) →
    startsE a (List.replicate n (m, h)) = (List.range n).map fun k => m + (((q * c + r + k) / c : Nat) : Int) * h
  | 0, _, _, _, _, _, _, _, _, _, _, _, _ => rfl
  | n + 1, c, q, r, m, h, a, hc, hr, hm, hh, hl, hp => by
    have hl0 : 0 < a.length := by omega
    have hqh : 0 ≤ (q : Int) * h := Int.mul_nonneg (by omega) hh
    have hmul : ((q : Int) + 1) * h = (q : Int) * h + h := by rw [Int.add_mul, Int.one_mul]
    have elo : max m (lo a) = m + (q : Int) * h := by
      rw [← lo_cl hl0, lo_perm hp]
      refine lo_is (List.mem_append.mpr (.inl (List.mem_replicate.mpr ⟨by omega, rfl⟩))) fun y hy => ?_
      rcases List.mem_append.mp hy with z | z
      · rw [(List.mem_replicate.mp z).2]
        exact Int.le_refl _
      · rw [(List.mem_replicate.mp z).2, hmul]
        omega
    have hs : (cl m (nx a (m, h))).Perm ((m + (q : Int) * h + h) :: (List.replicate (c - r - 1) (m + (q : Int) * h) ++ List.replicate r (m + ((q : Int) + 1) * h))) := by
      have q1 := cl_nx (p := (m, h)) hl0 hh
      have q1 : (cl m (nx a (m, h))).Perm ((max m (lo a) + h) :: cl m (a.erase (lo a))) := q1
      have q2 := (cl_split (m := m) hl0).symm.trans hp
      rw [elo] at q1 q2
      rw [show c - r = (c - r - 1) + 1 by omega, List.replicate_succ, List.cons_append] at q2
      exact q1.trans ((List.Perm.cons_inv q2).cons _)
    have ediv : (q * c + r + 0) / c = q := by
      rw [Nat.add_zero, Nat.mul_comm, Nat.mul_add_div hc, Nat.div_eq_of_lt hr, Nat.add_zero]
    have tail : startsE (nx a (m, h)) (List.replicate n (m, h)) = (List.range n).map fun k => m + (((q * c + (r + 1) + k) / c : Nat) : Int) * h := by
      by_cases hr1 : r + 1 < c
      · refine cl_same n c q (r + 1) m h _ hc hr1 hm hh (by rw [nx_len]; exact hl) (hs.trans ?_)
        rw [show c - (r + 1) = c - r - 1 by omega, List.replicate_succ, hmul, Int.add_assoc]
        exact List.perm_middle.symm
      · have hcr : c = r + 1 := by omega
        have q3 := cl_same n c (q + 1) 0 m h (nx a (m, h)) hc hc hm hh (by rw [nx_len]; exact hl) (hs.trans (by
          rw [show c - r - 1 = 0 by omega]
          show ((m + (q : Int) * h + h) :: List.replicate r (m + ((q : Int) + 1) * h)).Perm (List.replicate c (m + ((q + 1 : Nat) : Int) * h) ++ [])
          rw [List.append_nil, hcr, List.replicate_succ, show ((q + 1 : Nat) : Int) = (q : Int) + 1 by omega, hmul, Int.add_assoc]))
        rw [q3]
        refine List.map_congr_left fun k _ => ?_
        rw [show (q + 1) * c + 0 + k = q * c + (r + 1) + k by rw [Nat.add_mul]; omega]
    rw [List.range_succ_eq_map, List.map_cons, List.map_map, ediv]
    show max m (lo a) :: startsE (nx a (m, h)) (List.replicate n (m, h)) = _
    rw [elo, tail]
    congr 1
    refine List.map_congr_left fun k _ => ?_
    show m + (((q * c + (r + 1) + k) / c : Nat) : Int) * h = m + (((q * c + r + (k + 1)) / c : Nat) : Int) * h
    rw [show q * c + (r + 1) + k = q * c + r + (k + 1) by omega]
theorem starts_same {c n : Nat} {m h : Int} (hc : 0 < c) (hm : 0 ≤ m) (hh : 0 ≤ h) : starts c (List.replicate n (m, h)) = (List.range n).map fun k => m + ((k / c : Nat) : Int) * h := by
  rw [starts_eq, cl_same n c 0 0 m h _ hc hc hm hh (by simp) (by
    unfold cl
    rw [List.map_replicate]
    have e1 : max m 0 = m + ((0 : Nat) : Int) * h := by
      rw [show ((0 : Nat) : Int) = 0 from rfl, Int.zero_mul]
      omega
    rw [e1]
    simp)]
  refine List.map_congr_left fun k _ => ?_
  rw [Nat.zero_mul, Nat.zero_add]
/-- the fewest of such -/
theorem late_same {c n : Nat} {m h l : Int} {k : Nat} (hc : 0 < c) (hm : 0 ≤ m) (hh : 0 ≤ h) (hk : k < n) : late (List.replicate n (m, h)) (starts c (List.replicate n (m, h))) l k = decide (l < ((k / c : Nat) : Int) * h) := by
  unfold late
  rw [starts_same hc hm hh, List.getElem?_replicate, if_pos hk, List.getElem?_map, List.getElem?_range hk]
  show decide (l < m + ((k / c : Nat) : Int) * h - m) = _
  congr 1
  rw [show m + ((k / c : Nat) : Int) * h - m = ((k / c : Nat) : Int) * h by omega]
theorem fits_same {c n : Nat} {m h : Int} (hc : 0 < c) (hm : 0 ≤ m) (hh : 0 ≤ h) : fits (List.replicate n (m, h)) (3 * h) c = decide (h = 0 ∨ n ≤ 4 * c) := by
  have hf : fits (List.replicate n (m, h)) (3 * h) c = true ↔ (h = 0 ∨ n ≤ 4 * c) := by
    unfold fits
    rw [List.all_eq_true, List.length_replicate]
    constructor
    · intro q
      by_cases h0 : h = 0
      · exact .inl h0
      · refine .inr ?_
        by_cases hn : n ≤ 4 * c
        · exact hn
        · have hk : 4 * c < n := by omega
          have q1 := q (4 * c) (List.mem_range.mpr hk)
          rw [late_same hc hm hh hk, Nat.mul_div_cancel _ hc] at q1
          have q2 : ¬ (3 * h < ((4 : Nat) : Int) * h) := by simpa using q1
          exact absurd (show (3 : Int) * h < ((4 : Nat) : Int) * h by omega) q2
    · intro q k hk
      have hk := List.mem_range.mp hk
      rw [late_same hc hm hh hk]
      rcases q with q | q
      · subst q
        simp
      · have h4 : k / c ≤ 3 := by
          have : k / c < 4 := (Nat.div_lt_iff_lt_mul hc).mpr (by omega)
          omega
        have h5 : ((k / c : Nat) : Int) * h ≤ 3 * h := Int.mul_le_mul_of_nonneg_right (by omega) hh
        have h6 : ¬ (3 * h < ((k / c : Nat) : Int) * h) := by omega
        rw [decide_eq_false h6]
        rfl
  by_cases z : h = 0 ∨ n ≤ 4 * c
  · rw [decide_eq_true z]
    exact hf.mpr z
  · rw [decide_eq_false z]
    cases q : fits (List.replicate n (m, h)) (3 * h) c with
    | false => rfl
    | true => exact absurd (hf.mp q) z
theorem fewest_zero {n : Nat} {m : Int} (hm : 0 ≤ m) : fewest (List.replicate n (m, 0)) 0 = some 1 :=
  fewest_some (by decide) (by decide) (by
    have := fits_same (c := 1) (n := n) (m := m) (h := 0) (by decide) hm (Int.le_refl 0)
    rw [Int.mul_zero] at this
    rw [this]
    simp) fun d h1 h2 => by omega
theorem fewest_few {n : Nat} {m h : Int} (hm : 0 ≤ m) (hh : 0 < h) (hn : n ≤ 32) : fewest (List.replicate n (m, h)) (3 * h) = some (max 1 ((n + 3) / 4)) := by
  refine fewest_some (by omega) (by omega) ?_ fun d h1 h2 => ?_
  · rw [fits_same (by omega) hm (by omega)]
    exact decide_eq_true (.inr (by omega))
  · rw [fits_same (by omega) hm (by omega)]
    exact decide_eq_false (by
      rintro (z | z)
      · omega
      · omega)
theorem fewest_many {n : Nat} {m h : Int} (hm : 0 ≤ m) (hh : 0 < h) (hn : 32 < n) : fewest (List.replicate n (m, h)) (3 * h) = none := by
  refine fewest_none fun d h1 h2 => ?_
  rw [fits_same (by omega) hm (by omega)]
  exact decide_eq_false (by
    rintro (z | z)
    · omega
    · omega)
end Sv

namespace Sv
/-! ### more lines, shorter holds: nobody later -/
def cnt (t : Int) (l : List Int) : Nat := l.countP fun x => decide (x ≤ t)
/-- l has at any time as many free as l' -/
def Dom (l l' : List Int) : Prop := ∀ t, cnt t l' ≤ cnt t l
theorem cnt_perm {t : Int} {a b : List Int} (h : a.Perm b) : cnt t a = cnt t b := h.countP_eq _
theorem cnt_cons {t x : Int} {l : List Int} : cnt t (x :: l) = cnt t l + (if x ≤ t then 1 else 0) := by
  unfold cnt
  rw [List.countP_cons]
  simp
theorem cnt_split {t : Int} {l : List Int} (h : 0 < l.length) : cnt t l = cnt t (l.erase (lo l)) + (if lo l ≤ t then 1 else 0) := by
  rw [cnt_perm (List.perm_cons_erase (lo_mem h)), cnt_cons]
theorem cnt_nx {t : Int} {l : List Int} {p : Int × Int} (h : 0 < l.length) : cnt t (nx l p) = cnt t (l.erase (lo l)) + (if max p.1 (lo l) + p.2 ≤ t then 1 else 0) := by
  rw [cnt_perm (nx_perm h), cnt_cons]
theorem cnt_zero {t : Int} {l : List Int} (h : t < lo l) : cnt t l = 0 := by
  unfold cnt
  rw [List.countP_eq_zero]
  intro x hx
  have := lo_le hx
  simp
  omega
theorem cnt_pos {t : Int} {l : List Int} (h : 0 < cnt t l) : lo l ≤ t := by
  unfold cnt at h
  obtain ⟨x, hx, hp⟩ := List.countP_pos_iff.mp h
  have := lo_le hx
  have hp : x ≤ t := of_decide_eq_true hp
  omega
theorem Dom.lo {l l' : List Int} (h : Dom l l') (hl : 0 < l'.length) : lo l ≤ Sv.lo l' := by
  refine cnt_pos (Nat.lt_of_lt_of_le ?_ (h (Sv.lo l')))
  rw [cnt_split hl, if_pos (Int.le_refl _)]
  omega
theorem Dom.step {l l' : List Int} {m h h' : Int} (d : Dom l l') (hl : 0 < l.length) (hl' : 0 < l'.length) (h0 : 0 ≤ h) (hh : h ≤ h') : Dom (nx l (m, h)) (nx l' (m, h')) := by
  intro t
  have e := d.lo hl'
  have q := d t
  rw [cnt_nx hl, cnt_nx hl']
  rw [cnt_split hl, cnt_split hl'] at q
  show cnt t (l'.erase (Sv.lo l')) + (if max m (Sv.lo l') + h' ≤ t then 1 else 0) ≤ cnt t (l.erase (Sv.lo l)) + (if max m (Sv.lo l) + h ≤ t then 1 else 0)
  by_cases c1 : Sv.lo l' ≤ t
  · rw [if_pos c1, if_pos (by omega)] at q
    have q2 : cnt t (l'.erase (Sv.lo l')) ≤ cnt t (l.erase (Sv.lo l)) := by omega
    by_cases c2 : max m (Sv.lo l') + h' ≤ t
    · rw [if_pos c2, if_pos (by omega)]
      omega
    · rw [if_neg c2]
      omega
  · have z := cnt_zero (t := t) (l := l') (by omega)
    rw [cnt_split hl'] at z
    rw [if_neg (by omega : ¬ max m (Sv.lo l') + h' ≤ t)]
    omega
/-- one work less -/
theorem Dom.skip {l l' : List Int} {p : Int × Int} (d : Dom l l') (hl' : 0 < l'.length) (h0 : 0 ≤ p.2) : Dom l (nx l' p) := by
  intro t
  have q := d t
  rw [cnt_nx hl']
  rw [cnt_split hl'] at q
  by_cases c2 : max p.1 (Sv.lo l') + p.2 ≤ t
  · rw [if_pos c2]
    rw [if_pos (by omega)] at q
    exact q
  · rw [if_neg c2]
    omega
/-- pointwise no greater -/
def LeAll : List Int → List Int → Prop
  | [], [] => True
  | a :: x, b :: y => a ≤ b ∧ LeAll x y
  | _, _ => False
theorem LeAll.at : ∀ {x y : List Int} {i : Nat} {a b : Int}, LeAll x y → x[i]? = some a → y[i]? = some b → a ≤ b
  | [], [], i, a, b, _, h, _ => by simp at h
  | a0 :: x, b0 :: y, 0, a, b, ⟨h1, _⟩, e1, e2 => by
    simp at e1 e2
    omega
  | a0 :: x, b0 :: y, i + 1, a, b, ⟨_, h2⟩, e1, e2 => LeAll.at (i := i) h2 (by simpa using e1) (by simpa using e2)
theorem LeAll.len : ∀ {x y : List Int}, LeAll x y → x.length = y.length
  | [], [], _ => rfl
  | _ :: x, _ :: y, ⟨_, h⟩ => by simp [LeAll.len h]
/-- the same works with shorter holds -/
def Shorter : List (Int × Int) → List (Int × Int) → Prop
  | [], [] => True
  | p :: x, q :: y => p.1 = q.1 ∧ 0 ≤ p.2 ∧ p.2 ≤ q.2 ∧ Shorter x y
  | _, _ => False
theorem dom_starts : ∀ {w w' : List (Int × Int)} {l l' : List Int}, Dom l l' → 0 < l.length → 0 < l'.length → Shorter w w' → LeAll (startsE l w) (startsE l' w')
  | [], [], _, _, _, _, _, _ => trivial
  | (m, h) :: w, (m', h') :: w', l, l', d, hl, hl', ⟨e1, e2, e3, e4⟩ => by
    have e1 : m = m' := e1
    subst e1
    have := d.lo hl'
    refine ⟨?_, dom_starts (d.step (m := m) hl hl' e2 e3) (by rw [nx_len]; exact hl) (by rw [nx_len]; exact hl') e4⟩
    show max m (lo l) ≤ max m (lo l')
    omega
theorem shorter_refl : ∀ {w : List (Int × Int)} {l : Int}, GoodFrom l w → Shorter w w
  | [], _, _ => trivial
  | _ :: _, _, ⟨_, _, g3, _, g5⟩ => ⟨rfl, g3, Int.le_refl _, shorter_refl g5⟩
theorem dom_more (c : Nat) : Dom (List.replicate (c + 1) 0) (List.replicate c 0) := fun t => by
  rw [List.replicate_succ, cnt_cons]
  omega
theorem dom_refl (l : List Int) : Dom l l := fun _ => Nat.le_refl _
theorem more_lines {c : Nat} {w : List (Int × Int)} (hc : 0 < c) (g : Good w) : LeAll (starts (c + 1) w) (starts c w) := by
  rw [starts_eq, starts_eq]
  exact dom_starts (dom_more c) (by simp) (by simp; omega) (shorter_refl g)
theorem shorter_holds {c : Nat} {w w' : List (Int × Int)} (hc : 0 < c) (h : Shorter w w') : LeAll (starts c w) (starts c w') := by
  rw [starts_eq, starts_eq]
  exact dom_starts (dom_refl _) (by simp; omega) (by simp; omega) h
/-- without the k-th -/
theorem without : ∀ {w : List (Int × Int)} {l l' : List Int} {m : Int} (k : Nat), Dom l l' → 0 < l.length → 0 < l'.length → GoodFrom m w → k < w.length → LeAll (startsE l (w.eraseIdx k)) ((startsE l' w).eraseIdx k)
  | [], _, _, _, k, _, _, _, _, hk => by simp at hk
  | (p, h) :: w, l, l', m, 0, d, hl, hl', ⟨g1, g2, g3, g4, g5⟩, _ => by
    show LeAll (startsE l w) (startsE (nx l' (p, h)) w)
    exact dom_starts (d.skip hl' g3) hl (by rw [nx_len]; exact hl') (shorter_refl g5)
  | (p, h) :: w, l, l', m, k + 1, d, hl, hl', ⟨g1, g2, g3, g4, g5⟩, hk => by
    have := d.lo hl'
    show LeAll (max p (lo l) :: startsE (nx l (p, h)) (w.eraseIdx k)) (max p (lo l') :: (startsE (nx l' (p, h)) w).eraseIdx k)
    refine ⟨by omega, without k (d.step (m := p) hl hl' g3 (Int.le_refl _)) (by rw [nx_len]; exact hl) (by rw [nx_len]; exact hl') g5 (by simpa using hk)⟩
theorem one_less {c : Nat} {w : List (Int × Int)} (hc : 0 < c) (g : Good w) {k : Nat} (hk : k < w.length) : LeAll (starts c (w.eraseIdx k)) ((starts c w).eraseIdx k) := by
  rw [starts_eq, starts_eq]
  exact without k (dom_refl _) (by simp; omega) (by simp; omega) g hk
/-! ### in turn; no sooner than wanted -/
theorem lo_nx {l : List Int} {p : Int × Int} (h : 0 < l.length) (hp : 0 ≤ p.2) : lo l ≤ lo (nx l p) := by
  have hm := lo_mem (l := nx l p) (by rw [nx_len]; exact h)
  have hm := (nx_perm (p := p) h).mem_iff.mp hm
  rcases List.mem_cons.mp hm with e | e
  · omega
  · exact lo_le (List.mem_of_mem_erase e)
theorem startsE_low : ∀ {w : List (Int × Int)} {l : List Int} {m : Int}, 0 < l.length → GoodFrom m w → ∀ s ∈ startsE l w, max m (lo l) ≤ s
  | [], _, _, _, _, s, hs => by cases hs
  | p :: w, l, m, hl, ⟨g1, g2, g3, g4, g5⟩, s, hs => by
    rcases List.mem_cons.mp hs with e | e
    · omega
    · have h1 := startsE_low (by rw [nx_len]; exact hl) g5 s e
      have h2 := lo_nx (p := p) hl g3
      omega
theorem startsE_sorted : ∀ {w : List (Int × Int)} {l : List Int} {m : Int}, 0 < l.length → GoodFrom m w → (startsE l w).Pairwise (· ≤ ·)
  | [], _, _, _, _ => List.Pairwise.nil
  | p :: w, l, m, hl, ⟨g1, g2, g3, g4, g5⟩ => by
    refine List.Pairwise.cons (fun s hs => ?_) (startsE_sorted (by rw [nx_len]; exact hl) g5)
    have h1 := startsE_low (by rw [nx_len]; exact hl) g5 s hs
    have h2 := lo_nx (p := p) hl g3
    omega
theorem starts_sorted {c : Nat} {w : List (Int × Int)} (hc : 0 < c) (g : Good w) : (starts c w).Pairwise (· ≤ ·) := by
  rw [starts_eq]
  exact startsE_sorted (by simp; omega) g
theorem startsE_wanted : ∀ {w : List (Int × Int)} {l : List Int} {i : Nat} {s : Int} {p : Int × Int}, (startsE l w)[i]? = some s → w[i]? = some p → p.1 ≤ s
  | [], _, _, _, _, h, _ => by simp [startsE] at h
  | q :: w, l, 0, s, p, h, h2 => by
    simp [startsE] at h h2
    subst h2
    omega
  | q :: w, l, i + 1, s, p, h, h2 => startsE_wanted (w := w) (l := nx l q) (i := i) (by simpa [startsE] using h) (by simpa using h2)
theorem starts_wanted {c : Nat} {w : List (Int × Int)} {i : Nat} {s : Int} {p : Int × Int} (h : (starts c w)[i]? = some s) (h2 : w[i]? = some p) : p.1 ≤ s := by
  rw [starts_eq] at h
  exact startsE_wanted h h2
/-! ### so many at most are held at any moment -/
def over (t : Int) (l : List Int) : Nat := l.countP fun x => decide (t < x)
theorem over_perm {t : Int} {a b : List Int} (h : a.Perm b) : over t a = over t b := h.countP_eq _
theorem over_cons {t x : Int} {l : List Int} : over t (x :: l) = over t l + (if t < x then 1 else 0) := by
  unfold over
  rw [List.countP_cons]
  simp
theorem over_nx {t : Int} {l : List Int} {p : Int × Int} (h : 0 < l.length) (ht : lo l ≤ t) : over t (nx l p) = over t l + (if t < max p.1 (lo l) + p.2 then 1 else 0) := by
  rw [over_perm (nx_perm h), over_cons, over_perm (List.perm_cons_erase (lo_mem h)), over_cons, if_neg (by omega : ¬ t < lo l), Nat.add_zero]
/-- who is held at t, of those served by then -/
def heldN (t : Int) : List Int → List (Int × Int) → Nat
  | s :: st, p :: w => (if s ≤ t ∧ t < s + p.2 then 1 else 0) + heldN t st w
  | _, _ => 0
theorem held_late {t : Int} : ∀ {st : List Int} {w : List (Int × Int)}, (∀ s ∈ st, t < s) → heldN t st w = 0
  | [], _, _ => by simp [heldN]
  | s :: st, [], _ => by simp [heldN]
  | s :: st, p :: w, h => by
    have h1 := h s List.mem_cons_self
    show (if s ≤ t ∧ t < s + p.2 then 1 else 0) + heldN t st w = 0
    rw [if_neg (by omega), held_late (w := w) fun s hs => h s (List.mem_cons_of_mem _ hs)]
theorem held_over {t : Int} : ∀ {w : List (Int × Int)} {l : List Int} {m : Int}, 0 < l.length → GoodFrom m w → over t l + heldN t (startsE l w) w ≤ l.length
  | [], l, _, _, _ => by
    show over t l + 0 ≤ l.length
    unfold over
    exact List.countP_le_length
  | p :: w, l, m, hl, ⟨g1, g2, g3, g4, g5⟩ => by
    show over t l + ((if max p.1 (lo l) ≤ t ∧ t < max p.1 (lo l) + p.2 then 1 else 0) + heldN t (startsE (nx l p) w) w) ≤ l.length
    by_cases c : max p.1 (lo l) ≤ t
    · have q := held_over (t := t) (l := nx l p) (by rw [nx_len]; exact hl) g5
      rw [over_nx hl (by omega), nx_len] at q
      have e : (if max p.1 (lo l) ≤ t ∧ t < max p.1 (lo l) + p.2 then 1 else 0) = (if t < max p.1 (lo l) + p.2 then 1 else 0) := by
        by_cases c2 : t < max p.1 (lo l) + p.2
        · rw [if_pos ⟨c, c2⟩, if_pos c2]
        · rw [if_neg (fun z => c2 z.2), if_neg c2]
      rw [e]
      omega
    · rw [if_neg (fun z => c z.1), held_late fun s hs => ?_]
      · unfold over
        have := List.countP_le_length (p := fun x => decide (t < x)) (l := l)
        omega
      · have h1 := startsE_low (by rw [nx_len]; exact hl) g5 s hs
        have h2 := lo_nx (p := p) hl g3
        omega
theorem held_most {c : Nat} {w : List (Int × Int)} (hc : 0 < c) (g : Good w) (t : Int) : heldN t (starts c w) w ≤ c := by
  have q := held_over (t := t) (l := List.replicate c 0) (by simp; omega) g
  rw [List.length_replicate, ← starts_eq] at q
  omega
/-! ### who waits is served as another one ends -/
theorem ends_mem : ∀ {w : List (Int × Int)} {l : List Int} {m : Int} {i : Nat} {s : Int} {p : Int × Int}, 0 < l.length → GoodFrom m w → (startsE l w)[i]? = some s → w[i]? = some p → p.1 < s →
    s ∈ l ∨ ∃ (j : Nat) (s' : Int) (q : Int × Int), j < i ∧ (startsE l w)[j]? = some s' ∧ w[j]? = some q ∧ s' + q.2 = s
  | [], _, _, _, _, _, _, _, h, _, _ => by simp [startsE] at h
  | q :: w, l, m, 0, s, p, hl, _, h, h2, h3 => by
    simp [startsE] at h h2
    subst h2
    refine .inl ?_
    have e : s = lo l := by omega
    rw [e]
    exact lo_mem hl
  | q :: w, l, m, i + 1, s, p, hl, ⟨g1, g2, g3, g4, g5⟩, h, h2, h3 => by
    rcases ends_mem (w := w) (l := nx l q) (i := i) (by rw [nx_len]; exact hl) g5 (by simpa [startsE] using h) (by simpa using h2) h3 with z | ⟨j, s', r, hj, e1, e2, e3⟩
    · rcases List.mem_cons.mp ((nx_perm hl).mem_iff.mp z) with e | e
      · exact .inr ⟨0, max q.1 (lo l), q, by omega, rfl, rfl, e.symm⟩
      · exact .inl (List.mem_of_mem_erase e)
    · exact .inr ⟨j + 1, s', r, by omega, by simpa [startsE] using e1, by simpa using e2, e3⟩
theorem starts_ends {c : Nat} {w : List (Int × Int)} {i : Nat} {s : Int} {p : Int × Int} (hc : 0 < c) (g : Good w) (h : (starts c w)[i]? = some s) (h2 : w[i]? = some p) (h3 : p.1 < s) (h0 : 0 ≤ p.1) :
    ∃ (j : Nat) (s' : Int) (q : Int × Int), j < i ∧ (starts c w)[j]? = some s' ∧ w[j]? = some q ∧ s' + q.2 = s := by
  rw [starts_eq] at h ⊢
  rcases ends_mem (by simp; omega) g h h2 h3 with z | z
  · have := (List.mem_replicate.mp z).2
    omega
  · exact z
theorem good_low0 : ∀ {w : List (Int × Int)} {m : Int}, GoodFrom m w → ∀ p ∈ w, m ≤ p.1
  | [], _, _, _, h => by cases h
  | q :: w, m, ⟨g1, _, _, _, g5⟩, p, h => by
    rcases List.mem_cons.mp h with e | e
    · rw [e]
      exact g1
    · have := good_low0 g5 p e
      omega
/-! ### the fewest fall as the longest wait grows -/
theorem fits_mono {w : List (Int × Int)} {l l' : Int} {c : Nat} (h : l ≤ l') (hf : fits w l c = true) : fits w l' c = true := by
  unfold fits at hf ⊢
  rw [List.all_eq_true] at hf ⊢
  intro j hj
  have q := hf j hj
  unfold late at q ⊢
  cases e1 : w[j]? with
  | none => rfl
  | some p =>
    cases e2 : (starts c w)[j]? with
    | none => rfl
    | some s =>
      rw [e1, e2] at q
      have q : (!decide (l < s - p.1)) = true := q
      show (!decide (l' < s - p.1)) = true
      have q2 : ¬ l < s - p.1 := by simpa using q
      rw [decide_eq_false (by omega)]
      rfl
theorem fewest_is {w : List (Int × Int)} {l : Int} {c : Nat} (h : fewest w l = some c) : 1 ≤ c ∧ c ≤ 8 ∧ fits w l c = true ∧ ∀ d, 1 ≤ d → d < c → fits w l d = false := by
  unfold fewest at h
  rw [List.find?_map, Option.map_eq_some_iff] at h
  obtain ⟨j, hj, rfl⟩ := h
  obtain ⟨h1, h2, h3⟩ := List.find?_range_eq_some.mp hj
  have h2 := List.mem_range.mp h2
  refine ⟨by omega, by omega, h1, fun d hd1 hd2 => ?_⟩
  have q := h3 (d - 1) (by omega)
  have q : (!fits w l (d - 1 + 1)) = true := q
  rw [show d - 1 + 1 = d by omega] at q
  simpa using q
theorem fewest_mono {w : List (Int × Int)} {l l' : Int} {c : Nat} (h : l ≤ l') (hf : fewest w l = some c) : ∃ d, fewest w l' = some d ∧ d ≤ c := by
  obtain ⟨h1, h2, h3, _⟩ := fewest_is hf
  have h4 := fits_mono h h3
  cases e : fewest w l' with
  | none =>
    unfold fewest at e
    rw [List.find?_eq_none] at e
    exact absurd h4 (e c (List.mem_map.mpr ⟨c - 1, List.mem_range.mpr (by omega), by omega⟩))
  | some d =>
    obtain ⟨h5, h6, h7, h8⟩ := fewest_is e
    refine ⟨d, rfl, ?_⟩
    by_cases z : d ≤ c
    · exact z
    · have := h8 c h1 (by omega)
      rw [h4] at this
      cases this
end Sv

namespace Sv
theorem step_eq (s : List Int × List Int) (p : Int × Int) : step s p = (nx s.1 p, s.2 ++ [max p.1 (lo s.1)]) := rfl
/-- the law's own going through moments -/
structure LS (c : Nat) (w : List (Int × Int)) (k : Nat) (bs : List Int) (fo : List Int) (now : Int) : Prop where
  kl : k ≤ w.length
  fo : fo = (run c (w.take k)).2
  ov : ∀ t, now ≤ t → over t bs = over t (run c (w.take k)).1
  nw : ∀ p, w[k]? = some p → now ≤ max p.1 (lo (run c (w.take k)).1)
  bl : bs.length ≤ k
theorem ls0 {c : Nat} {w : List (Int × Int)} (hc : 0 < c) (g : Good w) : LS c w 0 [] [] 0 := by
  have hr : run c (w.take 0) = (List.replicate c 0, []) := rfl
  refine ⟨Nat.zero_le _, rfl, fun t ht => ?_, fun p hp => ?_, Nat.le_refl _⟩
  · rw [hr]
    show 0 = (List.replicate c (0 : Int)).countP _
    rw [List.countP_replicate, if_neg (by simpa using ht)]
  · cases w with
    | nil => exact nomatch hp
    | cons q w =>
      obtain rfl := Option.some.inj hp
      have h1 : 0 ≤ q.1 := g.1
      omega
theorem over_filter {now t : Int} (h : now ≤ t) (l : List Int) : over t (l.filter fun x => decide (now < x)) = over t l := by
  unfold over
  rw [List.countP_filter]
  refine List.countP_congr fun x _ => ?_
  simp only [Bool.and_eq_true, decide_eq_true_eq]
  exact ⟨fun z => z.1, fun z => ⟨z, by omega⟩⟩
theorem over_lo {now : Int} {l : List Int} (hl : 0 < l.length) : over now l < l.length ↔ lo l ≤ now := by
  unfold over
  constructor
  · intro h
    by_cases q : lo l ≤ now
    · exact q
    · have : l.countP (fun x => decide (now < x)) = l.length := List.countP_eq_length.mpr fun x hx => decide_eq_true (by have := lo_le hx; omega)
      omega
  · intro h
    have h2 := List.countP_le_length (p := fun x => decide (now < x)) (l := l)
    rcases Nat.lt_or_eq_of_le h2 with q | q
    · exact q
    · have := of_decide_eq_true (List.countP_eq_length.mp q _ (lo_mem hl))
      omega
theorem good_le {w : List (Int × Int)} : ∀ {l : Int} {k : Nat} {p q : Int × Int}, GoodFrom l w → w[k]? = some p → w[k + 1]? = some q → p.1 ≤ q.1 ∧ 0 ≤ p.2 := by
  induction w with
  | nil => exact fun _ h => nomatch h
  | cons a w ih =>
    intro l k p q g h1 h2
    obtain ⟨_, _, g3, _, g5⟩ := g
    cases k with
    | zero =>
      obtain rfl := Option.some.inj h1
      cases w with
      | nil => exact nomatch h2
      | cons b w =>
        obtain rfl := Option.some.inj h2
        exact ⟨g5.1, g3⟩
    | succ k => exact ih g5 h1 h2
theorem good_hold {w : List (Int × Int)} : ∀ {l : Int} {k : Nat} {p : Int × Int}, GoodFrom l w → w[k]? = some p → 0 ≤ p.2 := by
  induction w with
  | nil => exact fun _ h => nomatch h
  | cons a w ih =>
    intro l k p g h1
    obtain ⟨_, _, g3, _, g5⟩ := g
    cases k with
    | zero =>
      obtain rfl := Option.some.inj h1
      exact g3
    | succ k => exact ih g5 h1
variable {c k : Nat} {w : List (Int × Int)} {bs fo : List Int} {now : Int} {p : Int × Int}
theorem LS.filt (h : LS c w k bs fo now) : LS c w k (bs.filter fun x => decide (now < x)) fo now :=
  ⟨h.kl, h.fo, fun t ht => (over_filter ht bs).trans (h.ov t ht), h.nw, Nat.le_trans (List.length_filter_le _ _) h.bl⟩
/-- one is served -/
theorem LS.go (hc : 0 < c) (g : Good w) (h : LS c w k bs fo now) (hp : w[k]? = some p) (h1 : p.1 ≤ now) (h2 : (bs.filter fun x => decide (now < x)).length < c) : LS c w (k + 1) ((bs.filter fun x => decide (now < x)) ++ [now + p.2]) (fo ++ [now]) now := by
  have hlt := (List.getElem?_eq_some_iff.mp hp).1
  have hL : (run c (w.take k)).1.length = c := run_len
  have hn := h.nw p hp
  have ho : over now (run c (w.take k)).1 < (run c (w.take k)).1.length := by
    rw [← h.ov now (Int.le_refl _), hL]
    have : over now bs = (bs.filter fun x => decide (now < x)).length := List.countP_eq_length_filter
    omega
  have hlo := (over_lo (by omega)).mp ho
  have hm : max p.1 (lo (run c (w.take k)).1) = now := by omega
  have hs := run_more (c := c) hp
  refine ⟨hlt, by rw [hs, step_eq, hm, h.fo], fun t ht => ?_, fun q hq => ?_, by rw [List.length_append]; have := List.length_filter_le (fun x => decide (now < x)) bs; have := h.bl; show _ + 1 ≤ _; omega⟩
  · rw [hs, step_eq]
    show over t (_ ++ [now + p.2]) = over t (nx (run c (w.take k)).1 p)
    rw [over_nx (by omega) (by omega), hm]
    show List.countP _ (_ ++ [now + p.2]) = _
    rw [List.countP_append]
    have e1 := (over_filter ht bs).trans (h.ov t ht)
    have e2 : List.countP (fun x => decide (t < x)) [now + p.2] = if t < now + p.2 then 1 else 0 := by
      rw [List.countP_singleton]
      simp
    rw [e2]
    exact congrArg (· + _) e1
  · rw [hs, step_eq]
    obtain ⟨g1, g2⟩ := good_le g hp hq
    have h3 := lo_nx (l := (run c (w.take k)).1) (p := p) (by omega) g2
    show now ≤ max q.1 (lo (nx (run c (w.take k)).1 p))
    omega
/-- the next moment -/
theorem LS.wait (hc : 0 < c) (h : LS c w k bs fo now) (hp : w[k]? = some p) (h2 : ¬ (p.1 ≤ now ∧ (bs.filter fun x => decide (now < x)).length < c)) : LS c w k (bs.filter fun x => decide (now < x)) fo (now + 1) := by
  have hL : (run c (w.take k)).1.length = c := run_len
  refine ⟨h.kl, h.fo, fun t ht => (over_filter (by omega) bs).trans (h.ov t (by omega)), fun q hq => ?_, Nat.le_trans (List.length_filter_le _ _) h.bl⟩
  rw [hp] at hq
  obtain rfl := Option.some.inj hq
  by_cases q : p.1 ≤ now
  · have h3 : ¬ over now (run c (w.take k)).1 < (run c (w.take k)).1.length := by
      rw [← h.ov now (Int.le_refl _), hL]
      have : over now bs = (bs.filter fun x => decide (now < x)).length := List.countP_eq_length_filter
      intro z
      exact h2 ⟨q, by omega⟩
    have h4 := mt (over_lo (now := now) (l := (run c (w.take k)).1) (by omega)).mpr h3
    omega
  · omega
/-- so late is nobody served -/
theorem low_run {B : Int} : ∀ (k : Nat), (∀ s ∈ starts c w, s ≤ B) → ∀ p, w[k]? = some p → max p.1 (lo (run c (w.take k)).1) ≤ B := fun k hB p hp => by
  refine hB _ ?_
  have e : (starts c w)[k]? = some (max p.1 (lo (run c (w.take k)).1)) := by
    have e1 : w = w.take (k + 1) ++ w.drop (k + 1) := (List.take_append_drop _ _).symm
    have hlt := (List.getElem?_eq_some_iff.mp hp).1
    unfold starts
    have e2 : (run c w).2 = (run c (w.take (k + 1))).2 ++ ((w.drop (k + 1)).foldl step ((run c (w.take (k + 1))).1, [])).2 := by
      unfold run
      conv => lhs; rw [e1, List.foldl_append]
      rw [foldl_starts, foldl_starts, foldl_starts (w.drop (k + 1)) (_, [])]
      rfl
    rw [e2, run_more hp, step_eq]
    have hl2 : (run c (w.take k)).2.length = k := by
      unfold run
      rw [run_len2, List.length_take]
      simp
      omega
    rw [List.getElem?_append_left (by rw [List.length_append, hl2]; exact Nat.lt_succ_self k), List.getElem?_append_right (by omega), hl2, Nat.sub_self]
    rfl
  exact List.mem_of_getElem? e
/-- nobody waits longer, by the longest wait -/
theorem fits_long {l z : Int} (h0 : 0 ≤ l) (hz : z ∈ (0 : Int) :: (List.zip (starts c w) w).map fun q => q.1 - q.2.1) (hm : ∀ y ∈ (0 : Int) :: (List.zip (starts c w) w).map fun q => q.1 - q.2.1, y ≤ z) : decide (z ≤ l) = fits w l c := by
  have key : fits w l c = true ↔ ∀ q ∈ List.zip (starts c w) w, q.1 - q.2.1 ≤ l := by
    unfold fits
    rw [List.all_eq_true]
    constructor
    · intro h q hq
      obtain ⟨j, hj⟩ := List.mem_iff_getElem?.mp hq
      rw [List.getElem?_zip_eq_some] at hj
      have hlt := (List.getElem?_eq_some_iff.mp hj.2).1
      have h1 := h j (List.mem_range.mpr hlt)
      unfold late at h1
      rw [hj.1, hj.2] at h1
      simp at h1
      omega
    · intro h j hj
      have hlt := List.mem_range.mp hj
      have hs : (starts c w)[j]? = some ((starts c w)[j]'(by rw [starts_len]; exact hlt)) := List.getElem?_eq_getElem _
      have hw : w[j]? = some (w[j]'hlt) := List.getElem?_eq_getElem _
      have h1 := h ((starts c w)[j]'(by rw [starts_len]; exact hlt), w[j]'hlt) (List.mem_iff_getElem?.mpr ⟨j, List.getElem?_zip_eq_some.mpr ⟨hs, hw⟩⟩)
      unfold late
      rw [hs, hw]
      simp
      omega
  by_cases q : fits w l c = true
  · rw [q]
    refine decide_eq_true ?_
    rcases List.mem_cons.mp hz with rfl | hz
    · exact h0
    · obtain ⟨x, hx, rfl⟩ := List.mem_map.mp hz
      exact key.mp q x hx
  · rw [Bool.not_eq_true] at q
    rw [q]
    refine decide_eq_false fun h1 => ?_
    have := key.mpr fun x hx => Int.le_trans (hm _ (List.mem_cons_of_mem _ (List.mem_map.mpr ⟨x, hx, rfl⟩))) h1
    rw [q] at this
    exact nomatch this
end Sv

namespace L2
open PySem PySem.Spec PyProof.Rows
/-! ### own exception classes with an own __init__ that calls the base class's -/
/-- what is looked at of the base class -/
structure LeC (K : PySem.W.Frag) (mg : Str → Option Value) (D : Addr) : Prop where
  g : mg "LentError" = some (.ref D)
  k : PySem.W.keepIn K (.ref D) = true
  s : PySem.W.specialIn K (.ref D) "__getattribute__" = some (some (.builtin "type.__getattribute__"))
  r : PySem.W.readsIn K D (.type "type") = true
  i : PySem.W.findCls K (.ref D) (.type "type") "__init__" = some (.val (.builtin "ValueError.__init__"))
theorem pe_leI {X : Cx} {D : Addr} {u : Expr} {us : List Expr} {tu : TA} {q1 q2 q3 : Pos} {plain : Sem Bool} (L : LeC X.K X.mg D) (hG : Gl X "LentError") (hU : PA X (u :: us) tu)
    (hE : eval (.Call (.Attribute (.Name "LentError" q1) "__init__" q2) (u :: us) [] q3) X.env = (do
      let self0 ← eval (.Name "LentError" q1) X.env
      standAt q2.atName
      let (fn, fst) ← holding [self0] (getMethod self0 "__init__" plain)
      callWith q3 fn fst (backTo q3 (starEach (u :: us) X.env)) (backToKw q3 (keywordEach [] X.env))) := by rfl)
    (hN : starEach (u :: us) X.env = (false, eval u X.env) :: starEach us X.env := by rfl) (hA : (backTo q3 (starEach us X.env)).any (·.1) = false := by rfl) :
    PE X (.Call (.Attribute (.Name "LentError" q1) "__init__" q2) (u :: us) [] q3) (tVeI X.K tu) := by
  refine ⟨fun pins s σ H Q I h => ?_⟩
  refine PySem.W.methodCall_KW (ld_glob I hG L.g ?_ (by decide)) hE
  refine PySem.W.method_cls I.kIn L.s ?_
  refine PySem.W.cls_value I.kIn L.r L.i (by decide +kernel) ?_
  refine PyProof.Rows.callWith_method1 (thn (hU.run q3 pins _ σ H _ (I.tok _) h) fun ws s2 hh => ?_) hN hA
  obtain ⟨vs, H2, J, rel, x, E, zs, rfl, hz, T, hx, hq⟩ := hh
  cases rel with
  | @cons _ w0 _ wr r1 r2 =>
    obtain rfl : w0 = Value.ref x := r1
    have hw : wr.length ≤ sizeLine := by
      have := Paired.length r2
      rw [sizeLine_eq]
      omega
    exact oinit_ok T J hx hw fun s' J' => ⟨.non, H2, J', rfl, hq⟩
/-- a class of exceptions with an own __init__(self, x) that keeps x as f -/
def spOx (K : PySem.W.Frag) (C : Addr) (f : Str) : Sp := fun vs H Q _ => ∃ (a : Addr) (v : V), vs = [.ref a, v] ∧ H a = some (exo a C none) ∧ ∀ dx, H dx = none → dx ≠ a → Q .non (upd (upd H dx (exd dx [(f, v)])) a (exo a C (some dx)))
end L2
namespace Ll
open PySem PySem.Spec PyProof.Rows L2
structure OxG (P : Program) (w : World) (K : PySem.W.Frag) (mg : Str → Option Value) (base : Heap) (x : Str) (C : Addr) (p f : Str) : Prop where
  g : mg x = some (.ref C)
  o : OexC K C
  r : ∃ (fI : Addr) (fd : FuncData), PySem.W.findIn K (.ref C) "__init__" = some (some (.ref fI)) ∧ PySem.W.typeIn K (.ref fI) = some (.type "function") ∧ FnOk P w K mg base CX0 1 fI fd ["self", p] (spOx K C f) ∧ Binds K fd ["self", p] []
section
variable {X : Cx} {W : WX} {C : Addr} {x p f : Str} {e : Expr} {te : TE} {p1 p2 p3 : Pos}
/-- raise C(e): an exception with e's value as its f -/
theorem ps_raiseO (tk : Takes X W) (G : OxG X.prog X.w X.K X.mg X.base x C p f) (hr : Room 2 X.A) (hg : Gl X x) (he : PE X e te) (hc : X.calm = true := by rfl) (hdb : (x == ("__debug__" : Str)) = false := by decide)
    (hN : starEach [e] X.env = (false, eval e X.env) :: starEach [] X.env := by rfl) (hA : (backTo p2 (starEach [] X.env)).any (·.1) = false := by rfl) :
    PS X (.Raise (some (.Call (.Name x p1) [e] [] p2)) none p3) (fun _ σ H => tMkO C (spOx X.K C f) [] (tCons te tNil) σ H fun cls d H' => W cls d σ H') := by
  obtain ⟨fI, fd, iC, tI, F, hb⟩ := G.r
  exact ps_raise hc tk (pmk_oex (X := X) (x := x) G.o iC tI F hr hb .nil pass0 hg G.g (pa_cons he pa_nil (hs := hN)) hdb hN hA)
end
theorem goOx {K : PySem.W.Frag} {C : Addr} {f : Str} {v : V} {H1 : Hp} {Q : XK} (k : ∀ d H', H1 d = none → Same H1 H' → H' d = some (.xd [(f, v)]) → Q (.ref C) (some d) H') :
    [v].length ≤ 1000 ∧ ∀ a, H1 a = none → spOx K C f (.ref a :: ([v] ++ [])) (upd H1 a (exo a C none)) (fun u H2 => u = .non ∧ ∃ (d : Addr) (fs : List (Str × V)), H2 a = some (exo a C (some d)) ∧ H2 d = some (exd d fs) ∧ H1 d = none ∧ Q (.ref C) (some d) (upd (del H2 a) d (.xd fs))) (fun _ _ _ => False) := by
  refine ⟨Nat.le_of_ble_eq_true rfl, fun a na => ⟨a, v, rfl, upd_same, fun dx ndx hne => ?_⟩⟩
  rw [upd_ne hne] at ndx
  refine ⟨rfl, dx, [(f, v)], upd_same, by rw [upd_ne hne, upd_same], ndx, k dx _ ndx (fun b o hb => ?_) upd_same⟩
  have h1 : b ≠ dx := fun z => by
    rw [z, ndx] at hb
    exact nomatch hb
  have h2 : b ≠ a := fun z => by
    rw [z, na] at hb
    exact nomatch hb
  rw [upd_ne h1, del_ne h2, upd_ne h2, upd_ne h1, upd_ne h2]
  exact hb
end Ll
namespace L2
open PySem PySem.Spec PyProof.Rows
/-! ### isinstance of a caught exception that may have data -/
def rIsQ (K : PySem.W.Frag) (D a : Addr) (d : Option Addr) : List V → Hp → VK → Prop := fun xs H Q => ∃ (c : V) (cv : Value) (b : Bool), xs = [.ref a, c] ∧ (∀ u, RelV c u → u = cv) ∧ PySem.W.kitOne K (.ref D) cv = some b ∧ (d = none ∨ ∃ (dd : Addr) (fs : List (Str × V)), d = some dd ∧ H dd = some (.xd fs)) ∧ Q (.bl b) H
theorem call_isQ {X : Cx} {a D : Addr} {oe : Obj} {d : Option Addr} {pn : List (Addr × Obj)} (C : ExcC X.K D) (hz : Zc (.ref D) d oe) (hf : ∃ vs, oe.data = .fields vs) : CallR (X.suite a ((a, oe) :: pn)) (.builtin "isinstance") (rIsQ X.K D a d) := by
  intro pins s σ H xs us Q I rel h
  obtain ⟨c, cv, b, rfl, hc, hk, hd, hq⟩ := h
  obtain ⟨w1, w2, rfl, e1, e2⟩ : ∃ w1 w2, us = [w1, w2] ∧ w1 = Value.ref a ∧ RelV c w2 := by
    cases rel with
    | cons r1 r2 => cases r2 with
      | cons r3 r4 =>
        cases r4
        exact ⟨_, _, rfl, r1, r3⟩
  obtain rfl := hc _ e2
  subst e1
  have hp := (I.pin (a, oe) (List.mem_append_left _ List.mem_cons_self)).1
  obtain ⟨fv, hfv⟩ := hf
  have nc : PySem.W.notCls oe = true := by unfold PySem.W.notCls; rw [hfv] <;> rfl
  have J : ∃ od, PySem.W.InstAt s.heap a oe D od := by
    rcases hd with rfl | ⟨dd, fs, rfl, hx⟩
    · refine ⟨none, hp, hz.1, nc, ?_⟩
      rw [hz.2]
      trivial
    · have hx2 : ObjOk X.prog X.w H s.heap dd (.xd fs) := I.hok dd _ hx
      obtain ⟨mA, ns, _⟩ := hx2
      obtain ⟨od, ho, _⟩ := lookIn_ns ns
      refine ⟨some od, hp, hz.1, nc, ?_⟩
      rw [hz.2]
      exact ho
  obtain ⟨od, J⟩ := J
  obtain ⟨cd, hcd, _⟩ := PySem.W.any_some C.hd
  have Z := PySem.W.kitx_exc (x := a) (ox := oe) (od := od) (by rw [hcd]; rfl) C.hg C.hk C.hs C.ha C.hn C.ht C.hm
  exact PySem.W.kia_one Z I.kIn J hk (fun z => nomatch z) fun t2 => ⟨.bl b, H, I.kept (t' := t2) fun _ _ z => z, rfl, hq⟩
end L2

namespace Ll
open PySem PySem.Spec PySem.Calls PyProof.Rows L2
/-! ### a lambda with one parameter that has a default -/
abbrev lamF (q : Str) (ps : Arguments) (b : Expr) (sc : Scope) (cl : List (Str × Addr)) (pm cdv ct dv : Value) : FuncData := { PySem.W.kla_fn "<lambda>" q ps b sc cl pm cdv ct with defaults := dv }
abbrev lamO (q : Str) (ps : Arguments) (b : Expr) (sc : Scope) (cl : List (Str × Addr)) (pm cdv ct dv : Value) : Obj := { cls := .type "function", data := .func (lamF q ps b sc cl pm cdv ct dv) }
section
variable {M : Model} {A : Around} {E : Value → Shared → Prop} {s : Shared} {q : Str} {pr : Arguments} {body : Expr} {scope : Scope} {env : Env} {c P : Addr} {dv : Value} {ps : Array Value} {pos : Pos} {fl : Nat} {mg : Str → Option Value} {c0 : Str × Addr} {cr : List (Str × Addr)} {Q : Value → Shared → Prop}
/-- the end of its making: the code object is new, or found -/
theorem lam_tail (hcl : closureFor scope env = pure (c0 :: cr)) (hgl : env.globals = mainGlobals) (hg : s.heap.Ns mainGlobals mg) (hcode : env.code = .ref c) (C : PySem.W.CodeHd s.heap c P) (hP : s.heap.get? P = some (PySem.W.tabObj ps)) (ht : TriplesOk ps.toList) (hgP : mainGlobals ≠ P) (hb : s.heap.BuiltinsAt mg P)
    (new : codeAmong pos ps.toList = none → ∀ (c' : Addr) (ct : Value) (h' : Heap) (tk : Tok), Heap.ExtBut P s.heap h' → s.heap.objs.size ≤ c' → c' < h'.objs.size → h'.CodeRec (.ref c') q → h'.get? P = some (PySem.W.tabObj (ps ++ #[rawInt pos.line, rawInt pos.col, .ref c'])) →
      Q (.ref h'.objs.size) { s with heap := h'.push (lamO q pr body scope (c0 :: cr) ((mg "__name__").getD .none) (.ref c') ct dv), toks := tk })
    (old : ∀ cv, codeAmong pos ps.toList = some cv → ∀ (ct : Value) (h' : Heap) (tk : Tok), (∀ b o, s.heap.get? b = some o → h'.get? b = some o) → s.heap.objs.size ≤ h'.objs.size → Q (.ref h'.objs.size) { s with heap := h'.push (lamO q pr body scope (c0 :: cr) ((mg "__name__").getD .none) cv ct dv), toks := tk }) :
    wpAny M A (makeTail "<lambda>" q pr (.expr body) scope env dv .none none pos fl) Q E s := by
  obtain ⟨bm, ob, b1, b2, _, b3, b4, b5, b6, b7⟩ := hb
  have up : ∀ (o : Obj) b u, s.heap.get? b = some u → (s.heap.push o).get? b = some u := fun o b u e => Heap.get?_push_of_some _ e
  unfold makeTail
  rw [hcl, hgl]
  refine wpAny_bind (wpAny_pure ?_)
  simp only [List.isEmpty_cons, Bool.false_eq_true, if_false]
  refine wpAny_bind (wpAny_newTextTuple ?_)
  have C2 := fun o => C.keeps (up o)
  cases hc : codeAmong pos ps.toList with
  | none =>
    refine wpAny_bind (wpAny_functionCodeX hcode ((C2 _).code (up _ _ _ hP) ht) ((C2 _).tab (up _ _ _ hP)) hc fun c' h' tk x1 x2 x3 _ x4 x5 _ => ?_)
    have g2 := (hg.push _).extBut x1 hgP
    have y1 : Heap.ExtBut P s.heap h' := fun b o nb e => x1 b o nb (up _ _ _ e)
    have y2 : s.heap.objs.size ≤ c' := Nat.le_trans (by rw [Heap.size_push]; exact Nat.le_succ _) x2
    refine wpAny_bind (wpAny_builtinsFor g2 b1 b2 (y1 _ _ b3 b4) b5 b6 b7 (wpAny_bind (wpAny_nsGet g2 ?_)))
    exact wpAny_bind (wpAny_pure (wpAny_newObj_type (new hc c' _ h' tk y1 y2 x3 x4 x5.2) (by size_fits)))
  | some cv =>
    refine wpAny_bind (wpAny_functionCode_hit hcode ((C2 _).code (up _ _ _ hP) ht) hc ?_)
    have g2 := hg.push { cls := .type "tuple", data := .seq ((((c0 :: cr).mergeSort fun a b => a.1.cps.toList ≤ b.1.cps.toList).map (Value.ref ·.2)).toArray) }
    refine wpAny_bind (wpAny_builtinsFor g2 b1 b2 (up _ _ _ b4) b5 b6 b7 (wpAny_bind (wpAny_nsGet g2 ?_)))
    exact wpAny_bind (wpAny_pure (wpAny_newObj_type (old cv hc _ _ s.toks (up _) (by rw [Heap.size_push]; exact Nat.le_succ _)) (by size_fits)))
end
/-! ### tables of code objects, as a part -/
@[irreducible] def tabA (T : List (Addr × Str)) : Asr where
  P := fun F H => (∀ p ∈ T, F p.1 ∧ ∃ ps : Array Value, H p.1 = some (.tbl ps) ∧ TriplesOk ps.toList ∧ ∀ (pos : Pos) (cv : Value), codeAmong pos ps.toList = some cv → ∃ c, cv = .ref c ∧ F c ∧ H c = some (LamX.CodeO c p.2)) ∧ ∀ b, F b → H b ≠ none
  st := fun {F H H'} ⟨h1, h2⟩ k _ => ⟨fun p hp => by
    obtain ⟨f, ps, a, b, c⟩ := h1 p hp
    exact ⟨f, ps, k _ _ a f, b, fun pos cv e => by
      obtain ⟨c', e1, e2, e3⟩ := c pos cv e
      exact ⟨c', e1, e2, k _ _ e3 e2⟩⟩, fun b f => by
    cases q : H b with
    | none => exact absurd q (h2 b f)
    | some o =>
      rw [k b o q f]
      exact fun z => nomatch z⟩
  al := fun ⟨_, h⟩ f => h _ f
theorem Sep.tabs {T : List (Addr × Str)} {R : List Asr} {H : Hp} (h : Sep (tabA T :: R) H) : LamX.Tabs T H := fun p hp => by
  unfold tabA at h
  obtain ⟨U, F, V, ⟨a, _⟩, _⟩ := h
  obtain ⟨_, ps, h1, h2, h3⟩ := a p hp
  exact ⟨ps, h1, h2, fun pos cv e => by
    obtain ⟨c, e1, _, e3⟩ := h3 pos cv e
    exact ⟨c, e1, e3⟩⟩
/-- at the beginning: all are empty -/
theorem Sep.tab0 {T : List (Addr × Str)} {H : Hp} (h : ∀ p ∈ T, H p.1 = some (.tbl #[])) : Sep [tabA T] H := by
  unfold tabA
  refine ⟨fun b => ∃ p ∈ T, b = p.1, fun b => ∃ p ∈ T, b = p.1, fun _ => False, ⟨fun p hp => ⟨⟨p, hp, rfl⟩, #[], h p hp, True.intro, fun pos cv e => by simp [codeAmong] at e⟩, ?_⟩, fun _ z => z, fun _ _ z => z, fun b => ⟨.inl, fun z => z.elim id (fun y => y.elim)⟩⟩
  rintro b ⟨p, hp, rfl⟩
  rw [h p hp]
  exact fun z => nomatch z
/-- one more code object -/
theorem Sep.tabStep {T : List (Addr × Str)} {R : List Asr} {H : Hp} {P c' : Addr} {q : Str} {ps : Array Value} {pos : Pos} (h : Sep (tabA T :: R) H) (hm : (P, q) ∈ T) (hu : ∀ p ∈ T, p.1 = P → p.2 = q) (hP : H P = some (.tbl ps)) (ht : TriplesOk ps.toList) (nC : H c' = none) :
    Sep (tabA T :: R) (upd (upd H P (.tbl (ps ++ #[rawInt pos.line, rawInt pos.col, .ref c']))) c' (LamX.CodeO c' q)) := by
  unfold tabA at h ⊢
  obtain ⟨U, F, V, ⟨a, hal⟩, r, d, u⟩ := h
  have hFP := (a _ hm).1
  have eL : (ps ++ #[rawInt pos.line, rawInt pos.col, .ref c']).toList = ps.toList ++ [rawInt pos.line, rawInt pos.col, .ref c'] := by simp
  have nP : c' ≠ P := fun z => by
    rw [z, hP] at nC
    exact nomatch nC
  have fr1 : Fr F H (upd H P (.tbl (ps ++ #[rawInt pos.line, rawInt pos.col, .ref c']))) := Fr.at (fun o z => by
    rw [hP] at z
    cases z
    exact fun y => y) hFP
  have fr2 : Fr F (upd H P (.tbl (ps ++ #[rawInt pos.line, rawInt pos.col, .ref c']))) (upd (upd H P (.tbl (ps ++ #[rawInt pos.line, rawInt pos.col, .ref c']))) c' (LamX.CodeO c' q)) := Fr.new (by rw [upd_ne nP]; exact nC)
  have kc : ∀ {b : Addr} {o : HO}, H b = some o → b ≠ P → upd (upd H P (.tbl (ps ++ #[rawInt pos.line, rawInt pos.col, .ref c']))) c' (LamX.CodeO c' q) b = some o := fun e n => by
    rw [upd_ne (ne_of_none e nC), upd_ne n]
    exact e
  have kC : ∀ {c : Addr} {x : Str}, H c = some (LamX.CodeO c x) → upd (upd H P (.tbl (ps ++ #[rawInt pos.line, rawInt pos.col, .ref c']))) c' (LamX.CodeO c' q) c = some (LamX.CodeO c x) := fun {c x} e => kc e fun z => by
    rw [z, hP] at e
    exact LamX.codeO_ne _ (Option.some.inj e).symm
  refine ⟨fun b => (F b ∨ b = c') ∨ V b, fun b => F b ∨ b = c', V, ⟨fun p hp => ?_, fun b f => ?_⟩, Sep.fr r d (fr1.trans fr2), fun b z v => z.elim (fun f => d b f v) (fun e => r.al v (e ▸ nC)), fun _ => Iff.rfl⟩
  · obtain ⟨f, qs, a1, a2, a3⟩ := a p hp
    refine ⟨.inl f, ?_⟩
    by_cases hb : p.1 = P
    · rw [hu p hp hb, hb]
      rw [hb] at a1
      obtain rfl : ps = qs := by
        have := hP.symm.trans a1
        injection this with this
        injection this
      refine ⟨_, (upd_ne nP.symm).trans upd_same, by rw [eL]; exact PySem.TriplesOk_snoc _ _ _ _ ht, fun p' w hw => ?_⟩
      rw [eL] at hw
      rcases LamX.among_app _ ht hw with y | y
      · obtain ⟨c3, y1, y2, y3⟩ := a3 p' w y
        rw [hu p hp hb] at y3
        exact ⟨c3, y1, .inl y2, kC y3⟩
      · exact ⟨c', y, .inr rfl, upd_same⟩
    · exact ⟨qs, kc a1 hb, a2, fun p' w hw => by
        obtain ⟨c3, y1, y2, y3⟩ := a3 p' w hw
        exact ⟨c3, y1, .inl y2, kC y3⟩⟩
  · rcases f with f | rfl
    · by_cases hb : b = P
      · rw [hb, upd_ne nP.symm, upd_same]
        exact fun z => nomatch z
      · cases q2 : H b with
        | none => exact absurd q2 (hal b f)
        | some o =>
          rw [kc q2 hb]
          exact fun z => nomatch z
    · rw [upd_same]
      exact fun z => nomatch z
def SepT (T : List (Addr × Str)) (H H1 : Hp) : Prop := ∀ R, Sep (tabA T :: R) H → Sep (tabA T :: R) H1
section
variable {X : Cx} {pins : List (Addr × Obj)} {σ : L2.St} {H : Hp} {s : Shared}
/-- the code object, then the lambda -/
theorem lam_core {T : List (Addr × Str)} {c P : Addr} {pr : Arguments} {body : Expr} {scope : Scope} {pos : Pos} {fl : Nat} {dv : Value} {E : Value → Shared → Prop} {Q : Value → Shared → Prop} {H2 : Hp} {s2 : Shared} (I2 : Inv X pins σ H2 s2) (TB : LamX.TabB X.base X.mg c P) (hcode : X.env.code = .ref c)
    (hm : (P, X.env.qual ++ "<lambda>") ∈ T) (hu : ∀ p ∈ T, p.1 = P → p.2 = X.env.qual ++ "<lambda>") (T2 : LamX.Tabs T H2)
    (hfree : ∀ y ∈ scope.names, y.2 = .free → ∃ c, X.env.cells.lookup y.1 = some c) (hne : cloFrom X.env.cells scope.names [] ≠ [])
    (h : ∀ (f c' : Addr) (pm ct : Value) (H1 : Hp) (s' : Shared), Inv X pins σ H1 s' → SepT T H2 H1 → LamX.ExtN H2 H1 → s'.heap.get? f = some (lamO (X.env.qual ++ "<lambda>") pr body scope (cloFrom X.env.cells scope.names []) pm (.ref c') ct dv) → H1 f = none → f ∉ frs X.stack →
      H1 c' = some (LamX.CodeO c' (X.env.qual ++ "<lambda>")) → Q (.ref f) s') : wpAny (model X.prog X.w) X.A (makeTail "<lambda>" (X.env.qual ++ "<lambda>") pr (.expr body) scope X.env dv .none none pos fl) Q E s2 := by
  obtain ⟨c0, cr, hcc⟩ : ∃ c0 cr, cloFrom X.env.cells scope.names [] = c0 :: cr := by
    cases e : cloFrom X.env.cells scope.names [] with
    | nil => exact absurd e hne
    | cons a b => exact ⟨a, b, rfl⟩
  have hcl := closure_ok hfree
  rw [hcc] at hcl h
  obtain ⟨ps, hP, ht, ha⟩ := T2 _ hm
  have fresh : ∀ f, s2.heap.objs.size ≤ f → f ∉ frs X.stack := fun f hf zz => by
    rcases List.mem_cons.mp (I2.stkSub _ zz) with e | e
    · have := I2.lt
      rw [← e] at this
      exact absurd hf (Nat.not_le_of_lt this)
    · exact I2.nofs hf e
  refine lam_tail hcl I2.ok.glob (I2.mod.glob.keeps I2.bk) hcode (TB.code.keeps I2.bk) (I2.hok P _ hP) ht TB.gP (TB.bm.keeps I2.bk) (fun hc c' ct h' tk hx1 hge hlt hrec htb => ?_) (fun cv hc ct h' tk hx1 hsz => ?_)
  · obtain ⟨c2, oc, vs, tq, e2, hoc, hdat, hv⟩ := hrec
    cases e2
    have nC : H2 c' = none := I2.hok.fresh hge
    have I3 := LamX.inv_table (t' := tk) (more := #[rawInt pos.line, rawInt pos.col, .ref c']) (h' := h'.push (lamO (X.env.qual ++ "<lambda>") pr body scope (c0 :: cr) ((X.mg "__name__").getD .none) (.ref c') ct dv)) I2 hP
      (fun b o nb e => Heap.get?_push_of_some _ (hx1 b o nb e)) (Heap.get?_push_of_some _ htb) hge ⟨oc, vs, tq, Heap.get?_push_of_some _ hoc, hdat, hv⟩
    have kN : LamX.ExtN H2 (upd (upd H2 P (.tbl (ps ++ #[rawInt pos.line, rawInt pos.col, .ref c']))) c' (LamX.CodeO c' (X.env.qual ++ "<lambda>"))) := fun b o e n => by
      rw [upd_ne (ne_of_none e nC), upd_ne fun zz => n ps (Option.some.inj ((zz ▸ e).symm.trans hP))]
      exact e
    refine h h'.objs.size c' _ ct _ _ I3 (fun R hS => hS.tabStep hm hu hP ht nC) kN (Heap.get?_push_size _ rfl) ?_ (fresh _ (Nat.le_trans hge (Nat.le_of_lt hlt))) upd_same
    have m1 : h'.objs.size ≠ c' := Nat.ne_of_gt hlt
    have m2 : h'.objs.size ≠ P := Nat.ne_of_gt (Nat.lt_of_lt_of_le (Heap.lt_size (I2.hok P _ hP)) (Nat.le_trans hge (Nat.le_of_lt hlt)))
    rw [upd_ne m1, upd_ne m2]
    exact I2.hok.fresh (Nat.le_trans hge (Nat.le_of_lt hlt))
  · obtain ⟨c', rfl, hco⟩ := ha pos cv hc
    have I3 : Inv X pins σ H2 { s2 with heap := h'.push (lamO (X.env.qual ++ "<lambda>") pr body scope (c0 :: cr) ((X.mg "__name__").getD .none) (.ref c') ct dv), toks := tk } := I2.kept fun b o e => Heap.get?_push_of_some _ (hx1 b o e)
    exact h h'.objs.size c' _ ct H2 _ I3 (fun _ h => h) (LamX.ExtN.refl _) (Heap.get?_push_size _ rfl) (I2.hok.fresh hsz) (fresh _ hsz) hco
/-- without parameters -/
theorem lam_makeP {T : List (Addr × Str)} {c P : Addr} {pr : Arguments} {body : Expr} {scope : Scope} {pos : Pos} {E : Value → Shared → Prop} {Q : Value → Shared → Prop} (I : Inv X pins σ H s) (TB : LamX.TabB X.base X.mg c P) (hcode : X.env.code = .ref c)
    (hm : (P, X.env.qual ++ "<lambda>") ∈ T) (hu : ∀ p ∈ T, p.1 = P → p.2 = X.env.qual ++ "<lambda>") (hT : LamX.Tabs T H) (hdef : defaultsOf pr X.env = ([], []))
    (hfree : ∀ y ∈ scope.names, y.2 = .free → ∃ c, X.env.cells.lookup y.1 = some c) (hne : cloFrom X.env.cells scope.names [] ≠ [])
    (h : ∀ (f c' : Addr) (pm ct : Value) (H1 : Hp) (s' : Shared), Inv X pins σ H1 s' → SepT T H H1 → s'.heap.get? f = some (lamO (X.env.qual ++ "<lambda>") pr body scope (cloFrom X.env.cells scope.names []) pm (.ref c') ct .none) → H1 f = none → f ∉ frs X.stack →
      H1 c' = some (LamX.CodeO c' (X.env.qual ++ "<lambda>")) → Q (.ref f) s') : wpAny (model X.prog X.w) X.A (eval (.Lambda pr body scope pos) X.env) Q E s := by
  refine PySem.W.kla_eval hdef ?_
  rw [makeFunction_eq]
  simp only [List.zip_nil_right, List.filterMap_nil, List.isEmpty_nil, if_true, pure_bind]
  exact lam_core I TB hcode hm hu hT hfree hne fun f c' pm ct H1 s' I1 hS _ a b c d => h f c' pm ct H1 s' I1 hS a b c d
/-- with one that has a default -/
theorem lam_makeD {T : List (Addr × Str)} {c P : Addr} {pr : Arguments} {body dx : Expr} {scope : Scope} {pos : Pos} {z : Int} {E : Value → Shared → Prop} {Q : Value → Shared → Prop} (I : Inv X pins σ H s) (TB : LamX.TabB X.base X.mg c P) (hcode : X.env.code = .ref c)
    (hm : (P, X.env.qual ++ "<lambda>") ∈ T) (hu : ∀ p ∈ T, p.1 = P → p.2 = X.env.qual ++ "<lambda>") (hT : LamX.Tabs T H) (hdef : defaultsOf pr X.env = ([eval dx X.env], [])) (hd : PE X dx (tC (.int z)))
    (hfree : ∀ y ∈ scope.names, y.2 = .free → ∃ c, X.env.cells.lookup y.1 = some c) (hne : cloFrom X.env.cells scope.names [] ≠ [])
    (h : ∀ (f c' dt : Addr) (pm ct : Value) (H1 : Hp) (s' : Shared), Inv X pins σ H1 s' → SepT T H H1 → H1 dt = some (.tup [.int z]) → s'.heap.get? f = some (lamO (X.env.qual ++ "<lambda>") pr body scope (cloFrom X.env.cells scope.names []) pm (.ref c') ct (.ref dt)) → H1 f = none → f ∉ frs X.stack →
      H1 c' = some (LamX.CodeO c' (X.env.qual ++ "<lambda>")) → Q (.ref f) s')
    (hx : ∀ e s', X.xe e s' → E e s') : wpAny (model X.prog X.w) X.A (eval (.Lambda pr body scope pos) X.env) Q E s := by
  rw [arm_eval_Lambda, hdef]
  refine wpAny_bind ?_
  unfold evalAll evalAll
  refine wpAny_bind (wpAny_mono (hd.run pins s σ H (fun w H' => w = .int z ∧ H = H') I ⟨rfl, rfl⟩) (fun v s1 hv => ?_) hx)
  obtain ⟨w, H', I1, rv, rfl, rfl⟩ := hv
  refine wpAny_bind (wpAny_holding (wpAny_pure (wpAny_pure (wpAny_bind (wpAny_holding (wpAny_pure ?_))))))
  rw [makeFunction_eq]
  simp only [List.zip_nil_right, List.filterMap_nil, List.isEmpty_nil, List.isEmpty_cons, Bool.false_eq_true, if_true, if_false, pure_bind]
  refine wpAny_bind (wpAny_newTextTuple ?_)
  have nD : H s1.heap.objs.size = none := I1.hok.fresh (Nat.le_refl _)
  have I2 : Inv X pins σ (upd H s1.heap.objs.size (.tup [.int z])) { s1 with heap := s1.heap.push { cls := .type "tuple", data := .seq #[v] } } :=
    I1.laid (t' := s1.toks) (fun b u e => Heap.get?_push_of_some _ e) (Nat.le_refl _) ⟨by rw [PySem.sizeLine_eq]; exact Nat.le_of_ble_eq_true rfl, [v], .cons rv .nil, _, Heap.get?_push_size _ rfl, rfl, _, rfl⟩
  have k2 : ∀ b o, H b = some o → upd H s1.heap.objs.size (.tup [.int z]) b = some o := fun b o e => by
    rw [upd_ne (ne_of_none e nD)]
    exact e
  exact lam_core I2 TB hcode hm hu (hT.ext k2) hfree hne fun f c' pm ct H1 s' I3 hS hN a b c d => h f c' s1.heap.objs.size pm ct H1 s' I3 (fun R hR => hS R (hR.same k2)) (hN _ _ upd_same fun qs zz => nomatch zz) a b c d
/-- its names: the parameter a, captured ones and globals -/
structure LamP (N : List Str) (sc scope : Scope) (a : Str) : Prop where
  kind : scope.kind = .function
  co : scope.isCoroutine = false
  gen : scope.isGenerator = false
  own : ∀ y ∈ scope.names, y.2 ≠ .cell ∧ (y.2 = .local → y.1 = a)
  free : ∀ y ∈ scope.names, y.2 = .free → sc.names.lookup y.1 = some .cell ∨ sc.names.lookup y.1 = some .free
  loc : scope.names.lookup a = some .local
  nin : a ∉ N
theorem LamP.has {N : List Str} {scope : Scope} {a : Str} (L : LamP N X.env.scope scope a) (ok : X.Ok) : ∀ y ∈ scope.names, y.2 = .free → ∃ c, X.env.cells.lookup y.1 = some c := fun y hy e => ok.has _ (L.free y hy e)
theorem lam_startD {HZ : Hp} {s1 : Shared} {A : Around} {outer : List Env} {E : XK} {scope : Scope} {f c' : Addr} {h₁ : Heap} {tk : Nat} {a : Str} {v0 : Value} (I : Inv X pins σ H s) (L : LamP X.N X.env.scope scope a) (e0 : Env0 X.prog X.w X.K X.mg X.base A outer s1 HZ) (hd : A.handled = none)
    (un : Un (frs X.stack) [] H HZ s.heap s1.heap) (hns : h₁.Ns s1.heap.objs.size fun y => ([(a, v0)] : List (Str × Value)).reverse.lookup y) (kp : ∀ b o, s1.heap.get? b = some o → h₁.get? b = some o) :
    Inv (LamX.lamCx X A outer s1 HZ E scope f c') [] σ HZ { s1 with heap := h₁, toks := tk } := by
  have hfree := L.has I.ok
  have toX : ∀ {y cc}, (cloFrom X.env.cells scope.names []).lookup y = some cc → X.env.cells.lookup y = some cc := fun {y cc} e => by
    rcases cloFrom_mem (PySem.mem_of_lookup e) with m | ⟨m1, m2⟩
    · exact nomatch m
    · obtain ⟨c1, hc1⟩ := hfree _ m1 rfl
      have hc1 : X.env.cells.lookup y = some c1 := hc1
      have : cc = c1 := by rw [m2, hc1] <;> rfl
      rw [this]
      exact hc1
  have seen : ∀ {y}, scope.names.lookup y = some .free → ∃ cc, (cloFrom X.env.cells scope.names []).lookup y = some cc := fun {y} hl => by
    have hy : (y, NameKind.free) ∈ scope.names := PySem.mem_of_lookup hl
    exact mem_lookup (cloFrom_has (cells := X.env.cells) (acc := []) hy)
  have cells : ∀ {cc : Addr} {v : Option Value}, H cc = none → s.heap.IsCell cc v → h₁.IsCell cc v := fun {cc v} n ⟨o, ho, hdd⟩ => by
    obtain ⟨sl, y⟩ := un.any ho n (by simp)
    exact ⟨_, kp _ _ y, hdd⟩
  have none_ : ∀ b : Addr, b ∉ (LamX.lamCx X A outer s1 HZ E scope f c').ex := fun b y => nomatch (show b ∈ ([] : List Addr) from y)
  have hh : ∀ y, ((LamX.lamCx X A outer s1 HZ E scope f c').env.kindOf y = some .cell ∨ (LamX.lamCx X A outer s1 HZ E scope f c').env.kindOf y = some .free) → ∃ cc, (LamX.lamCx X A outer s1 HZ E scope f c').env.cells.lookup y = some cc := fun y hy => by
    have hy : scope.names.lookup y = some .cell ∨ scope.names.lookup y = some .free := hy
    rcases hy with hy | hy
    · exact absurd rfl (L.own _ (PySem.mem_of_lookup hy)).1
    · exact seen hy
  have ok : (LamX.lamCx X A outer s1 HZ E scope f c').Ok := ⟨e0.mod, L.kind, rfl, rfl, Nat.le_refl _, fun y z cc e1 e2 => I.ok.inj y z cc (toX e1) (toX e2), hh, (fun y cc z _ => nomatch (show false = true from z)), fun _ => hd, Around.frames_deeper e0.frames, .inr ⟨rfl, rfl⟩,
    fun b z => absurd z (none_ b), e0.bs, e0.bsz, fun b _ _ => none_ b, fun b z => absurd z (none_ b), e0.funs, e0.frf⟩
  refine ⟨ok, rfl, e0.bare, Un.kept kp, ⟨_, hns, fun i y v e1 e2 e3 => ?_⟩, fun y cc e => ?_, e0.hok.fresh (Nat.le_refl _), fun y cc e => ?_, (fun p hp => nomatch (show p ∈ ([] : List (Addr × Obj)) ++ [] from hp)), e0.hok.kept kp, I.len⟩
  · have e3 : Vis scope y := e3
    rcases e3 with kk | kk | kk
    · have := (L.own _ (PySem.mem_of_lookup kk)).2 rfl
      exact absurd (this ▸ List.mem_of_getElem? e1) L.nin
    · exact absurd rfl (L.own _ (PySem.mem_of_lookup kk)).1
    · obtain ⟨m, hn, hl⟩ := I.loc
      have hv : Vis X.env.scope y := (L.free _ (PySem.mem_of_lookup kk) rfl).elim (fun z => .inr (.inl z)) (fun z => .inr (.inr z))
      obtain ⟨w', r, lk⟩ := hl i y v e1 e2 hv
      obtain ⟨c2, h2⟩ := seen kk
      refine ⟨w', r, .inr ⟨.inr kk, c2, h2, ?_⟩⟩
      have c1 := toX h2
      rcases lk with ⟨k1, _⟩ | ⟨_, c3, k2, k3⟩
      · have k1 : X.env.scope.names.lookup y = some .local := k1
        rcases L.free _ (PySem.mem_of_lookup kk) rfl with z | z <;> (rw [show X.env.scope.names.lookup y = _ from z] at k1; exact nomatch k1)
      · rw [c1] at k2
        cases k2
        exact cells (I.freeC y _ c1) k3
  · obtain ⟨w', z⟩ := I.cell y cc (toX e)
    exact ⟨w', cells (I.freeC y cc (toX e)) z⟩
  · obtain ⟨v, o, ho, _⟩ := I.cell y cc (toX e)
    exact un.free cc o ho (I.freeC y cc (toX e)) (by simp)
/-- the bare call binds the parameter to what its default is -/
def BindD (params : Arguments) (body : Expr) (scope : Scope) (y0 : Str) : Prop := ∀ (q : Str) (cl : List (Str × Addr)) (pm cv ctv : Value) (dt : Addr), ∃ k : Option (Array Value) → Sem (List (Str × Value)), bindArgs (lamF q params body scope cl pm cv ctv (.ref dt)) ⟨[], []⟩ = seqItems? (.ref dt) >>= k ∧ ∀ v, k (some #[v]) = pure [(y0, v)]
/-- x(), in the def that got the lambda -/
theorem pe_actD {CXg : CXT} {Eg : XK} {Ng : List Str} {qg : Str} {sg : Scope} {g f c' dt : Addr} {cdg pm ctv : Value} {params : Arguments} {body : Expr} {scope : Scope} {k i : Nat} {z : Int} {a y0 : Str} {pn : List (Addr × Obj)} {xe : Value → Shared → Prop} {W : WX} {E : XK} {tb : TE} {p1 p2 : Pos}
    (I : Inv X pins σ H s) (L : LamP X.N X.env.scope scope y0) (hf : s.heap.get? f = some (lamO (X.env.qual ++ "<lambda>") params body scope (cloFrom X.env.cells scope.names []) pm (.ref c') ctv (.ref dt))) (hfn : H f = none) (hfr : f ∉ frs X.stack)
    (hbind : BindD params body scope y0)
    (tk : Takes ((cxOf CXg X.prog X.w X.K X.mg X.base Ng qg sg g cdg X.A X.stack s H Eg).tr pn xe) W) (hW : ∀ cls d σ' H', E cls d H' → W cls d σ' H') (hr : Room (k + 1) (X.A.deeper (envOfC qg sg s.heap.objs.size g cdg)))
    (hbody : ∀ (A : Around) (outer : List Env) (s : Shared) (H : Hp), Room k (A.deeper (LamX.lamEnv X scope s.heap.objs.size f c')) → PE (LamX.lamCx X A outer s H E scope f c') body tb)
    (hN : Ng[i]? = some a) (hv : Vis sg a) (hd : (a == ("__debug__" : Str)) = false := by decide) (hcd : (a == ("__classdict__" : Str)) = false := by decide) :
    PE ((cxOf CXg X.prog X.w X.K X.mg X.base Ng qg sg g cdg X.A X.stack s H Eg).tr pn xe) (.Call (.Name a p1) [] [] p2)
      (fun σZ HZ Q => σZ[i]? = some (some (.ref f)) ∧ HZ c' = some (LamX.CodeO c' (X.env.qual ++ "<lambda>")) ∧ HZ dt = some (.tup [.int z]) ∧ tb σ HZ Q) := by
  refine ⟨fun pinsZ sZ σZ HZ Q IZ h => ?_⟩
  obtain ⟨hs, hc, hdt, ht⟩ := h
  refine wpAny_Call_Name_kw (thn ((pe_var (pos := p1) (i := i) hN hv hd hcd).run pinsZ sZ σZ HZ (fun v H1 => v = .ref f ∧ H1 = HZ) IZ ⟨.ref f, hs, rfl, rfl⟩) fun u s1 ⟨v, H1, I1, r1, q1⟩ => ?_)
  obtain ⟨ev, eH⟩ := q1
  subst ev
  rw [eH] at I1
  obtain rfl : u = Value.ref f := r1
  have of1 := I1.base.keep f _ hf hfn hfr (fun z => nomatch (show f ∈ ([] : List Addr) from z))
  refine PySem.W.callWith_F0 ⟨_, _, _, _, of1⟩ ?_
  have un : Un (frs X.stack) [] H HZ s.heap s1.heap := I1.base
  obtain ⟨⟨oc, vs, t, hoc, hdc, hvc⟩, _, _⟩ := I1.hok c' _ hc
  obtain ⟨_, its, hvals, od, hod, _, nn, hdd⟩ := I1.hok dt _ hdt
  obtain ⟨v0, rfl⟩ : ∃ v0, its = [v0] := by
    cases hvals with
    | cons r rs => cases rs with
      | nil => exact ⟨_, rfl⟩
  have rc : codeAny (model X.prog X.w) (X.A.deeper (envOfC qg sg s.heap.objs.size g cdg)) (.call (.ref f) ⟨[], []⟩) (CR (L2.CX X.prog X.w) (envOfC qg sg s.heap.objs.size g cdg :: X.stack) X.prog X.w HZ s1 Q E) s1 := by
    refine PySem.W.kla_callFunE hr.depth of1 rfl L.co L.gen rfl ⟨c', oc, vs, t, rfl, hoc, hdc, hvc⟩ ?_
    obtain ⟨kk, hk1, hk2⟩ := hbind (X.env.qual ++ "<lambda>") (cloFrom X.env.cells scope.names []) pm (.ref c') ctv dt
    refine BindsTo.of_defaults (T := dt) rfl hod hdd hk1 (hk2 v0) _ _ _ _ ?_
    refine wpAny_newFunctionEnv (fun y hy => (L.own y hy).1) (fun y hy => (by
      cases hy with
      | head => exact L.loc
      | tail _ h => exact nomatch h)) (fun h₁ hns hsb => ⟨I1.nolimit.fresh _ hsb, ?_⟩) L.kind
    show codeAny _ _ (.expr body (LamX.lamEnv X scope s1.heap.objs.size f c')) _ _
    have kp : ∀ b o, s1.heap.get? b = some o → h₁.get? b = some o := fun b o e => hsb.extBut b o (Nat.ne_of_lt (Heap.lt_size e)) (Heap.get?_push_of_some _ e)
    have J : Inv (LamX.lamCx X (X.A.deeper (envOfC qg sg s.heap.objs.size g cdg)) (envOfC qg sg s.heap.objs.size g cdg :: X.stack) s1 HZ E scope f c') [] σ HZ { s1 with heap := h₁, toks := s1.toks + ([(y0, v0)] : List (Str × Value)).length } :=
      lam_startD I L I1.env0 hr.hd un hns kp
    refine PySem.W.kla_codeExpr (wpAny_mono ((hbody _ _ s1 HZ (hr.deeper _)).run [] _ _ HZ Q J ht) (fun v s' hq => ?_) fun e s' hq => hq)
    obtain ⟨w', H', J', rv, q⟩ := hq
    exact ⟨w', H', J'.os, J'.bare, J'.base, J'.hok, rv, q⟩
  have hx : Passes (L2.CX X.prog X.w) ((cxOf CXg X.prog X.w X.K X.mg X.base Ng qg sg g cdg X.A X.stack s H Eg).tr pn xe) E := passes_call tk hW
  refine wpAny_call (codeAny_mono rc fun r s' hq => ?_)
  cases r with
  | error e => exact hx pinsZ σZ HZ s1 e s' I1 hq
  | ok fl =>
    cases fl with
    | ret u => exact I1.after hq
    | next => exact False.elim hq
    | brk => exact False.elim hq
    | cont => exact False.elim hq
def tLamS (T : List (Addr × Str)) (z : Option Int) (TT : (XK → Hp → VK → Prop) → Hp → VK → Prop) (t : XK → TE) : TE := fun σ H Q => ∃ R, Sep (tabA T :: R) H ∧ ∀ H1, Sep (tabA T :: R) H1 → match z with
  | none => TT (fun E H' Q' => t E σ H' Q') H1 Q
  | some z => ∀ dt, H1 dt = some (.tup [.int z]) → TT (fun E H' Q' => H' dt = some (.tup [.int z]) ∧ t E σ H' Q') H1 Q
/-- x(lambda y0=z: body) -/
theorem pe_lamcallD {T : List (Addr × Str)} {TT : (XK → Hp → VK → Prop) → Hp → VK → Prop} {x a y0 : Str} {g c P : Addr} {k : Nat} {pg : Arguments} {bg : List Stmt} {sg : Scope} {dV kV doc pm cdv ct oc : Value} {an od : Option Addr} {osl : Array (Option Value)} {Ng : List Str}
    {params : Arguments} {body dx : Expr} {scope : Scope} {t : XK → TE} {p lpos pos : Pos} {z : Int} (hg : Gl X x) (hm : X.mg x = some (.ref g)) (hk : PySem.W.keepIn X.K (.ref g) = true)
    (lk : X.K.lookup g = some ⟨oc, od, .func (PySem.W.fnOf x x pg bg sg dV kV doc pm an cdv ct), osl⟩) (hcg : PySem.W.codeIn X.K cdv x = true) (hb : L2.Binds X.K (PySem.W.fnOf x x pg bg sg dV kV doc pm an cdv ct) [a] []) (Sg : FnScope Ng [a] sg) (hNg : Ng[0]? = some a) (hva : Vis sg a)
    (hG : LamX.GivesTo X Ng x sg g cdv bg a (X.env.qual ++ "<lambda>") TT)
    (TB : LamX.TabB X.base X.mg c P) (hcode : X.env.code = .ref c) (hmT : (P, X.env.qual ++ "<lambda>") ∈ T) (hu : ∀ p ∈ T, p.1 = P → p.2 = X.env.qual ++ "<lambda>") (hr : Room (k + 2) X.A) (L : LamP X.N X.env.scope scope y0) (hdef : defaultsOf params X.env = ([eval dx X.env], [])) (hdx : PE X dx (tC (.int z)))
    (hne : cloFrom X.env.cells scope.names [] ≠ [])
    (hbind : BindD params body scope y0)
    (hbody : ∀ (A : Around) (outer : List Env) (s : Shared) (H : Hp) (E : XK) (f c' : Addr), Room k (A.deeper (LamX.lamEnv X scope s.heap.objs.size f c')) → PE (LamX.lamCx X A outer s H E scope f c') body (t E))
    (hdb : (x == ("__debug__" : Str)) = false := by decide) (hd : (a == ("__debug__" : Str)) = false := by decide) (hcd : (a == ("__classdict__" : Str)) = false := by decide) :
    PE X (.Call (.Name x p) [.Lambda params body scope lpos] [] pos) (tLamS T (some z) TT t) := by
  refine ⟨fun pins s σ H Q I h => ?_⟩
  obtain ⟨R, hS, h⟩ := h
  refine wpAny_Call_Name_kw (ld_glob I hg hm ?_ hdb)
  refine PySem.W.callWith_K (h₀ := X.base) I.ok.mod.kin hk ?_ (by rfl) (by rfl)
  show wpAny _ _ (spliced ((false, eval (.Lambda params body scope lpos) X.env) :: backTo pos (starEach [] X.env))) _ _ s
  refine Calls.spliced_cons (lam_makeD I TB hcode hmT hu hS.tabs hdef hdx (L.has I.ok) hne (fun f c' dt pm' ctv H1 s' I1 hT1 hdt hf hfn hfr hco => ?_) fun _ _ h => h)
  refine Calls.spliced_nil ⟨I1.kIn, ?_⟩
  have rc : codeAny (model X.prog X.w) X.A (.call (.ref g) ⟨[.ref f], []⟩) (CR C8.CX0 X.stack X.prog X.w H1 s' Q C8.E0) s' := by
    refine LamX.run_ofS (N := Ng) (ps := [a]) (us := [.ref f]) (vs := [.ref f]) lk hcg Sg hr I1.env0 (hb s' [.ref f] I1.kIn rfl) (.cons rfl .nil) rfl fun hr' => ?_
    obtain ⟨t', ht', hq'⟩ := hG f c' s' H1 Q (fun E H' Q' => H' dt = some (.tup [.int z]) ∧ t E σ H' Q') (fun W pn xe E p1 p2 tk hW => pe_actD (i := 0) I1 L hf hfn hfr hbind tk hW hr' (fun A outer s H hr2 => hbody A outer s H E f c' hr2) hNg hva hd hcd) hco (h H1 (hT1 R hS) dt hdt)
    exact ⟨t', ht'.nox, hq'⟩
  refine wpAny_call (codeAny_mono rc fun r s2 hq => ?_)
  cases r with
  | error e => exact (show False from hq).elim
  | ok fl =>
    cases fl with
    | ret u => exact I1.after hq
    | next => exact False.elim hq
    | brk => exact False.elim hq
    | cont => exact False.elim hq
/-- x(lambda: body) -/
theorem pe_lamcallP {T : List (Addr × Str)} {TT : (XK → Hp → VK → Prop) → Hp → VK → Prop} {x a : Str} {g c P : Addr} {k : Nat} {pg : Arguments} {bg : List Stmt} {sg : Scope} {dV kV doc pm cdv ct oc : Value} {an od : Option Addr} {osl : Array (Option Value)} {Ng : List Str}
    {params : Arguments} {body : Expr} {scope : Scope} {t : XK → TE} {p lpos pos : Pos} (hg : Gl X x) (hm : X.mg x = some (.ref g)) (hk : PySem.W.keepIn X.K (.ref g) = true)
    (lk : X.K.lookup g = some ⟨oc, od, .func (PySem.W.fnOf x x pg bg sg dV kV doc pm an cdv ct), osl⟩) (hcg : PySem.W.codeIn X.K cdv x = true) (hb : L2.Binds X.K (PySem.W.fnOf x x pg bg sg dV kV doc pm an cdv ct) [a] []) (Sg : FnScope Ng [a] sg) (hNg : Ng[0]? = some a) (hva : Vis sg a)
    (hG : LamX.GivesTo X Ng x sg g cdv bg a (X.env.qual ++ "<lambda>") TT)
    (TB : LamX.TabB X.base X.mg c P) (hcode : X.env.code = .ref c) (hmT : (P, X.env.qual ++ "<lambda>") ∈ T) (hu : ∀ p ∈ T, p.1 = P → p.2 = X.env.qual ++ "<lambda>") (hr : Room (k + 2) X.A) (L : LamX.LamS X.env.scope scope) (hdef : defaultsOf params X.env = ([], []))
    (hne : cloFrom X.env.cells scope.names [] ≠ [])
    (hbind : ∀ (q : Str) (cl : List (Str × Addr)) (pm cv ctv : Value), bindArgs (PySem.W.kla_fn "<lambda>" q params body scope cl pm cv ctv) ⟨[], []⟩ = pure [])
    (hbody : ∀ (A : Around) (outer : List Env) (s : Shared) (H : Hp) (E : XK) (f c' : Addr), Room k (A.deeper (LamX.lamEnv X scope s.heap.objs.size f c')) → PE (LamX.lamCx X A outer s H E scope f c') body (t E))
    (hdb : (x == ("__debug__" : Str)) = false := by decide) (hd : (a == ("__debug__" : Str)) = false := by decide) (hcd : (a == ("__classdict__" : Str)) = false := by decide) :
    PE X (.Call (.Name x p) [.Lambda params body scope lpos] [] pos) (tLamS T none TT t) := by
  refine ⟨fun pins s σ H Q I h => ?_⟩
  obtain ⟨R, hS, h⟩ := h
  refine wpAny_Call_Name_kw (ld_glob I hg hm ?_ hdb)
  refine PySem.W.callWith_K (h₀ := X.base) I.ok.mod.kin hk ?_ (by rfl) (by rfl)
  show wpAny _ _ (spliced ((false, eval (.Lambda params body scope lpos) X.env) :: backTo pos (starEach [] X.env))) _ _ s
  refine Calls.spliced_cons (lam_makeP I TB hcode hmT hu hS.tabs hdef (L.has I.ok) hne fun f c' pm' ctv H1 s' I1 hT1 hf hfn hfr hco => ?_)
  refine Calls.spliced_nil ⟨I1.kIn, ?_⟩
  have rc : codeAny (model X.prog X.w) X.A (.call (.ref g) ⟨[.ref f], []⟩) (CR C8.CX0 X.stack X.prog X.w H1 s' Q C8.E0) s' := by
    refine LamX.run_ofS (N := Ng) (ps := [a]) (us := [.ref f]) (vs := [.ref f]) lk hcg Sg hr I1.env0 (hb s' [.ref f] I1.kIn rfl) (.cons rfl .nil) rfl fun hr' => ?_
    obtain ⟨t', ht', hq'⟩ := hG f c' s' H1 Q (fun E H' Q' => t E σ H' Q') (fun W pn xe E p1 p2 tk hW => LamX.pe_act (i := 0) I1 L hf hfn hfr (hbind _ _ _ _ _) tk hW hr' (fun A outer s H hr2 => hbody A outer s H E f c' hr2) hNg hva hd hcd) hco (h H1 (hT1 R hS))
    exact ⟨t', ht'.nox, hq'⟩
  refine wpAny_call (codeAny_mono rc fun r s2 hq => ?_)
  cases r with
  | error e => exact (show False from hq).elim
  | ok fl =>
    cases fl with
    | ret u => exact I1.after hq
    | next => exact False.elim hq
    | brk => exact False.elim hq
    | cont => exact False.elim hq
end
end Ll

namespace L2
open PySem PySem.Spec PyProof.Rows
/-! ### d.update(d2), keys ints and texts -/
def rDUpd : V → List V → Hp → VK → Prop := fun x vs H Q => ∃ (a b : Addr) (kvs more : List (Key × V)), x = .ref a ∧ vs = [.ref b] ∧ a ≠ b ∧ H a = some (.dK kvs) ∧ H b = some (.dK more) ∧ kvs.length + more.length ≤ sizeLine ∧ Q .non (upd H a (.dK (mergeK kvs more)))
theorem mt_dupdate {X : Cx} : MtR X "dict.update" rDUpd := by
  intro pins s σ H x vs v us Q I rx rv h
  obtain ⟨a, b, kvs, more, rfl, rfl, hne, ha, hb, hz, q⟩ := h
  obtain rfl : v = Value.ref a := rx
  obtain rfl := Vals.ref1 rv
  obtain ⟨z, hd, ws, rel, dd⟩ := dk_of I.hok ha
  obtain ⟨z2, hd2, ws2, rel2, dd2⟩ := dk_of I.hok hb
  refine call_meetsIn PySem.F.slot_dict_update dd.typeIs PySem.F.entry_dict_update (PySem.F.args_dict_update_2 _ _) (meets_dict_update (mixKind X.prog X.w) a b hne hd2) ⟨ws, ws2, dd, dd2, by rw [← rel.length, ← rel2.length]; exact hz, fun h' hm _ hs => ?_⟩
  have he : ∃ q, h'.get? a = some q := let ⟨q, _, _, hq, _⟩ := hm; ⟨q, hq⟩
  have hl : (mergeK kvs more).length ≤ sizeLine := Nat.le_trans (length_mergeK more kvs) hz
  exact ⟨.non, _, d_write (t' := s.toks) I (by rw [ha]; exact True.intro) hs he (dk_new hl hd (rel2.merge rel) hm), rfl, q⟩
end L2
namespace Ll
open PySem PySem.Spec PyProof.Rows L2
/-- a display's pairs as entries -/
def unK : List (V × V) → List (Key × V)
  | [] => []
  | (.int i, v) :: r => (.inl i, v) :: unK r
  | (.str x, v) :: r => (.inr x, v) :: unK r
  | (_, v) :: r => (.inl 0, v) :: unK r
theorem dispK {ps : List (V × V)} {B : List (Key × V) → Prop} (e : ps = (unK ps).map fun kv => (kV kv.1, kv.2)) (l : (unK ps).length ≤ 15) (q : B (unK ps)) : ∃ kvs : List (Key × V), ps = kvs.map (fun kv => (kV kv.1, kv.2)) ∧ kvs.length ≤ 15 ∧ B kvs := ⟨unK ps, e, l, q⟩
theorem dgS2 {H : Hp} {a : Addr} {kvs : List (Key × V)} {x : Str} {k : Key} {v : V} (e : H a = some (.dK kvs)) (g : kvs.find? (fun kv => decide (kv.1 = (.inr x : Key))) = some (k, v)) : DGet H a (.str x) (some v) := by
  have h := DGet.k (k := .inr x) e
  unfold valV at h
  rw [g] at h
  exact h
theorem lt_line {n : Nat} (h : n ≤ 1000) : n < sizeLine := Nat.lt_of_le_of_lt h (by rw [PySem.sizeLine_eq]; decide)
theorem pnilI {σ : L2.St} {H : Hp} {Q : List (V × V) → Hp → Prop} (h : Q [] H) : tPairs [] σ H Q := h
theorem pconsI {tk tv : TE} {r : List (TE × TE)} {σ : L2.St} {H : Hp} {Q : List (V × V) → Hp → Prop} (h : tk σ H fun x H1 => tv σ H1 fun y H2 => tPairs r σ H2 fun ps H3 => Q ((x, y) :: ps) H3) : tPairs ((tk, tv) :: r) σ H Q := h
theorem tyD_ok {K : PySem.W.Frag} {a : Addr} {H : Hp} {kvs : List (Key × V)} (e : H a = some (.dK kvs)) : tyV K "dict" (.ref a) H := .inr (.inr (.inl ⟨rfl, .inl ⟨_, e⟩⟩))
/-- an object told otherwise -/
theorem Sep.re {cs cs' : List Asr} {a : Addr} {o o' : HO} {H : Hp} (h : Sep cs H) (p : Swp cs (obj a o) (obj a o') cs') (e : o = o') : Sep cs' H := by
  subst e
  exact h.swp p fun q => q
theorem Sep.ne {a b : Addr} {o u : HO} {cs R1 R2 : List Asr} {H : Hp} (h : Sep cs H) (p : Pick cs (obj a o) R1) (q : Pick R1 (obj b u) R2) : a ≠ b := by
  have h2 := h.pk2 p q
  unfold obj at h2
  obtain ⟨U, F, V, ⟨f1, _⟩, ⟨F2, V2, ⟨f2, _⟩, _, _, u2⟩, d, _⟩ := h2
  exact fun z => d a ((f1 a).mpr rfl) ((u2 a).mpr (.inl ((f2 a).mpr z)))
theorem goDUpd {a b : Addr} {kvs more : List (Key × V)} {cs cs' : List Asr} {H : Hp} {Q : VK} (h : Sep cs H) (o' : HO) (p : Swp cs (obj a (.dK kvs)) (obj a o') cs') (hb : H b = some (.dK more)) (hne : a ≠ b) (hl : kvs.length + more.length ≤ 1000) (e : HO.dK (mergeK kvs more) = o') (k : ∀ H', Sep cs' H' → Q .non H') :
    rDUpd (.ref a) [.ref b] H Q := by
  subst e
  exact ⟨a, b, kvs, more, rfl, rfl, hne, Swp.get h p, hb, Nat.le_trans hl (by rw [PySem.sizeLine_eq]; decide), k _ (h.put' p id)⟩
theorem goLnUpd' {x p : Addr} {kvs kvs' more : List (Key × V)} {cs cs' R1 R2 : List Asr} {H : Hp} {Q : VK} (h : Sep cs H) (sw : Swp cs (obj x (.dK kvs)) (obj x (.dK kvs')) cs') (p1 : Pick cs (obj x (.dK kvs)) R1) (p2 : Pick R1 (obj p (.dK more)) R2)
    (e : mergeK kvs more = kvs') (hl : kvs.length + more.length ≤ 1000) (k : ∀ H', Sep cs' H' → Q .non H') : rDUpd (.ref x) [.ref p] H Q :=
  goDUpd h _ sw ((h.pick p1).get (.tl p2)) (h.ne p1 p2) hl (by rw [e]) k
end Ll

namespace Ll
open PySem PySem.Spec PyProof.Rows L2 Yd
/-! ### an own pool in the heap: dicts -/
structure OAd where
  m : Addr
  r : Addr
  a : Addr
  f : Addr
  w : Addr
  e : Addr
def lnK (l : Ln) : List (Key × V) := (.inr "kind", .str (kdS l.kd)) :: (.inr "birth", oI l.birth) :: (.inr "since", .int l.since) :: (.inr "paper", oI l.paper) :: (match l.client with
  | some c => [(.inr "client", .int c), (.inr "start", oI l.start)]
  | none => [])
def ruV (r : Ru) : List V := [.int r.least, .int r.most, .int r.span, .int r.idle, .int r.wait, .int r.queue, .int r.pause]
def owF (A : OAd) (st : P) : List (Key × V) := [(.inr "r", .ref A.r), (.inr "lines", .ref A.a), (.inr "free", .ref A.f), (.inr "row", .ref A.w), (.inr "given", .int st.y.given), (.inr "papers", .int st.y.papers), (.inr "fails", .int st.y.fails), (.inr "quiet", oI st.y.quiet),
  (.inr "over", .bl st.y.over), (.inr "book", .ref A.e), (.inr "now", .int st.y.clock), (.inr "last", .int st.last), (.inr "asks", .int st.asked)]
def lnsD (ls : List Lq) : List Asr := ls.map fun q => obj q.2.1 (.dK (lnK q.2.2))
@[irreducible] def lndA (ls : List Lq) : Asr := Ex fun _ : Unit => lnsD ls
def OO (K : PySem.W.Frag) (A : OAd) (ls : List Lq) (st : P) (R : List Asr) : List Asr :=
  obj A.m (.dK (owF A st)) :: tupA K A.r (ruV st.y.r) :: obj A.a (.dK (dkL ls)) :: obj A.f (.lst (st.y.free.map V.int)) :: lstA K A.w (st.y.row.map prD) :: lstA K A.e (st.y.book.map evD) :: lndA ls :: R
/-- an own pool at p -/
@[irreducible] def ownA (K : PySem.W.Frag) (p : Addr) (st : P) : Asr := Ex fun z : { z : OAd × List Lq // z.1.m = p ∧ alL z.2 = st.y.all } => OO K z.1.1 z.1.2 st []
theorem Sep.own {K : PySem.W.Frag} {p : Addr} {st : P} {R : List Asr} {H : Hp} (h : Sep (ownA K p st :: R) H) : ∃ A ls, A.m = p ∧ alL ls = st.y.all ∧ Sep (OO K A ls st R) H := by
  unfold ownA at h
  obtain ⟨⟨⟨A, ls⟩, h1, h2⟩, h⟩ := h.op
  exact ⟨A, ls, h1, h2, h⟩
theorem Sep.ownC {K : PySem.W.Frag} {A : OAd} {ls : List Lq} {st : P} {R : List Asr} {H : Hp} (h : Sep (OO K A ls st R) H) (e : alL ls = st.y.all) : Sep (ownA K A.m st :: R) H := by
  unfold ownA
  exact Sep.cl (f := fun z : { z : OAd × List Lq // z.1.m = A.m ∧ alL z.2 = st.y.all } => OO K z.1.1 z.1.2 st []) ⟨(A, ls), rfl, e⟩ h
theorem lnd_mid {l1 l2 : List Lq} {q : Lq} : lnsD (l1 ++ q :: l2) = lnsD l1 ++ obj q.2.1 (.dK (lnK q.2.2)) :: lnsD l2 := by
  unfold lnsD
  rw [List.map_append, List.map_cons]
/-- one line of them -/
theorem Sep.lnd {l1 l2 : List Lq} {q : Lq} {R : List Asr} {H : Hp} (h : Sep (lndA (l1 ++ q :: l2) :: R) H) : Sep (obj q.2.1 (.dK (lnK q.2.2)) :: lndA (l1 ++ l2) :: R) H := by
  unfold lndA at h
  obtain ⟨_, h⟩ := h.op
  rw [lnd_mid, List.append_assoc] at h
  have h2 := h.pick (A := obj q.2.1 (.dK (lnK q.2.2))) (R := lnsD l1 ++ (lnsD l2 ++ R)) Pick.mid
  obtain ⟨U, F, V, a, r, d, u⟩ := h2
  have e : lnsD l1 ++ (lnsD l2 ++ R) = lnsD (l1 ++ l2) ++ R := by
    unfold lnsD
    rw [List.map_append, List.append_assoc]
  rw [e] at r
  obtain ⟨V1, W1, q1, q2, q3, q4⟩ := SU.spl r
  refine ⟨U, F, V, a, ⟨V1, W1, ?_, q2, q3, q4⟩, d, u⟩
  unfold lndA Ex
  exact ⟨(), q1⟩
theorem Sep.lndC {l1 l2 : List Lq} {q : Lq} {R : List Asr} {H : Hp} (h : Sep (obj q.2.1 (.dK (lnK q.2.2)) :: lndA (l1 ++ l2) :: R) H) : Sep (lndA (l1 ++ q :: l2) :: R) H := by
  obtain ⟨U, F, V, a, ⟨F2, V2, a2, r, d2, u2⟩, d, u⟩ := h
  unfold lndA Ex at a2
  obtain ⟨_, a2⟩ := a2
  have h5 : SU (lnsD (l1 ++ q :: l2)) (fun b => F b ∨ F2 b) H := by
    rw [lnd_mid]
    refine SU.mid ⟨F, F2, a, ?_, fun b f z => d b f ((u2 b).mpr (.inl z)), fun _ => Iff.rfl⟩
    unfold lnsD at a2 ⊢
    rw [← List.map_append]
    exact a2
  refine ⟨U, fun b => F b ∨ F2 b, V2, ?_, r, fun b f z => f.elim (fun y => d b y ((u2 b).mpr (.inr z))) fun y => d2 b y z, fun b => by rw [u b, u2 b, or_assoc]⟩
  unfold lndA Ex
  exact ⟨(), h5⟩
theorem Sep.lndGet {ls : List Lq} {q : Lq} {R cs : List Asr} {H : Hp} (h : Sep cs H) (p : Pick cs (lndA ls) R) (hq : q ∈ ls) : H q.2.1 = some (.dK (lnK q.2.2)) := by
  obtain ⟨l1, l2, rfl⟩ := List.append_of_mem hq
  exact (h.pick p).lnd.get0
theorem lndA_add {x : Addr} {ls : List Lq} {n : Int} {l : Ln} {R : List Asr} {H : Hp} (h : Sep (obj x (.dK (lnK l)) :: lndA ls :: R) H) : Sep (lndA (ls ++ [(n, x, l)]) :: R) H :=
  Sep.lndC (q := (n, x, l)) (l1 := ls) (l2 := []) (by rw [List.append_nil]; exact h)
theorem lnd_nil {R : List Asr} {H : Hp} (h : Sep R H) : Sep (lndA [] :: R) H := by
  unfold lndA
  exact Sep.cl (f := fun _ : Unit => lnsD []) () h
theorem lnK_lent {p c m : Int} {l : Ln} : mergeK (lnK l) [(.inr "kind", .str "lent"), (.inr "paper", .int p), (.inr "client", .int c), (.inr "start", .int m)] = lnK (lent p c m l) := by
  obtain ⟨kd, b, s, pa, cl, sta⟩ := l
  cases cl <;> rfl
theorem lnK_freed {m : Int} {l : Ln} : mergeK (lnK l) [(.inr "kind", .str "free"), (.inr "since", .int m), (.inr "paper", .non)] = lnK (freed m l) := by
  obtain ⟨kd, b, s, pa, cl, sta⟩ := l
  cases cl <;> rfl
theorem lnK_born {m : Int} {l : Ln} : putK (lnK l) (.inr "birth") (.int m) = lnK (born m l) := by
  obtain ⟨kd, b, s, pa, cl, sta⟩ := l
  cases cl <;> rfl
theorem lnK_kind {l : Ln} : valV (lnK l) (.inr "kind") = some (.str (kdS l.kd)) := rfl
theorem lnK_birth {l : Ln} : valV (lnK l) (.inr "birth") = some (oI l.birth) := rfl
theorem lnK_since {l : Ln} : valV (lnK l) (.inr "since") = some (.int l.since) := rfl
theorem lnK_paper {l : Ln} : valV (lnK l) (.inr "paper") = some (oI l.paper) := rfl
theorem lnK_len (l : Ln) : (lnK l).length ≤ 6 := by
  obtain ⟨kd, b, s, pa, cl, sta⟩ := l
  cases cl <;> exact Nat.le_of_ble_eq_true rfl
theorem goLnUpd {x p : Addr} {l l' : Ln} {more more' : List (Key × V)} {cs cs' R1 R2 : List Asr} {H : Hp} {Q : VK} (h : Sep cs H) (sw : Swp cs (obj x (.dK (lnK l))) (obj x (.dK (lnK l'))) cs') (p1 : Pick cs (obj x (.dK (lnK l))) R1) (p2 : Pick R1 (obj p (.dK more)) R2)
    (e : mergeK (lnK l) more' = lnK l') (e2 : more = more') (hl : more'.length ≤ 15) (k : ∀ H', Sep cs' H' → Q .non H') : rDUpd (.ref x) [.ref p] H Q := by
  subst e2
  exact goLnUpd' h sw p1 p2 e (by have := lnK_len l; omega) k
theorem erase_ne {l : List Int} (h : l.Nodup) (n : Int) : l.filter (fun j => decide (j ≠ n)) = l.erase n := by
  rw [h.erase_eq_filter]
  exact List.filter_congr fun j _ => by by_cases e : j = n <;> simp [e]
theorem ow_get {A : OAd} {st : P} : valV (owF A st) (.inr "asks") = some (.int st.asked) := rfl
theorem ow_put {A : OAd} {st : P} {x : Int} : putK (owF A st) (.inr "now") (.int x) = owF A { st with y := { st.y with clock := x } } := rfl
end Ll

namespace L2
open PySem PySem.Spec PyProof.Rows
/-! ### xs.count(y), flat items -/
theorem cntV {y : V} : ∀ {zs : List V} {us : List Value}, Vals zs us → zs.all flatV = true → us.countP (eqU y) = zs.countP (fun z => eqV z y)
  | [], _, .nil, _ => rfl
  | z :: zs, u :: us, .cons r t, f => by
    have f2 := Bool.and_eq_true_iff.mp (show (flatV z && zs.all flatV) = true from f)
    rw [List.countP_cons, List.countP_cons, cntV t f2.2, eqU_of r f2.1]
def rCntV (K : PySem.W.Frag) : V → List V → Hp → VK → Prop := fun x xs H Q => ∃ (a : Addr) (ys : List V) (y : V), x = .ref a ∧ xs = [y] ∧ SqL K H a ys ∧ flatV y = true ∧ ys.all flatV = true ∧ Q (.int (ys.countP (fun z => eqV z y) : Nat)) H
theorem mt_cntV {X : Cx} : MtR X "list.count" (rCntV X.K) := by
  intro pn t0 sg Hh xx xs1 vv us1 QQ J rx rxs hh
  obtain ⟨b, ys, y, rfl, rfl, hb, f1, f2, q⟩ := hh
  obtain rfl : vv = Value.ref b := rx
  cases rxs with
  | cons ry rr =>
    cases rr
    rename_i uy
    obtain ⟨its, rv, ⟨⟨oc, od, oda, osl⟩, n, ho, e1, e2, e3⟩, hz⟩ := J.list hb
    dsimp only at e1 e3
    subst e1 e3
    have ec : its.toArray.toList.countP (eqU y) = ys.countP (fun z => eqV z y) := by
      have := cntV (y := y) rv f2
      simpa using this
    refine call_meets PySem.F.slot_list_count ⟨_, ho, rfl⟩ PySem.F.entry_list_count (PySem.F.args_list_count_2 _ _) (SeqAt.list_countAt b its.toArray n od osl uy (eqU y)) ⟨ho, fun u hu => mem_eqAt ry f1 rv f2 u (by simpa using hu), ?_⟩
    rw [ec]
    exact ⟨.int (ys.countP (fun z => eqV z y) : Nat), Hh, J.tok _, ⟨t0.toks, rfl⟩, q⟩
end L2
namespace Ll
open PySem PySem.Spec PyProof.Rows L2
def suiteOf : Stmt → List Stmt
  | .Try _ [.ExceptHandler _ _ b _] _ _ _ => b
  | _ => []
/-- all that there was -/
@[irreducible] def allA (H0 : Hp) : Asr where
  P := fun F H => (∀ b, F b ↔ H0 b ≠ none) ∧ ∀ b o, H0 b = some o → H b = some o
  st := fun {F H H'} ⟨h, e⟩ k _ => ⟨h, fun b o z => k b o (e b o z) ((h b).mpr (by rw [z]; exact fun y => nomatch y))⟩
  al := fun {F H b} ⟨h, e⟩ f => by
    have h1 := (h b).mp f
    cases q : H0 b with
    | none => exact absurd q h1
    | some o =>
      rw [e b o q]
      exact fun z => nomatch z
theorem Sep.all0 (H : Hp) : Sep [allA H] H := by
  unfold allA
  exact ⟨fun b => H b ≠ none, fun b => H b ≠ none, fun _ => False, ⟨fun _ => Iff.rfl, fun _ _ z => z⟩, fun _ z => z, fun _ _ z => z, fun b => ⟨.inl, fun z => z.elim id (fun y => y.elim)⟩⟩
theorem Sep.all {H0 H : Hp} {cs R : List Asr} (h : Sep cs H) (p : Pick cs (allA H0) R) : Same H0 H := by
  unfold allA at p
  obtain ⟨U, F, V, ⟨_, e⟩, _⟩ := h.pick p
  exact fun b o z => e b o z
end Ll

namespace Ll
open PySem PySem.Spec PyProof.Rows L2 He
/-! ### heads: all ten refusals' classes, their base class -/
def errQ (K : PySem.W.Frag) : Bool :=
  ((List.range 10).all fun j => excB K (errA K j) && (((List.range 10).all fun i => decide (PySem.W.kitOne K (.ref (errA K j)) (.ref (errA K i)) = some (decide (i = j)))) &&
    (decide (PySem.W.kitOne K (.ref (errA K j)) (.type "ValueError") = some true) && decide (PySem.W.exmOne K (.ref (errA K j)) (.ref (ga K "LentError")) = some true)))) &&
  (xfB K (errA K 0) && (decide (PySem.W.findIn K (.ref (errA K 0)) "word" = some none) && (xfB K (errA K 9) && decide (PySem.W.findIn K (.ref (errA K 9)) "at" = some none))))
def leB (K : PySem.W.Frag) (D : Addr) : Bool :=
  PySem.W.keepIn K (.ref D) && (decide (PySem.W.specialIn K (.ref D) "__getattribute__" = some (some (.builtin "type.__getattribute__"))) && (PySem.W.readsIn K D (.type "type") && (match PySem.W.findCls K (.ref D) (.type "type") "__init__" with
    | some (.val v) => decide (v = .builtin "ValueError.__init__")
    | _ => false)))
def oexB (K : PySem.W.Frag) (C : Addr) : Bool :=
  (match K.lookup C with
  | some ⟨.type "type", _, .cls ⟨_, _, .ref C' :: bm, _, _, hd, _, _, _, _, del⟩, ⟨[_, _, _, _, some (.builtin n), _]⟩⟩ => decide (C' = C) && (decide (n = "ValueError.__new__") && (!del && (hd && PySem.HandSPX.refsVE bm)))
  | _ => false) && (decide (PySem.W.findIn K (.ref C) "__setattr__" = some (some (.builtin "object.__setattr__"))) && (decide (PySem.W.subIn K (.ref C) (.type "BaseException") = some true) && (decide (PySem.W.typeIn K (.ref C) = some (.type "type")) && PySem.W.keepIn K (.ref C))))
end Ll

namespace Ll
open PySem PySem.Spec PyProof.Rows L2 He
/-! ### heads: the module statics looked at too (attributes of classes are read by them) -/
def frY (n : Nat) (g : Addr → Option Obj) : PySem.W.Frag := frT g (cStatics :: asD g n)
def obsY (n : Nat) (fa : List Fa) (fn : List DefD) (ts : List Tab) (tf : List Defn) (ex : PySem.W.Frag → Bool) (g : Addr → Option Obj) : AlX :=
  (obsT fa fn ts (frY n g), ex (frY n g) && tabsB g tf (frY n g))
theorem saysY_of {n : Nat} {fa : List Fa} {fn : List DefD} {ts : List Tab} {tf : List Defn} {ex : PySem.W.Frag → Bool} {w : World} {h : Heap} (e : obsY n fa fn ts tf ex h.get? = valX fn ts w) : SaysX fa fn ts tf ex w h (frY n h.get?) := by
  obtain ⟨e1, e2⟩ := Prod.mk.inj (show (obsT fa fn ts (frY n h.get?), ex (frY n h.get?) && tabsB h.get? tf (frY n h.get?)) = (valT fn ts w, true) from e)
  obtain ⟨e3, e4⟩ := Bool.and_eq_true_iff.mp e2
  have key : ∀ p ∈ tf, PySem.W.codeHdIn (frY n h.get?) (cT (frY n h.get?) p).1 (cT (frY n h.get?) p).2 = true ∧ ∃ o, h.get? (cT (frY n h.get?) p).2 = some o ∧ emptyTab o = true := fun p hp => by
    have := List.all_eq_true.mp e4 p hp
    obtain ⟨a, b⟩ := Bool.and_eq_true_iff.mp this
    refine ⟨a, ?_⟩
    cases q : h.get? (cT (frY n h.get?) p).2 with
    | none => rw [q] at b; exact nomatch b
    | some o => rw [q] at b; exact ⟨o, rfl, b⟩
  refine ⟨e1, e3, fun p hp => (key p hp).1, fun p hp => ?_, fun p hp => ?_⟩
  · obtain ⟨_, o, h1, h2⟩ := key p hp
    exact frT_none h1 h2
  · obtain ⟨_, o, h1, h2⟩ := key p hp
    rw [h1]
    unfold emptyTab at h2
    split at h2
    · rename_i vs sl
      obtain ⟨q1, q2⟩ := Bool.and_eq_true_iff.mp h2
      have q1 := Array.isEmpty_iff.mp q1
      subst q1
      have q2 := Array.isEmpty_iff.mp q2
      subst q2
      rfl
    · exact nomatch h2
def hookY (n : Nat) (fa : List Fa) (fn : List DefD) (ts : List Tab) (tf : List Defn) (ex : PySem.W.Frag → Bool) : PySem.W.Hook where
  α := AlX
  obs := fun s => obsY n fa fn ts tf ex s.heap.get?
  val := fun w => valX fn ts w
  says := fun w h => ∃ K : PySem.W.Frag, K.In h ∧ SaysX fa fn ts tf ex w h K
  of := fun w s e => ⟨_, frT_in, saysY_of e⟩
  keeps := (hookX n fa fn ts tf ex).keeps
theorem obsY_eq {n : Nat} {fa : List Fa} {fn : List DefD} {ts : List Tab} {tf : List Defn} {ex : PySem.W.Frag → Bool} {g : Addr → Option Obj} {s : Shared} (h : ∀ a, g a = s.heap.get? a) : obsY n fa fn ts tf ex g = (hookY n fa fn ts tf ex).obs s := by
  obtain rfl : g = s.heap.get? := funext h
  rfl
end Ll

namespace Hd
open PySem PySem.Spec PyProof.Rows L2 Ll
abbrev h0 : Stmt := topS 21
def d0 : He.DefD := ⟨("_law_dice", none), "_law_dice", "_law_dice", defArgs h0, defBody h0, defScope h0, [], []⟩
abbrev h1 : Stmt := topS 16
def d1 : He.DefD := ⟨("need_work", none), "need_work", "need_work", defArgs h1, defBody h1, defScope h1, [], []⟩
abbrev h2 : Stmt := topS 17
def d2 : He.DefD := ⟨("starts", none), "starts", "starts", defArgs h2, defBody h2, defScope h2, [], []⟩
abbrev h3 : Stmt := topS 18
def d3 : He.DefD := ⟨("served", none), "served", "served", defArgs h3, defBody h3, defScope h3, [], []⟩
abbrev h4 : Stmt := topS 19
def d4 : He.DefD := ⟨("fewest", none), "fewest", "fewest", defArgs h4, defBody h4, defScope h4, [], []⟩
abbrev h5 : Stmt := topS 23
def d5 : He.DefD := ⟨("_law_like", none), "_law_like", "_law_like", defArgs h5, defBody h5, defScope h5, [], []⟩
abbrev h6 : Stmt := topS 25
def d6 : He.DefD := ⟨("_law_longest", none), "_law_longest", "_law_longest", defArgs h6, defBody h6, defScope h6, [], []⟩
abbrev h7 : Stmt := topS 26
def d7 : He.DefD := ⟨("_law_starts", none), "_law_starts", "_law_starts", defArgs h7, defBody h7, defScope h7, [], []⟩
abbrev h8 : Stmt := topS 22
def d8 : He.DefD := ⟨("_law_next", none), "_law_next", "_law_next", defArgs h8, defBody h8, defScope h8, [], []⟩
abbrev h9 : Stmt := inClass (topS 11) 0
def d9 : He.DefD := ⟨("BadWork", some "__init__"), "__init__", "BadWork.__init__", defArgs h9, defBody h9, defScope h9, [], []⟩
abbrev h10 : Stmt := topS 27
def d10 : He.DefD := ⟨("law", none), "law", "law", defArgs h10, defBody h10, defScope h10, [], []⟩
abbrev h11 : Stmt := topS 24
def d11 : He.DefD := ⟨("_law_told", none), "_law_told", "_law_told", defArgs h11, defBody h11, defScope h11, [], []⟩
def fn : List He.DefD := [d0, d1, d2, d3, d4, d5, d6, d7, d8, d9, d10, d11]
def fa : List He.Fa := [.glo "_law_dice", .glo "need_work", .glo "starts", .glo "BadCount", .exc "BadCount", .glo "served", .glo "fewest", .glo "_law_like", .glo "_law_longest", .glo "_law_starts", .glo "_law_next", .free "len", .free "int", .free "isinstance", .free "tuple", .free "list", .free "bool", .free "str", .free "range", .free "min", .free "max", .free "zip", .free "enumerate", .int "LATEST" 9999, .int "MOST_LINES" 8, .int "MOST_HOLD" 99, .free "ValueError", .glo "LentError", .glo "BadPool", .glo "BadMoment", .glo "Stopped", .glo "Waits", .glo "Full", .glo "NotWaiting", .glo "NotOpening", .glo "NotLent", .glo "BadWork", .glo "law", .glo "_law_told"]
def exL (K : PySem.W.Frag) : List Bool := [errQ K, leB K (He.ga K "LentError"), oexB K (errA K 9), decide (PySem.W.findIn K (.ref (errA K 9)) "__init__" = some (some (.ref (He.fAd K ("BadWork", some "__init__"))))), decide (PySem.W.typeIn K (.ref (He.fAd K ("BadWork", some "__init__"))) = some (.type "function")), decide (PySem.W.findIn K (.ref (errA K 9)) "at" = some none)]
def ex (K : PySem.W.Frag) : Bool := (exL K).all id
abbrev R : PySem.W.OpenRow := PySem.W.OpenLaw.row PySem.Challenge.rw_lentlines_k10_served_by_so_many
def loose0 : List Str := ["__name__", "LentError", "BadPool", "BadMoment", "Stopped", "Waits", "Full", "NotWaiting", "NotOpening", "NotLent", "BadCount", "BadWork", "MOST_LINES", "LATEST", "MOST_HOLD", "need_work", "starts", "served", "fewest", "_law_dice", "_law_next", "_law_like", "_law_told", "_law_longest", "_law_starts"]
def loose : List Str := loose0
abbrev hk : PySem.W.Hook := Ll.hookY 6 fa fn [] [("law", none)] ex
def ob (s : PySem.W.SharedT) : He.AlX := Ll.obsY 6 fa fn [] [("law", none)] ex (HandSHeadRun.getT s)
theorem ob_eq (s : PySem.W.SharedT) : ob s = hk.obs s.abs := Ll.obsY_eq (HandSHeadRun.getT_eq s)
theorem run (w : World) : HandSHeadRun.RunEq R (PySem.W.view R.prog [27]) hk ob 6000 loose w := by
  intro os
  kernel_rfl
end Hd
section
/-! ### steps of a reading: sd a side, hp what stands at an address, hs a sequence, rd as far as it goes by itself -/
local macro_rules | `(tactic| walk_at "sd") => `(tactic| (show (_ : Prop); first
  | omega | decide
  | exact ⟨by omega, by omega⟩ | exact ⟨by decide, by decide⟩ | exact Or.inl ⟨by omega, by omega⟩ | exact Or.inr ⟨by omega, by omega⟩ | exact ⟨by omega, by omega, by omega⟩ | exact ⟨by omega, by omega, by omega, by omega⟩
  | (show _ ≤ PySem.sizeLine; decide) | (show _ < PySem.sizeLine; decide)))
local macro_rules | `(tactic| walk_at "hp") => `(tactic| first | assumption | exact L2.upd_same | exact Ll.Same.new (by assumption) _ _ (by assumption))
local macro_rules | `(tactic| walk_at "hm") => `(tactic| first | exact Ll.mut_lst (by walk_at "hp") | exact Ll.mut_ins (by walk_at "hp") | exact Ll.mut_dK (by walk_at "hp"))
local macro_rules | `(tactic| walk_at "hb") => `(tactic| first | exact Ll.Fr.refl _ | exact Ll.Fr.at1 (by walk_at "hm") | exact Ll.Fr.trans (Ll.Fr.at1 (by walk_at "hm")) (Ll.Fr.at1 (by walk_at "hm")))
local macro_rules | `(tactic| walk_at "hs") => `(tactic| first | exact L2.SqL.of (by walk_at "hp") | assumption | exact (‹∀ H', Ll.Fr _ _ H' → L2.SqL _ H' _ _› _ (by walk_at "hb")))
local macro_rules | `(tactic| walk_at "ht") => `(tactic| first | exact L2.SqT.of (by walk_at "hp") | assumption)
local macro_rules | `(tactic| walk_at "ln") => `(tactic| first | omega | (simp only [List.length_map, List.length_append, List.length_replicate, List.length_cons, List.length_nil, List.length_singleton, List.length_set, List.length_range, List.length_take, List.length_drop]; omega))
local macro_rules | `(tactic| walk_at "sz") => `(tactic| (show (_ : Prop); first | decide | exact Nat.lt_of_le_of_lt (m := 100000) (by walk_at "ln") (by decide) | exact Nat.le_trans (m := 100000) (by walk_at "ln") (by decide)))
local macro_rules | `(tactic| walk_at "rd1") => `(tactic| first
  | refine ⟨_, rfl, ?_⟩
  | refine ⟨_, _, rfl, rfl, (by walk_at "sd"), ?_⟩
  | refine ⟨_, _, rfl, rfl, ?_⟩
  | refine ⟨_, _, _, _, rfl, rfl, (by walk_at "hs"), (by first | rfl | assumption), ?_⟩
  | refine ⟨_, _, _, _, rfl, rfl, (by walk_at "hp"), (by rfl), ?_⟩
  | refine ⟨_, _, rfl, .inl (by walk_at "hs"), ?_⟩
  | refine ⟨.inl ⟨rfl, _, (by walk_at "hs")⟩, ?_⟩
  | refine ⟨_, _, _, rfl, rfl, (by walk_at "hp"), (by walk_at "sz"), ?_⟩
  | refine ⟨_, _, rfl, (by walk_at "ht"), rfl, ?_⟩
  | refine ⟨_, _, rfl, (show L2.SqL _ _ _ _ from by walk_at "hs"), ?_⟩
  | refine ⟨_, _, rfl, ?_⟩
  | refine ⟨rfl, ?_⟩
  | refine ⟨(by (show _ ≤ PySem.sizeLine); walk_at "sz"), ?_⟩
  | refine ⟨(by assumption), (by walk_at "sd"), (by walk_at "sd"), ?_⟩
  | refine L2.iteT ?_
  | refine L2.iteF ?_
  | refine Ll.iteDT (by omega) ?_
  | refine Ll.iteDF (by omega) ?_
  | refine Ll.iteNT (by omega) ?_
  | refine Ll.iteNF (by omega) ?_)
local macro_rules | `(tactic| walk_at "rd") => `(tactic| repeat walk_at "rd1")

namespace Ll
open PySem PySem.Spec PyProof.Rows L2
/-! ### the dice -/
/-- dice stand at d: their list holds the script's, a place, a mixed number, a rest -/
def DiceAt (K : PySem.W.Frag) (H : Hp) (d : Addr) : Prop := ∃ (scr : Addr) (ns : List Int) (i m r : Int), FixL K H scr (ns.map V.int) ∧ ns.length ≤ 63 ∧ 0 ≤ i ∧ 0 ≤ m ∧ m < 2147483647 ∧ H d = some (.lst [.ref scr, .int i, .int m, .int r])
theorem DiceAt.fr {K : PySem.W.Frag} {F : Addr → Prop} {H H' : Hp} {d : Addr} (h : DiceAt K H d) (k : Fr F H H') (n : ¬ F d) : DiceAt K H' d := by
  obtain ⟨scr, ns, i, m, r, h1, h2, h3, h4, h5, h6⟩ := h
  exact ⟨scr, ns, i, m, r, h1.kp k.kp, h2, h3, h4, h5, k.but _ _ h6 n⟩

theorem DiceAt.ex {K : PySem.W.Frag} {H : Hp} {d : Addr} (h : DiceAt K H d) : ∃ xs, H d = some (.lst xs) := by
  obtain ⟨scr, ns, i, m, r, h1, h2, h3, h4, h5, h6⟩ := h
  exact ⟨_, h6⟩
def spDice (K : PySem.W.Frag) : Sp := fun vs H Q _ => ∃ (a : Addr) (ns : List Int), vs = [.ref a] ∧ FixL K H a (ns.map V.int) ∧ ns.length ≤ 63 ∧
  ∀ (H' : Hp) (d : Addr), H d = none → Same H H' → DiceAt K H' d → Q (.ref d) H'
def spNext (K : PySem.W.Frag) : Sp := fun vs H Q _ => ∃ (d : Addr) (many : Int), vs = [.ref d, .int many] ∧ DiceAt K H d ∧ 0 < many ∧ many < 1073741824 ∧
  ∀ (v : Int) (H' : Hp), 0 ≤ v → v < many → Fr (fun b => b = d) H H' → DiceAt K H' d → Q (.int v) H'
structure TxDice (K : PySem.W.Frag) (mg : Str → Option Value) : Prop where
  len : mg "len" = none
  int : mg "int" = none
section
variable {P : Program} {w : World} {K : PySem.W.Frag} {mg : Str → Option Value} {base : Heap} {CX : CXT}
abbrev sscDi : Stmt := topS 21
abbrev nscDi : List Str := ["_law_script", "_law_mixed", "_law_cell"]
theorem scDi : FnScope nscDi ["_law_script"] (defScope sscDi) := ⟨rfl, rfl, rfl, by decide +kernel, rfl, by decide +kernel, by decide +kernel⟩
theorem ok_dice {f : Addr} {fd : FuncData} (F : FunD K "_law_dice" "_law_dice" (defArgs sscDi) (defBody sscDi) (defScope sscDi) [] [] f fd) (T : TxDice K mg) : FnOk P w K mg base CX 1 f fd ["_law_script"] (spDice K) := by
  refine F.ok scDi (fun vs H Q E h => ?_) (fun cdv A outer s H vs Q E hr h => ?_)
  · obtain ⟨a, ns, rfl, _⟩ := h
    rfl
  · obtain ⟨a, ns, rfl, hX, hl, k⟩ := h
    have hS := hX.sq
    refine ⟨_, PSs.nox (pss_cons (ps_set (i := 1) scDi.nd rfl (Or.inl rfl) pe_int)
      (pss_cons (ps_for PassesOwn.never rfl (pi_list (pv 0)) (pg_name (i := 2) scDi.nd rfl (.inl rfl)) (pss_one (ps_set (i := 1) scDi.nd rfl (Or.inl rfl) (pe_op op_mod (pe_op op_add (pe_op op_add (pe_op op_mul (pv 1) pe_int) (pe_op op_mul (pe_op op_mod (pv 2) pe_int) pe_int)) pe_int) pe_int))))
      (pss_one (ps_ret (pe_lst (pa_cons (pv 0) (pa_cons pe_int (pa_cons (pe_op op_mul (pv 1) (pe_callTy call_int1 (by rfl) T.int (by decide +kernel) (pa_cons (pe_cmpR (op_gt) (pe_callB call_len_seq (by rfl) T.len PySem.boot_len (pa_cons (pv 0) pa_nil)) pe_int (nomark _)) pa_nil))) (pa_cons pe_int pa_nil))))))))), ?_⟩
    refine ⟨_, rfl, a, rfl, ⟨_, hS⟩, for_list (K := K) (a := a) (xs := ns.map V.int) (fun i σ H' => ∃ (m : Int) (v : Option V), 0 ≤ m ∧ m < 2147483647 ∧ σ = [some (.ref a), some (.int m), v] ∧ H' = H)
      ⟨0, none, by decide, by decide, rfl, rfl⟩ (fun i σ H' _ ⟨_, _, _, _, _, e⟩ => by rw [e]; exact hS) ?_ ?_⟩
    · rintro i y σ H' hi ⟨m, v, h0, h1, rfl, rfl⟩
      obtain ⟨z, _, rfl⟩ := map_get hi
      walk_at "rd"
      exact ⟨_, _, Int.emod_nonneg _ (by decide), Int.emod_lt_of_pos _ (by decide), rfl, rfl⟩
    · rintro σ H' ⟨m, v, h0, h1, rfl, rfl⟩
      walk_at "rd"
      refine Or.inr ⟨_, rfl, ?_⟩
      walk_at "rd"
      refine fun d hd => k _ d hd (Same.new hd) ⟨a, ns, 0, _, 0, hX.kp (Fr.new (F := fun _ => False) hd).kp, hl, by decide, ?_, ?_, upd_same⟩
      · exact Int.mul_nonneg h0 (by split <;> decide)
      · split <;> omega
abbrev sscNx : Stmt := topS 22
abbrev nscNx : List Str := ["_law_dice_here", "_law_many", "_law_found", "_law_cell"]
theorem scNx : FnScope nscNx ["_law_dice_here", "_law_many"] (defScope sscNx) := ⟨rfl, rfl, rfl, by decide +kernel, rfl, by decide +kernel, by decide +kernel⟩
theorem ok_next {f : Addr} {fd : FuncData} (F : FunD K "_law_next" "_law_next" (defArgs sscNx) (defBody sscNx) (defScope sscNx) [] [] f fd) (T : TxDice K mg) : FnOk P w K mg base CX 1 f fd ["_law_dice_here", "_law_many"] (spNext K) := by
  refine F.ok scNx (fun vs H Q E h => ?_) (fun cdv A outer s H vs Q E hr h => ?_)
  · obtain ⟨d, many, rfl, _⟩ := h
    rfl
  · obtain ⟨d, many, rfl, ⟨scr, ns, i, m, r, hX, hl, hi, hm0, hm1, hd⟩, h0, h1, k⟩ := h
    have f1 : ∀ o, Fr (fun b => b = d) H (upd H d o) := fun o => Fr.at1 (mut_lst hd)
    have f2 : ∀ xs o, Fr (fun b => b = d) H (upd (upd H d (.lst xs)) d o) := fun xs o => (f1 _).trans (Fr.at1 (mut_lst upd_same))
    have hS1 : ∀ H', Fr (fun b => b = d) H H' → SqL K H' scr (ns.map V.int) := fun H' e => (hX.kp e.kp).sq
    have hX1 := fun o => hX.kp (f1 o).kp
    have hX2 := fun xs o => hX.kp (f2 xs o).kp
    refine ⟨_, PSs.nox (pss_cons (ps_if (pt_cmpR (op_gt) (pe_ix ix_list (pv 0) pe_int (fun _ _ => rfl)) pe_int (nomark _)) (pss_cons (ps_set (i := 2) scNx.nd rfl (Or.inl rfl) (pe_op op_modN (pe_ix ix_list (pv 0) pe_int (fun _ _ => rfl)) (pv 1)))
      (pss_cons (ps_asg (pe_op op_fdivN (pe_ix ix_list (pv 0) pe_int (fun _ _ => rfl)) (pv 1)) (pg_sub (pv 0) pe_int set_list))
      (pss_one (ps_ret (pv 2))))) pss_nil)
      (pss_cons (ps_asg (pe_op op_add (pe_ix ix_list (pv 0) pe_int (fun _ _ => rfl)) pe_int) (pg_sub (pv 0) pe_int set_list))
      (pss_cons (ps_if (pt_cmpR (op_le) (pe_ix ix_list (pv 0) pe_int (fun _ _ => rfl)) (pe_callB call_len_seq (by rfl) T.len PySem.boot_len (pa_cons (pe_ix ix_list (pv 0) pe_int (fun _ _ => rfl)) pa_nil)) (nomark _)) (pss_cons (ps_set (i := 3) scNx.nd rfl (Or.inl rfl) (pe_ix ix_list (pe_ix ix_list (pv 0) pe_int (fun _ _ => rfl)) (pe_op op_sub (pe_ix ix_list (pv 0) pe_int (fun _ _ => rfl)) pe_int) (fun _ _ => rfl)))
      (pss_cons (ps_asg (pe_ifExp (pt_cmpR (op_ge) (pv 3) (pe_op op_pow pe_int pe_int) (nomark _)) (pe_op op_fdivN (pv 3) (pv 1)) pe_int) (pg_sub (pv 0) pe_int set_list))
      (pss_one (ps_ret (pe_op op_modN (pv 3) (pv 1)))))) pss_nil)
      (pss_cons (ps_asg (pe_op op_mod (pe_op op_mul (pe_ix ix_list (pv 0) pe_int (fun _ _ => rfl)) pe_int) pe_int) (pg_sub (pv 0) pe_int set_list))
      (pss_one (ps_ret (pe_op op_modN (pe_op op_fdiv (pe_ix ix_list (pv 0) pe_int (fun _ _ => rfl)) pe_int) (pv 1)))))))), ?_⟩
    walk_at "rd"
    refine iteD (fun hr => ?_) (fun hr => ?_)
    · walk_at "rd"
      exact k _ _ (Int.fmod_nonneg_of_pos _ h0) (Int.fmod_lt_of_pos _ h0) (f1 _) ⟨scr, ns, i, m, _, hX1 _, hl, hi, hm0, hm1, upd_same⟩
    · walk_at "rd"
      refine iteD (fun hc => ?_) (fun hc => ?_)
      · rw [List.length_map] at hc
        have hi2 : ∃ z, (ns.map V.int)[(i + 1 - 1).toNat]? = some (.int z) := by
          have hlt : (i + 1 - 1).toNat < ns.length := by omega
          exact ⟨ns[(i + 1 - 1).toNat], by rw [List.getElem?_map, List.getElem?_eq_getElem hlt]; rfl⟩
        obtain ⟨z, hz⟩ := hi2
        have hat : atI (ns.map V.int) (i + 1 - 1) = some (.int z) := at_of (j := (i + 1 - 1).toNat) (by omega) hz
        walk_at "rd"
        refine iteD (fun hz => ?_) (fun hz => ?_)
        · walk_at "rd"
          exact k _ _ (Int.fmod_nonneg_of_pos _ h0) (Int.fmod_lt_of_pos _ h0) (f2 _ _) ⟨scr, ns, i + 1, m, _, hX2 _ _, hl, by omega, hm0, hm1, upd_same⟩
        · walk_at "rd"
          exact k _ _ (Int.fmod_nonneg_of_pos _ h0) (Int.fmod_lt_of_pos _ h0) (f2 _ _) ⟨scr, ns, i + 1, m, _, hX2 _ _, hl, by omega, hm0, hm1, upd_same⟩
      · walk_at "rd"
        exact k _ _ (Int.fmod_nonneg_of_pos _ h0) (Int.fmod_lt_of_pos _ h0) (f2 _ _) ⟨scr, ns, i + 1, _, r, hX2 _ _, hl, by omega, Int.emod_nonneg _ (by decide), Int.emod_lt_of_pos _ (by decide), upd_same⟩
end
end Ll

namespace Ll
open PySem PySem.Spec PyProof.Rows L2
/-! ### a def's body in pieces -/
def bodyOf : Stmt → List Stmt
  | .For _ _ b _ _ => b
  | .While _ b _ _ => b
  | .If _ b _ _ => b
  | _ => []
def elseOf : Stmt → List Stmt
  | .If _ _ b _ => b
  | _ => []
/-- a piece that ends by going on: its reading -/
def Seg (X : Cx) (B : List Stmt) (I J : L2.St → Hp → Prop) : Prop := ∃ t, PSs X B t ∧ ∀ (D : Ends) (σ : L2.St) (H : Hp), I σ H → (∀ σ' H', J σ' H' → D.nx σ' H') → t D σ H
/-- the same, by turns -/
def SegI {ι : Type} (X : Cx) (B : List Stmt) (I J : ι → L2.St → Hp → Prop) : Prop := ∃ t, PSs X B t ∧ ∀ (x : ι) (D : Ends) (σ : L2.St) (H : Hp), I x σ H → (∀ σ' H', J x σ' H' → D.nx σ' H') → t D σ H
end Ll

namespace Ll
open PySem PySem.Spec PyProof.Rows L2 Yd
/-! ### dice as a part, asks of a pool that is known -/
@[irreducible] def diceA (K : PySem.W.Frag) (d : Addr) : Asr where
  P := fun F H => (∀ b, F b ↔ b = d) ∧ DiceAt K H d
  st := fun ⟨h, scr, ns, i, m, r, h1, h2, h3, h4, h5, h6⟩ k kp => ⟨h, scr, ns, i, m, r, h1.kp kp, h2, h3, h4, h5, k _ _ h6 ((h _).mpr rfl)⟩
  al := fun {F H b} ⟨h, scr, ns, i, m, r, h1, h2, h3, h4, h5, h6⟩ f => by
    obtain rfl := (h b).mp f
    rw [h6]
    exact fun z => nomatch z
theorem Sep.dice {K : PySem.W.Frag} {d : Addr} {H : Hp} (h : DiceAt K H d) : Sep [diceA K d] H := by
  unfold diceA
  exact ⟨fun b => b = d, fun b => b = d, fun _ => False, ⟨fun _ => Iff.rfl, h⟩, fun _ z => z, fun _ _ z => z, fun b => ⟨.inl, fun z => z.elim id (fun y => y.elim)⟩⟩
theorem goNext {K : PySem.W.Frag} {d : Addr} {many : Int} {cs R : List Asr} {H : Hp} {Q : Int → Hp → Prop} (h : Sep cs H) (p : Pick cs (diceA K d) R) (h0 : 0 < many) (h1 : many < 1073741824)
    (k : ∀ v H', 0 ≤ v → v < many → Sep (diceA K d :: R) H' → Q v H') : DiceAt K H d ∧ 0 < many ∧ many < 1073741824 ∧ ∀ (v : Int) (H' : Hp), 0 ≤ v → v < many → Fr (fun b => b = d) H H' → DiceAt K H' d → Q v H' := by
  unfold diceA at p k
  obtain ⟨U, F, V, ⟨f, da⟩, r, dj, u⟩ := h.pick p
  refine ⟨da, h0, h1, fun v H' a b fr da' => k v H' a b ⟨U, F, V, ⟨f, da'⟩, ?_, dj, u⟩⟩
  exact Sep.fr r (fun b z => dj b ((f b).mpr z)) fr
theorem cut_last {xs : List V} {k : Int} {i : Nat} (e : k = -(i : Int)) (h0 : 0 < i) (h : i ≤ xs.length) : cutV xs (some k) none = xs.drop (xs.length - i) := by
  subst e
  show (xs.drop (HT.sIx xs.length 0 (some (-(i : Int))))).take (xs.length - HT.sIx xs.length 0 (some (-(i : Int)))) = _
  have e1 : HT.sIx xs.length 0 (some (-(i : Int))) = xs.length - i := by
    show (if (-(i : Int)) < 0 then ((-(i : Int)) + (xs.length : Int)).toNat else min (-(i : Int)).toNat xs.length) = _
    rw [if_pos (by omega)]
    omega
  rw [e1]
  exact List.take_of_length_le (by rw [List.length_drop]; exact Nat.le_refl _)
theorem dpAll_drop {K : PySem.W.Frag} {H : Hp} : ∀ {xs : List V} {ds : List PyData} (i : Nat), DpAll K H xs ds → DpAll K H (xs.drop i) (ds.drop i)
  | _, _, 0, h => h
  | [], _, i + 1, h => by cases h; exact .nil
  | _ :: _, _, i + 1, h => by
    cases h with
    | cons h1 h2 => exact dpAll_drop i h2
theorem dpAll_take {K : PySem.W.Frag} {H : Hp} : ∀ {xs : List V} {ds : List PyData} (i : Nat), DpAll K H xs ds → DpAll K H (xs.take i) (ds.take i)
  | _, _, 0, h => .nil
  | [], _, i + 1, h => by cases h; exact .nil
  | _ :: _, _, i + 1, h => by
    cases h with
    | cons h1 h2 => exact .cons h1 (dpAll_take i h2)
/-- the last of a list of data -/
theorem dpAll_last {K : PySem.W.Frag} {H : Hp} {xs : List V} {as bs : List PyData} {k : Int} (h : DpAll K H xs (as ++ bs)) (e : k = -((bs.length : Nat) : Int)) (h0 : 0 < bs.length) : DpAll K H (cutV xs (some k) none) bs := by
  have hl := dpAll_len h
  rw [List.length_append] at hl
  rw [cut_last e h0 (by omega)]
  have h2 := dpAll_drop (xs.length - bs.length) h
  rw [show xs.length - bs.length = as.length by omega, List.drop_left] at h2
  rw [show xs.length - bs.length = as.length by omega]
  exact h2
theorem goNeSame {K : PySem.W.Frag} {x y : V} {H : Hp} {Q : VK} {d : PyData} (h1 : Dp K H x d) (h2 : Dp K H y d) (s : shp 4 d = true) (n : noB d = true) (k : Q (.bl false) H) : rNeD K x y H Q :=
  ⟨d, d, h1, h2, shaped_of 4 s, shaped_of 4 s, by rw [eqv_t n n rfl]; exact k⟩
theorem goEqSame {K : PySem.W.Frag} {x y : V} {H : Hp} {Q : VK} {d : PyData} (h1 : Dp K H x d) (h2 : Dp K H y d) (s : shp 4 d = true) (n : noB d = true) (k : Q (.bl true) H) : rEqD K x y H Q :=
  ⟨d, d, h1, h2, shaped_of 4 s, shaped_of 4 s, by rw [eqv_t n n rfl]; exact k⟩
/-- a tuple of scalars, as it stands -/
theorem dp_at {K : PySem.W.Frag} {H : Hp} {t : Addr} {xs : List V} {ds : List PyData} (h : SqT K H t xs) (v : xs.all vOk = true) (e : xs.map vD = ds) : Dp K H (.ref t) (.tuple ds) := e ▸ .tup h (dp_scs v)
theorem shp_str (k : Nat) (x : Str) : shp k (.str x) = PyData.strOk x := by cases k <;> rfl
theorem shp_int' (k : Nat) (x : Int) : shp k (.int x) = true := by cases k <;> rfl
theorem shp_non (k : Nat) : shp k .none = true := by cases k <;> rfl
theorem shp_bl (k : Nat) (b : Bool) : shp k (.bool b) = true := by cases k <;> rfl
theorem shp_tup (k : Nat) (ds : List PyData) : shp (k + 1) (.tuple ds) = shpAll k ds := rfl
theorem shp_lst (k : Nat) (ds : List PyData) : shp (k + 1) (.list ds) = shpAll k ds := rfl
theorem shpA_nil (k : Nat) : shpAll k [] = true := by cases k <;> rfl
theorem shpA_cons (k : Nat) (d : PyData) (ds : List PyData) : shpAll k (d :: ds) = (shp k d && shpAll k ds) := by cases k <;> rfl
end Ll

namespace Ll
open PySem PySem.Spec PyProof.Rows L2 Yd
theorem immAll_take : ∀ (ds : List PyData) (n : Nat), ImmAll ds = true → ImmAll (ds.take n) = true
  | [], n, _ => by rw [List.take_nil]; rfl
  | d :: ds, 0, _ => rfl
  | d :: ds, n + 1, h => by
    have h2 := Bool.and_eq_true_iff.mp (show (Imm d && ImmAll ds) = true from h)
    show (Imm d && ImmAll (ds.take n)) = true
    rw [h2.1, immAll_take ds n h2.2]
    rfl
theorem immAll_drop : ∀ (ds : List PyData) (n : Nat), ImmAll ds = true → ImmAll (ds.drop n) = true
  | [], n, _ => by rw [List.drop_nil]; rfl
  | d :: ds, 0, h => h
  | d :: ds, n + 1, h => immAll_drop ds n (Bool.and_eq_true_iff.mp (show (Imm d && ImmAll ds) = true from h)).2
theorem goSlT {K : PySem.W.Frag} {a : Addr} {ds : List PyData} {cs R : List Asr} {H : Hp} {Q : VK} {n : Int} {i : Nat} (h : Sep cs H) (p : Pick cs (lstA K a ds) R) (e : n = (i : Int)) (hi : i ≤ ds.length) (k : ∀ b H', Sep (lstA K b (ds.take i) :: cs) H' → Q (.ref b) H') : rSlL K (.ref a) none (some n) H Q := by
  obtain ⟨i0, xs, hx, hd, _⟩ := h.lst p
  refine ⟨a, xs, rfl, .of hx, fun b nb => ?_⟩
  rw [cut_take e (by rw [dpAll_len hd]; exact hi)]
  exact k b _ (h.lstNew nb (immAll_take _ _ i0) (dpAll_take i hd))
theorem goSlF {K : PySem.W.Frag} {a : Addr} {ds : List PyData} {cs R : List Asr} {H : Hp} {Q : VK} {n : Int} {i : Nat} (h : Sep cs H) (p : Pick cs (lstA K a ds) R) (e : n = (i : Int)) (hi : i ≤ ds.length) (k : ∀ b H', Sep (lstA K b (ds.drop i) :: cs) H' → Q (.ref b) H') : rSlL K (.ref a) (some n) none H Q := by
  obtain ⟨i0, xs, hx, hd, _⟩ := h.lst p
  refine ⟨a, xs, rfl, .of hx, fun b nb => ?_⟩
  rw [cut_drop e (by rw [dpAll_len hd]; exact hi)]
  exact k b _ (h.lstNew nb (immAll_drop _ _ i0) (dpAll_drop i hd))
theorem goCatO {a b : Addr} {xs ys : List V} {cs R1 R2 : List Asr} {H : Hp} {Q : VK} (h : Sep cs H) (p : Pick cs (obj a (.lst xs)) R1) (q : Pick cs (obj b (.lst ys)) R2) (hl : xs.length + ys.length ≤ 1000000) (k : ∀ c H', Sep (obj c (.lst (xs ++ ys)) :: cs) H' → Q (.ref c) H') : L2.rCat (.ref a) (.ref b) H Q :=
  ⟨a, b, xs, ys, rfl, rfl, h.get p, h.get q, by rw [PySem.sizeLine_eq]; omega, fun c nc => k c _ (h.new nc)⟩
end Ll

end
section
namespace Ll
open PySem PySem.Spec PyProof.Rows L2
/-! ### _law_like of data that are the same -/
structure TxI (K : PySem.W.Frag) (mg : Str → Option Value) : Prop where
  isinstance : mg "isinstance" = none
  tuple : mg "tuple" = none
  list : mg "list" = none
  bool : mg "bool" = none
  int : mg "int" = none
  str : mg "str" = none
  len : mg "len" = none
  range : mg "range" = none
/-- such data, n deep at the most -/
def lk : Nat → PyData → Bool
  | 0, _ => false
  | n + 1, .tuple ds => decide (ds.length ≤ 90000) && ds.all (lk n)
  | n + 1, .list ds => decide (ds.length ≤ 90000) && ds.all (lk n)
  | _ + 1, .dict _ => false
  | _ + 1, _ => true
def tyD : PyData → String
  | .none => "NoneType"
  | .bool _ => "bool"
  | .int _ => "int"
  | .str _ => "str"
  | .tuple _ => "tuple"
  | .list _ => "list"
  | .dict _ => "dict"
theorem dp_ty {K : PySem.W.Frag} {H : Hp} {v : V} {d : PyData} (h : Dp K H v d) : TyX K H v (.type (tyD d)) := by
  cases h with
  | non => exact .base .non
  | bl b => exact .base (.bl b)
  | int i => exact .base (.int i)
  | str x => exact .base (.str x)
  | lst s _ =>
    rcases s with (e | ⟨o, e⟩) | ⟨o, _, _, e, c, _⟩
    · exact .base (.lst e)
    · exact .base (.frz e)
    · exact .kList e c
  | tup s _ =>
    rcases s with (e | ⟨o, e⟩) | ⟨o, _, _, e, c, _⟩
    · exact .base (.tup e)
    · exact .fTuple e
    · exact .kTuple e c
theorem goIsi {K : PySem.W.Frag} {H : Hp} {v : V} {d : PyData} {n : String} {b : Bool} {Q : VK} (h : Dp K H v d) (e : kitB (tyD d) n = some b) (q : Q (.bl b) H) : rIsi K [v, .ty n] H Q :=
  ⟨v, .ty n, _, _, b, rfl, .ty n, dp_ty h, kit_ty e, q⟩
def spLike (K : PySem.W.Frag) (n : Nat) : Sp := fun vs H Q _ => ∃ (v u : V) (d : PyData), vs = [v, u] ∧ Dp K H v d ∧ Dp K H u d ∧ lk n d = true ∧ ∀ H', Same H H' → Q (.bl true) H'
theorem sqT_same {K : PySem.W.Frag} {H H' : Hp} (k : Same H H') {a : Addr} {xs : List V} : SqT K H a xs → SqT K H' a xs
  | .inl (.inl e) => .inl (.inl (k _ _ e))
  | .inl (.inr ⟨o, e⟩) => .inl (.inr ⟨o, k _ _ e⟩)
  | .inr h => .inr h
theorem sqL_same {K : PySem.W.Frag} {H H' : Hp} (k : Same H H') {a : Addr} {xs : List V} : SqL K H a xs → SqL K H' a xs
  | .inl (.inl e) => .inl (.inl (k _ _ e))
  | .inl (.inr ⟨o, e⟩) => .inl (.inr ⟨o, k _ _ e⟩)
  | .inr h => .inr h
theorem fm_none {n : Nat} : (List.range n).filterMap (fun _ => (none : Option V)) = [] := by simp
theorem dpAll_at {K : PySem.W.Frag} {H : Hp} : ∀ {vs : List V} {ds : List PyData} {i : Nat}, DpAll K H vs ds → i < ds.length → ∃ v d, vs[i]? = some v ∧ ds[i]? = some d ∧ Dp K H v d
  | _, _, _, .nil, h => nomatch h
  | v :: vs, d :: ds, 0, .cons p q, _ => ⟨v, d, rfl, rfl, p⟩
  | v :: vs, d :: ds, i + 1, .cons p q, h => by
    obtain ⟨v', d', e1, e2, e3⟩ := dpAll_at (i := i) q (Nat.lt_of_succ_lt_succ h)
    exact ⟨v', d', e1, e2, e3⟩
section
variable {P : Program} {w : World} {K : PySem.W.Frag} {mg : Str → Option Value} {base : Heap} {CX : CXT}
abbrev sscLk : Stmt := topS 23
abbrev nscLk : List Str := ["_law_found", "_law_due", "_law_k"]
theorem scLk : FnScope nscLk ["_law_found", "_law_due"] (defScope sscLk) := ⟨rfl, rfl, rfl, by decide +kernel, rfl, by decide +kernel, by decide +kernel⟩
theorem like_zero {k : Nat} {f : Addr} {fd : FuncData} (F : FunD K "_law_like" "_law_like" (defArgs sscLk) (defBody sscLk) (defScope sscLk) [] [] f fd) : FnOk P w K mg base CX (k + 1) f fd ["_law_found", "_law_due"] (spLike K 0) := by
  refine F.ok scLk (fun vs H Q E h => ?_) (fun cdv A0 outer s H vs Q E hr h => ?_)
  · obtain ⟨v, u, d, rfl, _⟩ := h
    rfl
  · obtain ⟨v, u, d, rfl, _, _, h0, _⟩ := h
    exact nomatch (show false = true from h0)
theorem ok_like {k n : Nat} {f : Addr} {fd : FuncData} (F : FunD K "_law_like" "_law_like" (defArgs sscLk) (defBody sscLk) (defScope sscLk) [] [] f fd) (T : TxI K mg) (G__law_like : FnG P w K mg base CX0 k "_law_like" ["_law_found", "_law_due"] [] (spLike K n)) : FnOk P w K mg base CX (k + 1) f fd ["_law_found", "_law_due"] (spLike K (n + 1)) := by
  refine F.ok scLk (fun vs H Q E h => ?_) (fun cdv A0 outer s H vs Q E hr h => ?_)
  · obtain ⟨v, u, d, rfl, _⟩ := h
    rfl
  · obtain ⟨v, u, d, rfl, p, q, hd, kk⟩ := h
    refine ⟨_, PSs.nox (pss_cons (ps_if (PW.pt (pw_or (pt_val (pe_callB call_isi (by rfl) T.isinstance (by decide +kernel) (pa_cons (pv 1) (pa_cons (pe_bltn (v := .ty "tuple") rfl T.tuple (by rfl) rfl) pa_nil)))) (pw_or1 (pt_val (pe_callB call_isi (by rfl) T.isinstance (by decide +kernel) (pa_cons (pv 1) (pa_cons (pe_bltn (v := .ty "list") rfl T.list (by rfl) rfl) pa_nil))))))) (pss_cons (ps_if (pt_cmpR (op_ne) (pe_callB call_isi (by rfl) T.isinstance (by decide +kernel) (pa_cons (pv 0) (pa_cons (pe_bltn (v := .ty "tuple") rfl T.tuple (by rfl) rfl) pa_nil))) (pe_callB call_isi (by rfl) T.isinstance (by decide +kernel) (pa_cons (pv 1) (pa_cons (pe_bltn (v := .ty "tuple") rfl T.tuple (by rfl) rfl) pa_nil))) (nomark _)) (pss_one (ps_ret pe_bl)) pss_nil)
      (pss_cons (ps_if (PW.pt (pw_or (pt_cmpR (op_ne) (pe_callB call_isi (by rfl) T.isinstance (by decide +kernel) (pa_cons (pv 0) (pa_cons (pe_bltn (v := .ty "list") rfl T.list (by rfl) rfl) pa_nil))) (pe_callB call_isi (by rfl) T.isinstance (by decide +kernel) (pa_cons (pv 1) (pa_cons (pe_bltn (v := .ty "list") rfl T.list (by rfl) rfl) pa_nil))) (nomark _)) (pw_or1 (pt_cmpR (op_ne) (pe_callB call_len_seq (by rfl) T.len PySem.boot_len (pa_cons (pv 0) pa_nil)) (pe_callB call_len_seq (by rfl) T.len PySem.boot_len (pa_cons (pv 1) pa_nil)) (nomark _))))) (pss_one (ps_ret pe_bl)) pss_nil)
      (pss_one (ps_ret (pe_cmpR (op_eqD hr.units) (pe_lc (own := [("_law_k", 2)]) (g := (gName 2)) (tt := (tNot (tB (tCall (spLike K n) [] E0 (tCons (tOp (fun x y H Q => rIxL K x y H Q ∨ rIxT K x y H Q) (tVar 0) (tVar 2)) (tCons (tOp (fun x y H Q => rIxL K x y H Q ∨ rIxT K x y H Q) (tVar 1) (tVar 2)) tNil)))))) (te := (tVar 2)) rfl scLk.nd (pi_range1 (by rfl) T.range (pa_cons (pe_callB call_len_seq (by rfl) T.len PySem.boot_len (pa_cons (pv 1) pa_nil)) pa_nil)) (blkOk_by (N := nscLk) (sc := defScope sscLk) (by decide +kernel)) (fun _ _ _ _ _ => (pg_name (i := 2) scLk.nd rfl (.inl rfl))) (fun _ _ _ _ _ => (pts_one (pt_not (pt_val (pe_callG G__law_like (hr.mono (by omega)) rfl pass0 (pa_cons (pe_ix (.or ix_list ix_tup) (pv 0) (pv 2) (fun _ _ => rfl)) (pa_cons (pe_ix (.or ix_list ix_tup) (pv 1) (pv 2) (fun _ _ => rfl)) pa_nil))))))) (fun _ _ _ _ _ => (pv 2))) (pe_lst pa_nil) (nomark _)))))) pss_nil)
      (pss_cons (ps_if (pt_cmpR (op_ne) (pe_callB call_isi (by rfl) T.isinstance (by decide +kernel) (pa_cons (pv 0) (pa_cons (pe_bltn (v := .ty "bool") rfl T.bool (by rfl) rfl) pa_nil))) (pe_callB call_isi (by rfl) T.isinstance (by decide +kernel) (pa_cons (pv 1) (pa_cons (pe_bltn (v := .ty "bool") rfl T.bool (by rfl) rfl) pa_nil))) (nomark _)) (pss_one (ps_ret pe_bl)) pss_nil)
      (pss_cons (ps_if (PW.pt (pw_or (pt_cmpR (op_ne) (pe_callB call_isi (by rfl) T.isinstance (by decide +kernel) (pa_cons (pv 0) (pa_cons (pe_bltn (v := .ty "int") rfl T.int (by rfl) rfl) pa_nil))) (pe_callB call_isi (by rfl) T.isinstance (by decide +kernel) (pa_cons (pv 1) (pa_cons (pe_bltn (v := .ty "int") rfl T.int (by rfl) rfl) pa_nil))) (nomark _)) (pw_or1 (pt_cmpR (op_ne) (pe_callB call_isi (by rfl) T.isinstance (by decide +kernel) (pa_cons (pv 0) (pa_cons (pe_bltn (v := .ty "str") rfl T.str (by rfl) rfl) pa_nil))) (pe_callB call_isi (by rfl) T.isinstance (by decide +kernel) (pa_cons (pv 1) (pa_cons (pe_bltn (v := .ty "str") rfl T.str (by rfl) rfl) pa_nil))) (nomark _))))) (pss_one (ps_ret pe_bl)) pss_nil)
      (pss_one (ps_ret (pe_cmpR (op_eq) (pv 0) (pv 1) (nomark _))))))), ?_⟩
    (refine ⟨_, rfl, ?_⟩; refine Ll.tconsI ?_; refine Ll.tcI ?_; refine Ll.tnilI ?_)
    have hn : ∀ {a b : String} {r : Bool}, kitB a b = some r → kitB a b = some r := fun e => e
    cases d with
    | dict m => exact nomatch (show false = true from hd)
    | none  =>
      cases p
      cases q
      have p : Dp K H .non (PyData.none ) := .non
      have q := p
      refine goIsi q rfl ?_
      (refine ⟨_, rfl, ?_⟩; refine ⟨_, rfl, ?_⟩; refine Ll.tconsI ?_; refine Ll.tcI ?_; refine Ll.tnilI ?_)
      refine goIsi q rfl ?_
      (refine ⟨_, rfl, ?_⟩; refine ⟨_, rfl, ?_⟩; refine Ll.tconsI ?_; refine Ll.tcI ?_; refine Ll.tnilI ?_)
      refine goIsi p rfl ?_
      (refine ⟨_, rfl, ?_⟩; refine Ll.tconsI ?_; refine Ll.tcI ?_; refine Ll.tnilI ?_)
      refine goIsi q rfl ?_
      (refine ⟨rfl, ?_⟩; refine ⟨_, rfl, ?_⟩; refine ⟨_, rfl, ?_⟩; refine Ll.tconsI ?_; refine Ll.tcI ?_; refine Ll.tnilI ?_)
      refine goIsi p rfl ?_
      (refine ⟨_, rfl, ?_⟩; refine Ll.tconsI ?_; refine Ll.tcI ?_; refine Ll.tnilI ?_)
      refine goIsi q rfl ?_
      (refine ⟨rfl, ?_⟩; refine ⟨_, rfl, ?_⟩; refine ⟨_, rfl, ?_⟩; refine Ll.tconsI ?_; refine Ll.tcI ?_; refine Ll.tnilI ?_)
      refine goIsi p rfl ?_
      (refine ⟨_, rfl, ?_⟩; refine Ll.tconsI ?_; refine Ll.tcI ?_; refine Ll.tnilI ?_)
      refine goIsi q rfl ?_
      (refine ⟨rfl, ?_⟩; refine ⟨_, rfl, ?_⟩; refine ⟨_, rfl, ?_⟩; refine ⟨_, rfl, ?_⟩; refine ⟨rfl, ?_⟩)
      rw [decide_eq_true rfl]
      exact kk _ (fun _ _ e => e)
    | bool b =>
      cases p
      cases q
      have p : Dp K H (.bl b) (PyData.bool b) := .bl b
      have q := p
      refine goIsi q rfl ?_
      (refine ⟨_, rfl, ?_⟩; refine ⟨_, rfl, ?_⟩; refine Ll.tconsI ?_; refine Ll.tcI ?_; refine Ll.tnilI ?_)
      refine goIsi q rfl ?_
      (refine ⟨_, rfl, ?_⟩; refine ⟨_, rfl, ?_⟩; refine Ll.tconsI ?_; refine Ll.tcI ?_; refine Ll.tnilI ?_)
      refine goIsi p rfl ?_
      (refine ⟨_, rfl, ?_⟩; refine Ll.tconsI ?_; refine Ll.tcI ?_; refine Ll.tnilI ?_)
      refine goIsi q rfl ?_
      (refine ⟨rfl, ?_⟩; refine ⟨_, rfl, ?_⟩; refine ⟨_, rfl, ?_⟩; refine Ll.tconsI ?_; refine Ll.tcI ?_; refine Ll.tnilI ?_)
      refine goIsi p rfl ?_
      (refine ⟨_, rfl, ?_⟩; refine Ll.tconsI ?_; refine Ll.tcI ?_; refine Ll.tnilI ?_)
      refine goIsi q rfl ?_
      (refine ⟨rfl, ?_⟩; refine ⟨_, rfl, ?_⟩; refine ⟨_, rfl, ?_⟩; refine Ll.tconsI ?_; refine Ll.tcI ?_; refine Ll.tnilI ?_)
      refine goIsi p rfl ?_
      (refine ⟨_, rfl, ?_⟩; refine Ll.tconsI ?_; refine Ll.tcI ?_; refine Ll.tnilI ?_)
      refine goIsi q rfl ?_
      (refine ⟨rfl, ?_⟩; refine ⟨_, rfl, ?_⟩; refine ⟨_, rfl, ?_⟩; refine ⟨_, rfl, ?_⟩; refine ⟨rfl, ?_⟩)
      rw [decide_eq_true rfl]
      exact kk _ (fun _ _ e => e)
    | int i =>
      cases p
      cases q
      have p : Dp K H (.int i) (PyData.int i) := .int i
      have q := p
      refine goIsi q rfl ?_
      (refine ⟨_, rfl, ?_⟩; refine ⟨_, rfl, ?_⟩; refine Ll.tconsI ?_; refine Ll.tcI ?_; refine Ll.tnilI ?_)
      refine goIsi q rfl ?_
      (refine ⟨_, rfl, ?_⟩; refine ⟨_, rfl, ?_⟩; refine Ll.tconsI ?_; refine Ll.tcI ?_; refine Ll.tnilI ?_)
      refine goIsi p rfl ?_
      (refine ⟨_, rfl, ?_⟩; refine Ll.tconsI ?_; refine Ll.tcI ?_; refine Ll.tnilI ?_)
      refine goIsi q rfl ?_
      (refine ⟨rfl, ?_⟩; refine ⟨_, rfl, ?_⟩; refine ⟨_, rfl, ?_⟩; refine Ll.tconsI ?_; refine Ll.tcI ?_; refine Ll.tnilI ?_)
      refine goIsi p rfl ?_
      (refine ⟨_, rfl, ?_⟩; refine Ll.tconsI ?_; refine Ll.tcI ?_; refine Ll.tnilI ?_)
      refine goIsi q rfl ?_
      (refine ⟨rfl, ?_⟩; refine ⟨_, rfl, ?_⟩; refine ⟨_, rfl, ?_⟩; refine Ll.tconsI ?_; refine Ll.tcI ?_; refine Ll.tnilI ?_)
      refine goIsi p rfl ?_
      (refine ⟨_, rfl, ?_⟩; refine Ll.tconsI ?_; refine Ll.tcI ?_; refine Ll.tnilI ?_)
      refine goIsi q rfl ?_
      (refine ⟨rfl, ?_⟩; refine ⟨_, rfl, ?_⟩; refine ⟨_, rfl, ?_⟩; refine ⟨_, rfl, ?_⟩; refine ⟨rfl, ?_⟩)
      rw [decide_eq_true rfl]
      exact kk _ (fun _ _ e => e)
    | str x =>
      cases p
      cases q
      have p : Dp K H (.str x) (PyData.str x) := .str x
      have q := p
      refine goIsi q rfl ?_
      (refine ⟨_, rfl, ?_⟩; refine ⟨_, rfl, ?_⟩; refine Ll.tconsI ?_; refine Ll.tcI ?_; refine Ll.tnilI ?_)
      refine goIsi q rfl ?_
      (refine ⟨_, rfl, ?_⟩; refine ⟨_, rfl, ?_⟩; refine Ll.tconsI ?_; refine Ll.tcI ?_; refine Ll.tnilI ?_)
      refine goIsi p rfl ?_
      (refine ⟨_, rfl, ?_⟩; refine Ll.tconsI ?_; refine Ll.tcI ?_; refine Ll.tnilI ?_)
      refine goIsi q rfl ?_
      (refine ⟨rfl, ?_⟩; refine ⟨_, rfl, ?_⟩; refine ⟨_, rfl, ?_⟩; refine Ll.tconsI ?_; refine Ll.tcI ?_; refine Ll.tnilI ?_)
      refine goIsi p rfl ?_
      (refine ⟨_, rfl, ?_⟩; refine Ll.tconsI ?_; refine Ll.tcI ?_; refine Ll.tnilI ?_)
      refine goIsi q rfl ?_
      (refine ⟨rfl, ?_⟩; refine ⟨_, rfl, ?_⟩; refine ⟨_, rfl, ?_⟩; refine Ll.tconsI ?_; refine Ll.tcI ?_; refine Ll.tnilI ?_)
      refine goIsi p rfl ?_
      (refine ⟨_, rfl, ?_⟩; refine Ll.tconsI ?_; refine Ll.tcI ?_; refine Ll.tnilI ?_)
      refine goIsi q rfl ?_
      (refine ⟨rfl, ?_⟩; refine ⟨_, rfl, ?_⟩; refine ⟨_, rfl, ?_⟩; refine ⟨_, rfl, ?_⟩; refine ⟨rfl, ?_⟩)
      rw [decide_eq_true rfl]
      exact kk _ (fun _ _ e => e)
    | tuple ds =>
      refine goIsi q rfl ?_
      (refine ⟨_, rfl, ?_⟩; refine ⟨_, rfl, ?_⟩; refine Ll.tconsI ?_; refine Ll.tcI ?_; refine Ll.tnilI ?_)
      refine goIsi p rfl ?_
      (refine ⟨_, rfl, ?_⟩; refine Ll.tconsI ?_; refine Ll.tcI ?_; refine Ll.tnilI ?_)
      refine goIsi q rfl ?_
      (refine ⟨rfl, ?_⟩; refine ⟨_, rfl, ?_⟩; refine ⟨_, rfl, ?_⟩; refine Ll.tconsI ?_; refine Ll.tcI ?_; refine Ll.tnilI ?_)
      refine goIsi p rfl ?_
      (refine ⟨_, rfl, ?_⟩; refine Ll.tconsI ?_; refine Ll.tcI ?_; refine Ll.tnilI ?_)
      refine goIsi q rfl ?_
      (refine ⟨rfl, ?_⟩; refine ⟨_, rfl, ?_⟩; refine ⟨_, rfl, ?_⟩; refine Ll.tnilI ?_)
      have p0 := p
      have q0 := q
      cases p with
      | tup s1 a1 =>
      rename_i a xs
      cases q with
      | tup s2 a2 =>
      rename_i b ys
      have l1 := dpAll_len a1
      have l2 := dpAll_len a2
      have hd2 := Bool.and_eq_true_iff.mp hd
      have hle := of_decide_eq_true hd2.1
      (refine ⟨_, _, rfl, .inr (by (show _root_.L2.SqT _ _ _ _; assumption)), ?_⟩; refine ⟨_, rfl, ?_⟩; refine Ll.tnilI ?_; refine ⟨_, _, rfl, .inr (by (show _root_.L2.SqT _ _ _ _; assumption)), ?_⟩; refine ⟨rfl, ?_⟩; refine ⟨_, rfl, ?_⟩)
      refine iteNF (by rw [l1, l2]) ?_
      (refine ⟨_, rfl, ?_⟩; refine Ll.tnilI ?_; refine ⟨_, _, rfl, .inr (by (show _root_.L2.SqT _ _ _ _; assumption)), ?_⟩; refine ⟨_, rfl, ?_⟩)
      refine ⟨by omega, by omega, fun D nD => lc_pure (walk_range (lo := 0) (n := ((ys.length : Nat) : Int).toNat)) (fun _ => none) nD (by omega) (fun _ _ => trivial) ?_ ?_⟩
      · rintro j x H8 H9 Qy Qn hj s8 ⟨rfl, rfl⟩ hy hn'
        have hj2 : j < ds.length := by omega
        obtain ⟨v1, d1, e1, e2, e3⟩ := dpAll_at a1 hj2
        obtain ⟨v2, d2, f1, f2, f3⟩ := dpAll_at a2 hj2
        obtain rfl : d1 = d2 := Option.some.inj (e2.symm.trans f2)
        have hk : lk n d1 = true := List.all_eq_true.mp hd2.2 _ (List.mem_of_getElem? e2)
        have t1 := sqT_same s8 s1
        have t2 := sqT_same s8 s2
        have e4 := dp_same s8 _ _ e3
        have f4 := dp_same s8 _ _ f3
        have g1 : atI xs (0 + (j : Int)) = some v1 := by rw [Int.zero_add]; exact atI_nat e1
        have g2 : atI ys (0 + (j : Int)) = some v2 := by rw [Int.zero_add]; exact atI_nat f1
        refine ⟨rfl, ?_⟩
        (refine ⟨_, rfl, ?_⟩; refine ⟨_, rfl, ?_⟩)
        refine .inr ⟨_, _, _, _, rfl, rfl, t1, g1, ?_⟩
        (refine ⟨_, rfl, ?_⟩; refine ⟨_, rfl, ?_⟩)
        refine .inr ⟨_, _, _, _, rfl, rfl, t2, g2, ?_⟩
        (refine Ll.tnilI ?_)
        refine ⟨v1, v2, d1, rfl, e4, f4, hk, fun H3 s3 => ?_⟩
        (refine ⟨_, rfl, ?_⟩; refine _root_.L2.iteF ?_)
        exact hn' H3 rfl s3
      · intro H6 s6 e6
        rw [fm_none] at e6
        (refine Ll.tnilI ?_; (refine ⟨(by (show _ ≤ PySem.sizeLine); (show (_ : Prop); decide)), ?_⟩))
        intro p np
        have e7 : upd H6 p (.lst []) D = some (.lst []) := by
          rw [upd_ne (ne_of_none e6 np)]
          exact e6
        refine goEqE 3 (.lst (L2.SqL.of e7) .nil) (L2.SqL.of upd_same) rfl (by decide) rfl ?_
        rw [decide_eq_true rfl]
        exact kk _ (fun b o e => Same.new np _ _ (s6 b o e))
    | list ds =>
      refine goIsi q rfl ?_
      (refine ⟨_, rfl, ?_⟩; refine ⟨_, rfl, ?_⟩; refine Ll.tconsI ?_; refine Ll.tcI ?_; refine Ll.tnilI ?_)
      refine goIsi q rfl ?_
      (refine ⟨_, rfl, ?_⟩; refine ⟨_, rfl, ?_⟩; refine Ll.tconsI ?_; refine Ll.tcI ?_; refine Ll.tnilI ?_)
      refine goIsi p rfl ?_
      (refine ⟨_, rfl, ?_⟩; refine Ll.tconsI ?_; refine Ll.tcI ?_; refine Ll.tnilI ?_)
      refine goIsi q rfl ?_
      (refine ⟨rfl, ?_⟩; refine ⟨_, rfl, ?_⟩; refine ⟨_, rfl, ?_⟩; refine Ll.tconsI ?_; refine Ll.tcI ?_; refine Ll.tnilI ?_)
      refine goIsi p rfl ?_
      (refine ⟨_, rfl, ?_⟩; refine Ll.tconsI ?_; refine Ll.tcI ?_; refine Ll.tnilI ?_)
      refine goIsi q rfl ?_
      (refine ⟨rfl, ?_⟩; refine ⟨_, rfl, ?_⟩; refine ⟨_, rfl, ?_⟩; refine Ll.tnilI ?_)
      have p0 := p
      have q0 := q
      cases p with
      | lst s1 a1 =>
      rename_i a xs
      cases q with
      | lst s2 a2 =>
      rename_i b ys
      have l1 := dpAll_len a1
      have l2 := dpAll_len a2
      have hd2 := Bool.and_eq_true_iff.mp hd
      have hle := of_decide_eq_true hd2.1
      (refine ⟨_, _, rfl, .inl (by (show _root_.L2.SqL _ _ _ _; assumption)), ?_⟩; refine ⟨_, rfl, ?_⟩; refine Ll.tnilI ?_; refine ⟨_, _, rfl, .inl (by (show _root_.L2.SqL _ _ _ _; assumption)), ?_⟩; refine ⟨rfl, ?_⟩; refine ⟨_, rfl, ?_⟩)
      refine iteNF (by rw [l1, l2]) ?_
      (refine ⟨_, rfl, ?_⟩; refine Ll.tnilI ?_; refine ⟨_, _, rfl, .inl (by (show _root_.L2.SqL _ _ _ _; assumption)), ?_⟩; refine ⟨_, rfl, ?_⟩)
      refine ⟨by omega, by omega, fun D nD => lc_pure (walk_range (lo := 0) (n := ((ys.length : Nat) : Int).toNat)) (fun _ => none) nD (by omega) (fun _ _ => trivial) ?_ ?_⟩
      · rintro j x H8 H9 Qy Qn hj s8 ⟨rfl, rfl⟩ hy hn'
        have hj2 : j < ds.length := by omega
        obtain ⟨v1, d1, e1, e2, e3⟩ := dpAll_at a1 hj2
        obtain ⟨v2, d2, f1, f2, f3⟩ := dpAll_at a2 hj2
        obtain rfl : d1 = d2 := Option.some.inj (e2.symm.trans f2)
        have hk : lk n d1 = true := List.all_eq_true.mp hd2.2 _ (List.mem_of_getElem? e2)
        have t1 := sqL_same s8 s1
        have t2 := sqL_same s8 s2
        have e4 := dp_same s8 _ _ e3
        have f4 := dp_same s8 _ _ f3
        have g1 : atI xs (0 + (j : Int)) = some v1 := by rw [Int.zero_add]; exact atI_nat e1
        have g2 : atI ys (0 + (j : Int)) = some v2 := by rw [Int.zero_add]; exact atI_nat f1
        refine ⟨rfl, ?_⟩
        (refine ⟨_, rfl, ?_⟩; refine ⟨_, rfl, ?_⟩)
        refine .inl ⟨_, _, _, _, rfl, rfl, t1, g1, ?_⟩
        (refine ⟨_, rfl, ?_⟩; refine ⟨_, rfl, ?_⟩)
        refine .inl ⟨_, _, _, _, rfl, rfl, t2, g2, ?_⟩
        (refine Ll.tnilI ?_)
        refine ⟨v1, v2, d1, rfl, e4, f4, hk, fun H3 s3 => ?_⟩
        (refine ⟨_, rfl, ?_⟩; refine _root_.L2.iteF ?_)
        exact hn' H3 rfl s3
      · intro H6 s6 e6
        rw [fm_none] at e6
        (refine Ll.tnilI ?_; (refine ⟨(by (show _ ≤ PySem.sizeLine); (show (_ : Prop); decide)), ?_⟩))
        intro p np
        have e7 : upd H6 p (.lst []) D = some (.lst []) := by
          rw [upd_ne (ne_of_none e6 np)]
          exact e6
        refine goEqE 3 (.lst (L2.SqL.of e7) .nil) (L2.SqL.of upd_same) rfl (by decide) rfl ?_
        rw [decide_eq_true rfl]
        exact kk _ (fun b o e => Same.new np _ _ (s6 b o e))
end
end Ll

end
section
local macro_rules | `(tactic| walk_at "ip") => `(tactic| intro p np)
local macro_rules | `(tactic| walk_at "st.0") => `(tactic| ((conv => pattern (_root_.L2.upd _ _ _)); generalize hX : _root_.L2.upd _ _ _ = H'; have hS := Ll.newT_eq (K := by assumption) hX (by assumption) (by assumption); clear hX))
local macro_rules | `(tactic| walk_at "st.1") => `(tactic| ((conv => pattern (_root_.L2.upd _ _ _)); generalize hX : _root_.L2.upd _ _ _ = H'; have hS := Ll.new_eq hX (by assumption) (by assumption); clear hX))
namespace Ll
open PySem PySem.Spec PyProof.Rows L2
section
variable {P : Program} {w : World} {K : PySem.W.Frag} {mg : Str → Option Value} {base : Heap} {CX : CXT} {C D : Addr}
abbrev sscBw : Stmt := inClass (topS 11) 0
abbrev nscBw : List Str := ["self", "at"]
theorem scBw : FnScope nscBw ["self", "at"] (defScope sscBw) := ⟨rfl, rfl, rfl, by decide +kernel, rfl, by decide +kernel, by decide +kernel⟩
theorem ok_badWork {f : Addr} {fd : FuncData} (F : FunD K "__init__" "BadWork.__init__" (defArgs sscBw) (defBody sscBw) (defScope sscBw) [] [] f fd) (L : LeC K mg D) (O : OexC K C) (nf : PySem.W.findIn K (.ref C) "at" = some none) :
    FnOk P w K mg base CX 1 f fd ["self", "at"] (spOx K C "at") := by
  refine F.ok scBw (fun vs H Q E h => ?_) (fun cdv A0 outer s H vs Q E hr h => ?_)
  · obtain ⟨a, v, rfl, _⟩ := h
    rfl
  · obtain ⟨a, v, rfl, ha, k⟩ := h
    refine ⟨_, PSs.nox (pss_cons (ps_expr (pe_leI L rfl (pa_cons (pv 0) (pa_cons pe_str pa_nil)))) (pss_one (ps_ost (pv 0) (pv 1)))), ?_⟩
    refine ⟨_, rfl, ?_⟩
    refine ⟨a, C, [.str _], rfl, Nat.le_of_ble_eq_true rfl, O, ha, ?_⟩
    refine ⟨_, rfl, ?_⟩
    refine ⟨_, rfl, ?_⟩
    exact ⟨a, C, rfl, O, nf, .inl ⟨ha, fun dx n ne => k dx n ne⟩⟩
end
end Ll

namespace Ll
open PySem PySem.Spec PyProof.Rows L2 Yd
/-! ### _law_told: what is told, or the words of any refusal -/
/-- a refusal: one without data, work that can't be, a pool that can't be -/
inductive Xf where | pl (i : Nat) | wk (k : Int) | pw (s : Str)
def Xf.ix : Xf → Nat
  | .pl i => i
  | .wk _ => 9
  | .pw _ => 0
def Xf.ok : Xf → Prop
  | .pl i => 1 ≤ i ∧ i ≤ 8
  | _ => True
theorem Xf.lt {x : Xf} (h : x.ok) : x.ix < 10 := by
  cases x with
  | pl i => have h : 1 ≤ i ∧ i ≤ 8 := h; show i < 10; omega
  | wk k => show 9 < 10; decide
  | pw s => show 0 < 10; decide
def tnS : List Str := ["BadPool", "BadMoment", "Stopped", "Waits", "Full", "NotWaiting", "NotOpening", "NotLent", "BadCount", "BadWork"]
def Xf.nm (x : Xf) : Str := tnS.getD x.ix ""
/-- what is told of it -/
def Xf.vs (x : Xf) : List V := .str "refused" :: .str x.nm :: (match x with
  | .pl _ => []
  | .wk k => [.int k]
  | .pw s => [.str s])
/-- its data -/
def Xf.at (x : Xf) (d : Option Addr) (H : Hp) : Prop := match x with
  | .pl _ => d = none
  | .wk k => ∃ dd, d = some dd ∧ H dd = some (.xd [("at", .int k)])
  | .pw s => ∃ dd, d = some dd ∧ H dd = some (.xd [("word", .str s)])
structure TxQ (K : PySem.W.Frag) (mg : Str → Option Value) (cs : Nat → Addr) (le : Addr) : Prop where
  isinstance : mg "isinstance" = none
  ValueError : mg "ValueError" = none
  le0 : mg "LentError" = some (.ref le)
  c_BadPool : GlV mg "BadPool" (.ref (cs 0))
  c_BadMoment : GlV mg "BadMoment" (.ref (cs 1))
  c_Stopped : GlV mg "Stopped" (.ref (cs 2))
  c_Waits : GlV mg "Waits" (.ref (cs 3))
  c_Full : GlV mg "Full" (.ref (cs 4))
  c_NotWaiting : GlV mg "NotWaiting" (.ref (cs 5))
  c_NotOpening : GlV mg "NotOpening" (.ref (cs 6))
  c_NotLent : GlV mg "NotLent" (.ref (cs 7))
  c_BadCount : GlV mg "BadCount" (.ref (cs 8))
  c_BadWork : GlV mg "BadWork" (.ref (cs 9))
  ec : ∀ j, j < 10 → ExcC K (cs j)
  kit : ∀ j i, j < 10 → i < 10 → PySem.W.kitOne K (.ref (cs j)) (.ref (cs i)) = some (decide (i = j))
  kitV : ∀ j, j < 10 → PySem.W.kitOne K (.ref (cs j)) (.type "ValueError") = some true
  exm : ∀ j, j < 10 → PySem.W.exmOne K (.ref (cs j)) (.ref le) = some true
  x_word : XfC K (cs 0)
  n_word : PySem.W.findIn K (.ref (cs 0)) "word" = some none
  x_at : XfC K (cs 9)
  n_at : PySem.W.findIn K (.ref (cs 9)) "at" = some none
theorem Xf.data {x : Xf} {d : Option Addr} {H : Hp} (h : x.at d H) : d = none ∨ ∃ (dd : Addr) (fs : List (Str × V)), d = some dd ∧ H dd = some (.xd fs) := by
  cases x with
  | pl i => exact .inl h
  | wk k =>
    obtain ⟨dd, h1, h2⟩ := h
    exact .inr ⟨dd, _, h1, h2⟩
  | pw s =>
    obtain ⟨dd, h1, h2⟩ := h
    exact .inr ⟨dd, _, h1, h2⟩
theorem Xf.same {x : Xf} {d : Option Addr} {H H' : Hp} (h : x.at d H) (s : Same H H') : x.at d H' := by
  cases x with
  | pl i => exact h
  | wk k =>
    obtain ⟨dd, h1, h2⟩ := h
    exact ⟨dd, h1, s _ _ h2⟩
  | pw s2 =>
    obtain ⟨dd, h1, h2⟩ := h
    exact ⟨dd, h1, s _ _ h2⟩
theorem goIsQ {K : PySem.W.Frag} {mg : Str → Option Value} {cs : Nat → Addr} {le a : Addr} (T : TxQ K mg cs le) {x : Xf} (hx : x.ok) (i : Nat) (hi : i < 10) {d : Option Addr} {ps R : List Asr} {H H0 : Hp} {Q : VK} (hS : Sep ps H) (p : Pick ps (allA H0) R) (hd : x.at d H0) (q : Q (.bl (decide (i = x.ix))) H) : rIsQ K (cs x.ix) a d [.ref a, .ref (cs i)] H Q :=
  ⟨.ref (cs i), .ref (cs i), _, rfl, fun u h => h, T.kit _ i (Xf.lt hx) hi, Xf.data (Xf.same hd (hS.all p)), q⟩
def kindQ (j : Nat) : List V := [.bl (decide (0 = j)), .bl (decide (1 = j)), .bl (decide (2 = j)), .bl (decide (3 = j)), .bl (decide (4 = j)), .bl (decide (5 = j)), .bl (decide (6 = j)), .bl (decide (7 = j)), .bl (decide (8 = j)), .bl (decide (9 = j))]
theorem kindQ_at (j m : Nat) (h : m < 10) : (kindQ j)[m]? = some (.bl (decide (m = j))) := by
  match m, h with
  | 0, _ => rfl
  | 1, _ => rfl
  | 2, _ => rfl
  | 3, _ => rfl
  | 4, _ => rfl
  | 5, _ => rfl
  | 6, _ => rfl
  | 7, _ => rfl
  | 8, _ => rfl
  | 9, _ => rfl
theorem kindQ_count {j : Nat} (h : j < 10) : (kindQ j).countP (fun z => eqV z (.bl true)) = 1 := by
  match j, h with
  | 0, _ => rfl
  | 1, _ => rfl
  | 2, _ => rfl
  | 3, _ => rfl
  | 4, _ => rfl
  | 5, _ => rfl
  | 6, _ => rfl
  | 7, _ => rfl
  | 8, _ => rfl
  | 9, _ => rfl
theorem kindQ_first {j m : Nat} {z : V} (hj : j < 10) (h : m < j) (e : (kindQ j)[m]? = some z) : eqV z (.bl true) = false := by
  rw [kindQ_at j m (by omega), decide_eq_false (by omega)] at e
  cases e
  rfl
def termQ : List V := tnS.map V.str
theorem termQ_at {x : Xf} (h : x.ok) : atI termQ ((x.ix : Nat) : Int) = some (.str x.nm) := by
  have hl := Xf.lt h
  refine atI_nat ?_
  unfold termQ Xf.nm
  rw [List.getElem?_map, List.getD_eq_getElem?_getD, List.getElem?_eq_getElem (show x.ix < tnS.length from hl)]
  rfl
theorem nm_pool {x : Xf} (h : x.ok) : x.nm = "BadPool" ↔ x.ix = 0 := by
  have hl := Xf.lt h
  unfold Xf.nm
  generalize x.ix = j at *
  match j, hl with
  | 0, _ => exact ⟨fun _ => rfl, fun _ => rfl⟩
  | 1, _ => exact ⟨fun z => absurd z (by decide), fun z => absurd z (by decide)⟩
  | 2, _ => exact ⟨fun z => absurd z (by decide), fun z => absurd z (by decide)⟩
  | 3, _ => exact ⟨fun z => absurd z (by decide), fun z => absurd z (by decide)⟩
  | 4, _ => exact ⟨fun z => absurd z (by decide), fun z => absurd z (by decide)⟩
  | 5, _ => exact ⟨fun z => absurd z (by decide), fun z => absurd z (by decide)⟩
  | 6, _ => exact ⟨fun z => absurd z (by decide), fun z => absurd z (by decide)⟩
  | 7, _ => exact ⟨fun z => absurd z (by decide), fun z => absurd z (by decide)⟩
  | 8, _ => exact ⟨fun z => absurd z (by decide), fun z => absurd z (by decide)⟩
  | 9, _ => exact ⟨fun z => absurd z (by decide), fun z => absurd z (by decide)⟩
theorem nm_work {x : Xf} (h : x.ok) : x.nm = "BadWork" ↔ x.ix = 9 := by
  have hl := Xf.lt h
  unfold Xf.nm
  generalize x.ix = j at *
  match j, hl with
  | 0, _ => exact ⟨fun z => absurd z (by decide), fun z => absurd z (by decide)⟩
  | 1, _ => exact ⟨fun z => absurd z (by decide), fun z => absurd z (by decide)⟩
  | 2, _ => exact ⟨fun z => absurd z (by decide), fun z => absurd z (by decide)⟩
  | 3, _ => exact ⟨fun z => absurd z (by decide), fun z => absurd z (by decide)⟩
  | 4, _ => exact ⟨fun z => absurd z (by decide), fun z => absurd z (by decide)⟩
  | 5, _ => exact ⟨fun z => absurd z (by decide), fun z => absurd z (by decide)⟩
  | 6, _ => exact ⟨fun z => absurd z (by decide), fun z => absurd z (by decide)⟩
  | 7, _ => exact ⟨fun z => absurd z (by decide), fun z => absurd z (by decide)⟩
  | 8, _ => exact ⟨fun z => absurd z (by decide), fun z => absurd z (by decide)⟩
  | 9, _ => exact ⟨fun _ => rfl, fun _ => rfl⟩
def tSuiteQ (K : PySem.W.Frag) (cs : Nat → Addr) (a : Addr) (cls : Value) (d : Option Addr) : TS := fun D σ H => ∃ (x : Xf) (σ0 : L2.St), x.ok ∧ cls = .ref (cs x.ix) ∧ x.at d H ∧ σ = σ0.set 1 (some (.ref a)) ∧
  ∀ p H', Same H H' → SqT K H' p x.vs → D.rt (.ref p) H'
section
variable {P : Program} {w : World} {K : PySem.W.Frag} {mg : Str → Option Value} {base : Heap} {cs : Nat → Addr} {le : Addr}
abbrev soTold : Stmt := topS 24
abbrev noTold : List Str := ["_law_work", "e", "_law_kinds", "_law_terms", "_law_term"]
theorem oTold : FnScope noTold ["_law_work"] (defScope soTold) := ⟨rfl, rfl, rfl, by decide +kernel, rfl, by decide +kernel, by decide +kernel⟩
abbrev XT (P : Program) (w : World) (K : PySem.W.Frag) (mg : Str → Option Value) (base : Heap) (g : Addr) (cdg : Value) (A : Around) (outer : List Env) (s : Shared) (H : Hp) : Cx :=
  (cxOf C8.CX0 P w K mg base noTold "_law_told" (defScope soTold) g cdg A outer s H C8.E0).nox
end
section
variable {P : Program} {w : World} {mg : Str → Option Value} {base : Heap} {cs : Nat → Addr} {le : Addr}
theorem toldQ_walk {g : Addr} {cdg : Value} {A : Around} {outer : List Env} {s0 : Shared} {H0 : Hp} {a : Addr} {oe : Obj} {d : Option Addr} {pn : List (Addr × Obj)} {K : PySem.W.Frag} (T : TxQ K mg cs le) (x : Xf) (hx : x.ok) (EC : ExcC K (cs x.ix)) (hz : Zc (.ref (cs x.ix)) d oe) (hf : ∃ vs, oe.data = .fields vs) (v0 v2 v3 v4 : Option V) :
    ∃ t, PSs ((XT P w K mg base g cdg A outer s0 H0).suite a ((a, oe) :: pn)) (Ll.suiteOf ((defBody soTold).getD 0 (.Pass ⟨0, 0, 0, 0⟩))) t ∧ ∀ (D : Ends) (H : Hp), x.at d H → (∀ p H', Same H H' → SqT K H' p x.vs → D.rt (.ref p) H') → t D [v0, some (.ref a), v2, v3, v4] H := by
  refine ⟨_, (pss_cons (ps_set (i := 2) oTold.nd rfl (Or.inl rfl) (pe_lst (pa_cons (pe_callB (call_isQ EC hz hf) (by rfl) T.isinstance (by decide +kernel) (pa_cons (pv 1) (pa_cons (pe_gV rfl T.c_BadPool) pa_nil))) (pa_cons (pe_callB (call_isQ EC hz hf) (by rfl) T.isinstance (by decide +kernel) (pa_cons (pv 1) (pa_cons (pe_gV rfl T.c_BadMoment) pa_nil))) (pa_cons (pe_callB (call_isQ EC hz hf) (by rfl) T.isinstance (by decide +kernel) (pa_cons (pv 1) (pa_cons (pe_gV rfl T.c_Stopped) pa_nil))) (pa_cons (pe_callB (call_isQ EC hz hf) (by rfl) T.isinstance (by decide +kernel) (pa_cons (pv 1) (pa_cons (pe_gV rfl T.c_Waits) pa_nil))) pa_nil))))))
      (pss_cons (ps_set (i := 2) oTold.nd rfl (Or.inl rfl) (pe_op op_cat (pv 2) (pe_lst (pa_cons (pe_callB (call_isQ EC hz hf) (by rfl) T.isinstance (by decide +kernel) (pa_cons (pv 1) (pa_cons (pe_gV rfl T.c_Full) pa_nil))) (pa_cons (pe_callB (call_isQ EC hz hf) (by rfl) T.isinstance (by decide +kernel) (pa_cons (pv 1) (pa_cons (pe_gV rfl T.c_NotWaiting) pa_nil))) (pa_cons (pe_callB (call_isQ EC hz hf) (by rfl) T.isinstance (by decide +kernel) (pa_cons (pv 1) (pa_cons (pe_gV rfl T.c_NotOpening) pa_nil))) pa_nil))))))
      (pss_cons (ps_set (i := 2) oTold.nd rfl (Or.inl rfl) (pe_op op_cat (pv 2) (pe_lst (pa_cons (pe_callB (call_isQ EC hz hf) (by rfl) T.isinstance (by decide +kernel) (pa_cons (pv 1) (pa_cons (pe_gV rfl T.c_NotLent) pa_nil))) (pa_cons (pe_callB (call_isQ EC hz hf) (by rfl) T.isinstance (by decide +kernel) (pa_cons (pv 1) (pa_cons (pe_gV rfl T.c_BadCount) pa_nil))) (pa_cons (pe_callB (call_isQ EC hz hf) (by rfl) T.isinstance (by decide +kernel) (pa_cons (pv 1) (pa_cons (pe_gV rfl T.c_BadWork) pa_nil))) pa_nil))))))
      (pss_cons (ps_if (PW.pt (pw_or (pt_cmpR (op_ne) (pe_bm PySem.F.plainAttrs_list PySem.F.slot_list_count PySem.F.type_list_count mt_cntV (pv 2) (pa_cons pe_bl pa_nil)) pe_int (nomark _)) (pw_or1 (pt_not (pt_val (pe_callB (call_isQ EC hz hf) (by rfl) T.isinstance (by decide +kernel) (pa_cons (pv 1) (pa_cons (pe_bltn (v := .ty "ValueError") rfl T.ValueError (by rfl) rfl) pa_nil)))))))) (pss_one (ps_ret (pe_tup (pa_cons pe_str (pa_cons pe_str pa_nil))))) pss_nil)
      (pss_cons (ps_set (i := 3) oTold.nd rfl (Or.inl rfl) (pe_lst (pa_cons pe_str (pa_cons pe_str (pa_cons pe_str (pa_cons pe_str (pa_cons pe_str (pa_cons pe_str (pa_cons pe_str (pa_cons pe_str pa_nil))))))))))
      (pss_cons (ps_set (i := 4) oTold.nd rfl (Or.inl rfl) (pe_ix ix_list (pe_op op_cat (pv 3) (pe_lst (pa_cons pe_str (pa_cons pe_str pa_nil)))) (pe_bm PySem.F.plainAttrs_list PySem.F.slot_list_index PySem.F.type_list_index mt_index (pv 2) (pa_cons pe_bl pa_nil)) (fun _ _ => rfl)))
      (pss_cons (ps_if (pt_cmpR (op_eq) (pv 4) pe_str (nomark _)) (pss_one (ps_ret (pe_tup (pa_cons pe_str (pa_cons (pv 4) (pa_cons (pe_xf T.x_word T.n_word hz hf (pv 1)) pa_nil)))))) pss_nil)
      (pss_one (ps_ret (pe_ifExp (pt_cmpR (op_eq) (pv 4) pe_str (nomark _)) (pe_tup (pa_cons pe_str (pa_cons (pv 4) (pa_cons (pe_xf T.x_at T.n_at hz hf (pv 1)) pa_nil)))) (pe_tup (pa_cons pe_str (pa_cons (pv 4) pa_nil))))))))))))), ?_⟩
  intro D H hd k
  have hj := Xf.lt hx
  have hS := Sep.all0 H
  (refine ⟨_, rfl, ?_⟩; refine Ll.tconsI ?_; refine Ll.tcI ?_; refine Ll.tnilI ?_)
  refine goIsQ T hx 0 (by decide) (by assumption) (by exact Ll.Pick.hd) hd ?_
  (refine ⟨_, rfl, ?_⟩; refine Ll.tconsI ?_; refine Ll.tcI ?_; refine Ll.tnilI ?_)
  refine goIsQ T hx 1 (by decide) (by assumption) (by exact Ll.Pick.hd) hd ?_
  (refine ⟨_, rfl, ?_⟩; refine Ll.tconsI ?_; refine Ll.tcI ?_; refine Ll.tnilI ?_)
  refine goIsQ T hx 2 (by decide) (by assumption) (by exact Ll.Pick.hd) hd ?_
  (refine ⟨_, rfl, ?_⟩; refine Ll.tconsI ?_; refine Ll.tcI ?_; refine Ll.tnilI ?_)
  refine goIsQ T hx 3 (by decide) (by assumption) (by exact Ll.Pick.hd) hd ?_
  (refine Ll.tnilI ?_; (refine ⟨(by (show _ ≤ PySem.sizeLine); (show (_ : Prop); exact Nat.lt_of_le_of_lt (m := 16000000) (by ((simp only [List.length_map, List.length_append, List.length_replicate, List.length_cons, List.length_nil, List.length_singleton, List.length_set, List.length_range, List.length_take, List.length_drop, List.length_dropLast]; omega))) (by decide))), ?_⟩); (walk_at "ip"; walk_at "st.1"); refine ⟨_, rfl, ?_⟩; refine ⟨_, rfl, ?_⟩; refine Ll.tconsI ?_; refine Ll.tcI ?_; refine Ll.tnilI ?_)
  refine goIsQ T hx 4 (by decide) (by assumption) (by exact Ll.Pick.tl Ll.Pick.hd) hd ?_
  (refine ⟨_, rfl, ?_⟩; refine Ll.tconsI ?_; refine Ll.tcI ?_; refine Ll.tnilI ?_)
  refine goIsQ T hx 5 (by decide) (by assumption) (by exact Ll.Pick.tl Ll.Pick.hd) hd ?_
  (refine ⟨_, rfl, ?_⟩; refine Ll.tconsI ?_; refine Ll.tcI ?_; refine Ll.tnilI ?_)
  refine goIsQ T hx 6 (by decide) (by assumption) (by exact Ll.Pick.tl Ll.Pick.hd) hd ?_
  (refine Ll.tnilI ?_; (refine ⟨(by (show _ ≤ PySem.sizeLine); (show (_ : Prop); exact Nat.lt_of_le_of_lt (m := 16000000) (by ((simp only [List.length_map, List.length_append, List.length_replicate, List.length_cons, List.length_nil, List.length_singleton, List.length_set, List.length_range, List.length_take, List.length_drop, List.length_dropLast]; omega))) (by decide))), ?_⟩); (walk_at "ip"; walk_at "st.1"))
  refine ⟨_, _, _, _, rfl, rfl, (by (show (_ : Option _root_.L2.HO) = _; exact Ll.Sep.get (by assumption) (by exact Ll.Pick.tl Ll.Pick.hd))), (by (show (_ : Option _root_.L2.HO) = _; exact Ll.Sep.get (by assumption) (by exact Ll.Pick.hd))), (by rw [PySem.sizeLine_eq]; exact Nat.le_of_ble_eq_true rfl), ?_⟩
  ((walk_at "ip"; walk_at "st.1"); refine ⟨_, rfl, ?_⟩; refine ⟨_, rfl, ?_⟩; refine Ll.tconsI ?_; refine Ll.tcI ?_; refine Ll.tnilI ?_)
  refine goIsQ T hx 7 (by decide) (by assumption) (by exact Ll.Pick.tl (Ll.Pick.tl (Ll.Pick.tl Ll.Pick.hd))) hd ?_
  (refine ⟨_, rfl, ?_⟩; refine Ll.tconsI ?_; refine Ll.tcI ?_; refine Ll.tnilI ?_)
  refine goIsQ T hx 8 (by decide) (by assumption) (by exact Ll.Pick.tl (Ll.Pick.tl (Ll.Pick.tl Ll.Pick.hd))) hd ?_
  (refine ⟨_, rfl, ?_⟩; refine Ll.tconsI ?_; refine Ll.tcI ?_; refine Ll.tnilI ?_)
  refine goIsQ T hx 9 (by decide) (by assumption) (by exact Ll.Pick.tl (Ll.Pick.tl (Ll.Pick.tl Ll.Pick.hd))) hd ?_
  (refine Ll.tnilI ?_; (refine ⟨(by (show _ ≤ PySem.sizeLine); (show (_ : Prop); exact Nat.lt_of_le_of_lt (m := 16000000) (by ((simp only [List.length_map, List.length_append, List.length_replicate, List.length_cons, List.length_nil, List.length_singleton, List.length_set, List.length_range, List.length_take, List.length_drop, List.length_dropLast]; omega))) (by decide))), ?_⟩); (walk_at "ip"; walk_at "st.1"))
  refine ⟨_, _, _, _, rfl, rfl, (by (show (_ : Option _root_.L2.HO) = _; exact Ll.Sep.get (by assumption) (by exact Ll.Pick.tl Ll.Pick.hd))), (by (show (_ : Option _root_.L2.HO) = _; exact Ll.Sep.get (by assumption) (by exact Ll.Pick.hd))), (by rw [PySem.sizeLine_eq]; exact Nat.le_of_ble_eq_true rfl), ?_⟩
  ((walk_at "ip"; walk_at "st.1"); refine ⟨_, rfl, ?_⟩; refine ⟨.inl ⟨rfl, _, (by (show _root_.L2.SqL _ _ _ _; exact _root_.L2.SqL.of (by (show (_ : Option _root_.L2.HO) = _; exact Ll.Sep.get (by assumption) (by exact Ll.Pick.hd)))))⟩, ?_⟩; refine Ll.tconsI ?_; refine Ll.tcI ?_; refine Ll.tnilI ?_)
  rename_i p np H2 hS2
  have hS3 := hS2.re (a := p) (o' := .lst (kindQ x.ix)) (by exact Ll.Swp.hd) rfl
  clear hS2
  refine ⟨p, kindQ x.ix, .bl true, rfl, rfl, (by (show _root_.L2.SqL _ _ _ _; exact _root_.L2.SqL.of (by (show (_ : Option _root_.L2.HO) = _; exact Ll.Sep.get (by assumption) (by exact Ll.Pick.hd))))), rfl, rfl, ?_⟩
  rw [kindQ_count hj]
  (refine Ll.tcI ?_; refine ⟨rfl, ?_⟩; refine ⟨_, rfl, ?_⟩; refine ⟨_, rfl, ?_⟩; refine Ll.tconsI ?_; refine Ll.tcI ?_; refine Ll.tnilI ?_)
  refine ⟨.ty "ValueError", .type "ValueError", true, rfl, fun u h => h, T.kitV _ hj, Xf.data (Xf.same hd ((by assumption : Sep _ _).all (by exact Ll.Pick.tl (Ll.Pick.tl (Ll.Pick.tl (Ll.Pick.tl (Ll.Pick.tl Ll.Pick.hd))))))), ?_⟩
  (refine ⟨_, rfl, ?_⟩; refine _root_.L2.iteF ?_; (refine ⟨(by (show _ ≤ PySem.sizeLine); (show (_ : Prop); decide)), ?_⟩); (walk_at "ip"; walk_at "st.1"); refine ⟨_, rfl, ?_⟩; refine Ll.tconsI ?_; refine Ll.tcI ?_; refine Ll.tconsI ?_; refine Ll.tcI ?_; refine Ll.tnilI ?_; (refine ⟨(by (show _ ≤ PySem.sizeLine); (show (_ : Prop); decide)), ?_⟩); (walk_at "ip"; walk_at "st.1"))
  refine ⟨_, _, _, _, rfl, rfl, (by (show (_ : Option _root_.L2.HO) = _; exact Ll.Sep.get (by assumption) (by exact Ll.Pick.tl Ll.Pick.hd))), (by (show (_ : Option _root_.L2.HO) = _; exact Ll.Sep.get (by assumption) (by exact Ll.Pick.hd))), (by rw [PySem.sizeLine_eq]; exact Nat.le_of_ble_eq_true rfl), ?_⟩
  ((walk_at "ip"; walk_at "st.1"); refine ⟨_, rfl, ?_⟩; refine ⟨.inl ⟨rfl, _, (by (show _root_.L2.SqL _ _ _ _; exact _root_.L2.SqL.of (by (show (_ : Option _root_.L2.HO) = _; exact Ll.Sep.get (by assumption) (by exact Ll.Pick.tl (Ll.Pick.tl (Ll.Pick.tl Ll.Pick.hd)))))))⟩, ?_⟩; refine Ll.tconsI ?_; refine Ll.tcI ?_; refine Ll.tnilI ?_)
  rename_i p2 np2 H4 hS4
  have hS5 := hS4.re (a := p2) (o' := .lst termQ) (by exact Ll.Swp.hd) rfl
  clear hS4
  refine ⟨p, kindQ x.ix, .bl true, x.ix, .bl true, rfl, rfl, (by (show _root_.L2.SqL _ _ _ _; exact _root_.L2.SqL.of (by (show (_ : Option _root_.L2.HO) = _; exact Ll.Sep.get (by assumption) (by exact Ll.Pick.tl (Ll.Pick.tl (Ll.Pick.tl Ll.Pick.hd))))))), rfl, rfl, ?_, rfl, fun m z => kindQ_first hj, ?_⟩
  · rw [kindQ_at _ _ hj, decide_eq_true rfl]
  refine ⟨_, _, _, _, rfl, rfl, (by (show _root_.L2.SqL _ _ _ _; exact _root_.L2.SqL.of (by (show (_ : Option _root_.L2.HO) = _; exact Ll.Sep.get (by assumption) (by exact Ll.Pick.hd))))), termQ_at hx, ?_⟩
  have hd2 := Xf.same hd (hS5.all (by exact Ll.Pick.tl (Ll.Pick.tl (Ll.Pick.tl (Ll.Pick.tl (Ll.Pick.tl (Ll.Pick.tl (Ll.Pick.tl (Ll.Pick.tl Ll.Pick.hd)))))))))
  cases x with
  | pl i =>
    have hi : 1 ≤ i ∧ i ≤ 8 := hx
    (refine ⟨_, rfl, ?_⟩; refine Ll.tcI ?_; refine ⟨rfl, ?_⟩; refine ⟨_, rfl, ?_⟩)
    refine iteDF (fun z => by have h0 : i = 0 := (nm_pool hx).mp (V.str.inj z); omega) ?_
    (refine ⟨_, rfl, ?_⟩; refine Ll.tcI ?_; refine ⟨rfl, ?_⟩; refine ⟨_, rfl, ?_⟩)
    refine iteDF (fun z => by have h0 : i = 9 := (nm_work hx).mp (V.str.inj z); omega) ?_
    (refine ⟨_, rfl, ?_⟩; refine Ll.tnilI ?_; (refine ⟨(by (show _ ≤ PySem.sizeLine); (show (_ : Prop); exact Nat.lt_of_le_of_lt (m := 16000000) (by ((simp only [List.length_map, List.length_append, List.length_replicate, List.length_cons, List.length_nil, List.length_singleton, List.length_set, List.length_range, List.length_take, List.length_drop, List.length_dropLast]; omega))) (by decide))), ?_⟩); (walk_at "ip"; walk_at "st.0"))
    rename_i p3 np3 H6 hS6
    exact k p3 _ (hS6.all (by exact Ll.Pick.tl (Ll.Pick.tl (Ll.Pick.tl (Ll.Pick.tl (Ll.Pick.tl (Ll.Pick.tl (Ll.Pick.tl (Ll.Pick.tl (Ll.Pick.tl Ll.Pick.hd)))))))))) (by (show _root_.L2.SqT _ _ _ _; exact Ll.Sep.tup (by assumption) (by exact Ll.Pick.hd)))
  | wk kk =>
    obtain ⟨dd, rfl, hdd⟩ := hd2
    (refine ⟨_, rfl, ?_⟩; refine Ll.tcI ?_; refine ⟨rfl, ?_⟩; refine ⟨_, rfl, ?_⟩; refine ⟨_, rfl, ?_⟩; refine Ll.tcI ?_; refine ⟨rfl, ?_⟩; refine ⟨_, rfl, ?_⟩; refine ⟨_, rfl, ?_⟩; refine ⟨_, rfl, ?_⟩; refine ⟨rfl, rfl, ?_⟩; refine ⟨_, _, _, rfl, (by (show (_ : Option _root_.L2.HO) = _; assumption)), (by (show (_ : Option _root_.L2.V) = _; rfl)), ?_⟩; refine Ll.tnilI ?_; (refine ⟨(by (show _ ≤ PySem.sizeLine); (show (_ : Prop); exact Nat.lt_of_le_of_lt (m := 16000000) (by ((simp only [List.length_map, List.length_append, List.length_replicate, List.length_cons, List.length_nil, List.length_singleton, List.length_set, List.length_range, List.length_take, List.length_drop, List.length_dropLast]; omega))) (by decide))), ?_⟩); (walk_at "ip"; walk_at "st.0"))
    rename_i p3 np3 H6 hS6
    exact k p3 _ (hS6.all (by exact Ll.Pick.tl (Ll.Pick.tl (Ll.Pick.tl (Ll.Pick.tl (Ll.Pick.tl (Ll.Pick.tl (Ll.Pick.tl (Ll.Pick.tl (Ll.Pick.tl Ll.Pick.hd)))))))))) (by (show _root_.L2.SqT _ _ _ _; exact Ll.Sep.tup (by assumption) (by exact Ll.Pick.hd)))
  | pw s =>
    obtain ⟨dd, rfl, hdd⟩ := hd2
    (refine ⟨_, rfl, ?_⟩; refine Ll.tcI ?_; refine ⟨rfl, ?_⟩; refine ⟨_, rfl, ?_⟩; refine ⟨_, rfl, ?_⟩; refine ⟨_, rfl, ?_⟩; refine ⟨rfl, rfl, ?_⟩; refine ⟨_, _, _, rfl, (by (show (_ : Option _root_.L2.HO) = _; assumption)), (by (show (_ : Option _root_.L2.V) = _; rfl)), ?_⟩; refine Ll.tnilI ?_; (refine ⟨(by (show _ ≤ PySem.sizeLine); (show (_ : Prop); exact Nat.lt_of_le_of_lt (m := 16000000) (by ((simp only [List.length_map, List.length_append, List.length_replicate, List.length_cons, List.length_nil, List.length_singleton, List.length_set, List.length_range, List.length_take, List.length_drop, List.length_dropLast]; omega))) (by decide))), ?_⟩); (walk_at "ip"; walk_at "st.0"))
    rename_i p3 np3 H6 hS6
    exact k p3 _ (hS6.all (by exact Ll.Pick.tl (Ll.Pick.tl (Ll.Pick.tl (Ll.Pick.tl (Ll.Pick.tl (Ll.Pick.tl (Ll.Pick.tl (Ll.Pick.tl (Ll.Pick.tl Ll.Pick.hd)))))))))) (by (show _root_.L2.SqT _ _ _ _; exact Ll.Sep.tup (by assumption) (by exact Ll.Pick.hd)))
theorem toldQ_suite {K : PySem.W.Frag} {g : Addr} {cdg : Value} {A : Around} {outer : List Env} {s0 : Shared} {H0 : Hp} {a : Addr} {oe : Obj} {cls : Value} {d : Option Addr} {pn : List (Addr × Obj)} (T : TxQ K mg cs le) (hz0 : Zc cls d oe) (hf : ∃ vs, oe.data = .fields vs) :
    PSs ((XT P w K mg base g cdg A outer s0 H0).suite a ((a, oe) :: pn)) (Ll.suiteOf ((defBody soTold).getD 0 (.Pass ⟨0, 0, 0, 0⟩))) (tSuiteQ K cs a cls d) := by
  refine ⟨fun pins s σ H D I h => ?_⟩
  obtain ⟨x, σ0, hx, rfl, hd, rfl, k⟩ := h
  have hl := I.len
  rw [List.length_set] at hl
  obtain ⟨v0, v1, v2, v3, v4, rfl⟩ : ∃ v0 v1 v2 v3 v4, σ0 = [v0, v1, v2, v3, v4] := by
    match σ0, (show σ0.length = 5 from hl) with
    | [v0, v1, v2, v3, v4], _ => exact ⟨_, _, _, _, _, rfl⟩
  obtain ⟨t, ht, q⟩ := toldQ_walk (P := P) (w := w) (base := base) (g := g) (cdg := cdg) (A := A) (outer := outer) (s0 := s0) (H0 := H0) (pn := pn) T x hx (T.ec _ (Xf.lt hx)) hz0 hf v0 v2 v3 v4
  exact ht.run pins s _ H D I (q D H hd k)
/-- told: what the lambda tells, or the words of its refusal -/
def TTolQ (cs : Nat → Addr) (K : PySem.W.Frag) : (XK → Hp → VK → Prop) → Hp → VK → Prop := fun tl H Q => tl (fun cls d H' => ∃ x : Xf, x.ok ∧ cls = .ref (cs x.ix) ∧ x.at d H' ∧ ∀ p H2, Same H' H2 → SqT K H2 p x.vs → Q (.ref p) H2) H Q
theorem toldQ_gives {X : Cx} {g : Addr} {cdg : Value} (T : TxQ X.K X.mg cs le) (q : Str) : LamX.GivesTo X noTold "_law_told" (defScope soTold) g cdg (defBody soTold) "_law_work" q (TTolQ cs X.K) := by
  intro f c' s H Q tl act hc h
  refine ⟨_, pss_one (ps_try_as (i := 1) (n := "e") (c := .ref le) (ts := tSuiteQ X.K cs) (Wout := fun _ _ _ _ => False) (tb := fun W D σ H => ∃ Ech : XK, (∀ cls d σ' H', Ech cls d H' → W cls d σ' H') ∧ σ[0]? = some (some (.ref f)) ∧ H c' = some (LamX.CodeO c' q) ∧ tl Ech H D.rt)
    rfl rfl oTold.nd rfl rfl ⟨rfl, by decide, .inl T.le0⟩ LamX.takes0 (fun W pn xe tk _ => ?_) (fun a oe cls d pn hz hf => toldQ_suite T hz hf)), ?_⟩
  · refine ⟨fun pins s' σ H' D I h' => ?_⟩
    obtain ⟨Ech, hW, h1, h2, h3⟩ := h'
    exact (pss_one (ps_ret (act W pn xe Ech _ _ tk hW))).run pins s' σ H' D I ⟨h1, h2, h3⟩
  · refine ⟨_, ?_, rfl, hc, h⟩
    rintro cls d σ' H' ⟨x, hx, rfl, hd, k⟩
    exact ⟨true, T.exm _ (Xf.lt hx), fun _ a _ => ⟨x, σ', hx, rfl, hd, rfl, k⟩, fun z => nomatch z⟩
end
end Ll

namespace Ll
open PySem PySem.Spec PyProof.Rows L2
/-! ### what follows a statement, kept out of sight -/
inductive Tail : TS → TS → Prop
  | rfl (u : TS) : Tail u u
theorem seqG {t u : TS} {D : Ends} {σ : L2.St} {H : Hp} (h : ∀ T : TS, Tail T u → t { D with nx := T D } σ H) : tSeq t u D σ H := h u (.rfl u)
theorem goTail {T u : TS} {D : Ends} {rt : VK} {bk ct : L2.St → Hp → Prop} {σ : L2.St} {H : Hp} (h : Tail T u) (k : u D σ H) : Ends.nx ⟨T D, rt, bk, ct⟩ σ H := by
  cases h
  exact k
end Ll

end
section
local macro_rules | `(tactic| walk_at "ip") => `(tactic| intro p np)
local macro_rules | `(tactic| walk_at "st.0") => `(tactic| ((conv => pattern (_root_.L2.upd _ _ _)); generalize hX : _root_.L2.upd _ _ _ = H'; have hS := Ll.newT_eq (K := by assumption) hX (by assumption) (by assumption); clear hX))
local macro_rules | `(tactic| walk_at "st.1") => `(tactic| ((conv => pattern (_root_.L2.upd _ _ _)); generalize hX : _root_.L2.upd _ _ _ = H'; have hS := Ll.new_eq hX (by assumption) (by assumption); clear hX))
local macro_rules | `(tactic| walk_at "st.2.1") => `(tactic| ((conv => pattern (_root_.L2.upd _ _ _)); generalize hX : _root_.L2.upd _ _ _ = H'; have hS := Ll.put_eq hX (by assumption) (by exact Ll.Put.tl Ll.Put.hd) (by exact fun z => z); clear hX))
namespace Sv
/-- the first work that can't be -/
def badAt (l : Int) (k : Nat) : List (Int × Int) → Option Nat
  | [] => none
  | p :: r => if l ≤ p.1 ∧ p.1 ≤ 9999 ∧ 0 ≤ p.2 ∧ p.2 ≤ 99 then badAt p.1 (k + 1) r else some k
theorem bad_none : ∀ {w : List (Int × Int)} {l : Int} {k : Nat}, badAt l k w = none ↔ GoodFrom l w
  | [], _, _ => ⟨fun _ => trivial, fun _ => rfl⟩
  | p :: r, l, k => by
    show (if l ≤ p.1 ∧ p.1 ≤ 9999 ∧ 0 ≤ p.2 ∧ p.2 ≤ 99 then badAt p.1 (k + 1) r else some k) = none ↔ (l ≤ p.1 ∧ p.1 ≤ 9999 ∧ 0 ≤ p.2 ∧ p.2 ≤ 99 ∧ GoodFrom p.1 r)
    by_cases h : l ≤ p.1 ∧ p.1 ≤ 9999 ∧ 0 ≤ p.2 ∧ p.2 ≤ 99
    · rw [if_pos h, bad_none (w := r)]
      exact ⟨fun z => ⟨h.1, h.2.1, h.2.2.1, h.2.2.2, z⟩, fun z => z.2.2.2.2⟩
    · rw [if_neg h]
      exact ⟨(fun z => nomatch z), fun z => absurd ⟨z.1, z.2.1, z.2.2.1, z.2.2.2.1⟩ h⟩
end Sv
namespace Ll
open PySem PySem.Spec PyProof.Rows L2
structure TxS (K : PySem.W.Frag) (mg : Str → Option Value) : Prop where
  min : mg "min" = none
  max : mg "max" = none
  range : mg "range" = none
  zip : mg "zip" = none
  enumerate : mg "enumerate" = none
  c_LATEST : GlV mg "LATEST" (.int 9999)
  c_MOST_LINES : GlV mg "MOST_LINES" (.int 8)
  c_MOST_HOLD : GlV mg "MOST_HOLD" (.int 99)
abbrev wkA (K : PySem.W.Frag) (a : Addr) (w : List (Int × Int)) : Asr := lstA K a (w.map prD)
def spStartsN (K : PySem.W.Frag) : Sp := fun vs H Q _ => ∃ (a : Addr) (w : List (Int × Int)) (c : Nat) (R : List Asr), vs = [.ref a, .int c] ∧ Sep (wkA K a w :: R) H ∧ 1 ≤ c ∧ c ≤ 8 ∧ w.length ≤ 1000 ∧ ∀ p H', Sep (intA p (Sv.starts c w) :: wkA K a w :: R) H' → Q (.ref p) H'
def spNeedN (K : PySem.W.Frag) (cw : Addr) : Sp := fun vs H Q E => ∃ (a : Addr) (w : List (Int × Int)) (R : List Asr), vs = [.ref a] ∧ Sep (wkA K a w :: R) H ∧ w.length ≤ 1000 ∧
  (Sv.badAt 0 0 w = none → ∀ H', Sep (wkA K a w :: R) H' → Q .non H') ∧ (∀ k : Nat, Sv.badAt 0 0 w = some k → ∀ d H', H' d = some (.xd [("at", .int (k : Int))]) → Sep (wkA K a w :: R) H' → E (.ref cw) (some d) H')
section
variable {P : Program} {w : World} {K : PySem.W.Frag} {mg : Str → Option Value} {base : Heap} {CX : CXT} {cw cc : Addr}
abbrev sscNw : Stmt := topS 16
abbrev nscNw : List Str := ["work", "last", "at", "moment", "hold"]
theorem scNw : FnScope nscNw ["work"] (defScope sscNw) := ⟨rfl, rfl, rfl, by decide +kernel, rfl, by decide +kernel, by decide +kernel⟩
theorem ok_needN {f : Addr} {fd : FuncData} (F : FunD K "need_work" "need_work" (defArgs sscNw) (defBody sscNw) (defScope sscNw) [] [] f fd) (T : TxS K mg) (X_BadWork : OxG P w K mg base "BadWork" cw "at" "at") : FnOk P w K mg base (L2.CX P w) 3 f fd ["work"] (spNeedN K cw) := by
  refine F.ok scNw (fun vs H Q E h => ?_) (fun cdv A0 outer s H vs Q E hr h => ?_)
  · obtain ⟨a, w, R, rfl, _⟩ := h
    rfl
  · obtain ⟨a, w, R, rfl, hS, hl, k, ke⟩ := h
    refine ⟨_, (pss_cons (ps_set (i := 1) scNw.nd rfl (Or.inl rfl) pe_int)
      (pss_one (ps_for (passes_of rfl) rfl (pi_enum (by rfl) T.enumerate (pa_cons (pv 0) pa_nil)) (pg_tup rfl (pgs_cons (pg_name (i := 2) scNw.nd rfl (.inl rfl)) (pgs_cons (pg_tup rfl (pgs_cons (pg_name (i := 3) scNw.nd rfl (.inl rfl)) (pgs_cons (pg_name (i := 4) scNw.nd rfl (.inl rfl)) pgs_nil))) pgs_nil))) (pss_cons (ps_if (PW.pt (pw_or (pt_not (pt_chain (op_le) (op_le) (pv 1) (pv 3) (pe_gV rfl T.c_LATEST))) (pw_or1 (pt_not (pt_chain (op_le) (op_le) pe_int (pv 4) (pe_gV rfl T.c_MOST_HOLD)))))) (pss_one (ps_raiseO (takes_of rfl rfl rfl rfl) X_BadWork (hr.mono (by decide)) rfl (pv 2))) pss_nil)
      (pss_one (ps_set (i := 1) scNw.nd rfl (Or.inl rfl) (pv 3))))))), ?_⟩
    obtain ⟨xs, hxl, hSa⟩ := hS.lstO (a := a) (by exact Ll.Pick.hd)
    clear hS
    have hxl2 : xs.length = w.length := by rw [hxl, List.length_map]
    (refine ⟨_, rfl, ?_⟩; refine Ll.tnilI ?_; refine ⟨_, _, rfl, (show _root_.L2.SqL _ _ _ _ from by (show _root_.L2.SqL _ _ _ _; exact _root_.L2.SqL.of (by (show (_ : Option _root_.L2.HO) = _; exact Ll.Sep.get (by assumption) (by exact Ll.Pick.hd))))), ?_⟩)
    refine for_it (walk_enum (K := K) (a := a) (xs := xs)) (fun i σ H' => ∃ (l : Int) (v2 v3 v4 : Option V), σ = [some (.ref a), some (.int l), v2, v3, v4] ∧ Sv.badAt 0 0 w = Sv.badAt l i (w.drop i) ∧ Sep (obj a (.lst xs) :: dlA K xs (w.map prD) :: R) H')
      ⟨0, none, none, none, rfl, rfl, hSa⟩ (fun i σ H' _ ⟨_, _, _, _, _, _, h⟩ => by (show _root_.L2.SqL _ _ _ _; exact _root_.L2.SqL.of (by (show (_ : Option _root_.L2.HO) = _; exact Ll.Sep.get (by assumption) (by exact Ll.Pick.hd))))) ?_ ?_
    · rintro i y σ H1 H2 hi ⟨l, v2, v3, v4, rfl, hb, hS⟩ ⟨T1, x, z, rfl, hT, rfl, e1, e2⟩
      obtain ⟨dd, hd, hdp⟩ := dpAll_get (hS.dl (xs := xs) (by exact Ll.Pick.tl Ll.Pick.hd)) e2
      obtain ⟨⟨m, h⟩, hw, rfl⟩ := map_get hd
      obtain ⟨t, rfl, ht⟩ := dp_pr hdp
      obtain rfl := Option.some.inj e1
      have hS2 := (hS.mkT ht).newT (K := K) (xs := [V.int (i : Int), .ref t]) hT
      generalize upd H1 T1 (.tup [V.int (i : Int), .ref t]) = H3 at *
      clear hS ht hdp
      have hdr : w.drop i = (m, h) :: w.drop (i + 1) := by
        obtain ⟨h1, h2⟩ := List.getElem?_eq_some_iff.mp hw
        rw [List.drop_eq_getElem_cons h1, h2]
      rw [hdr] at hb
      have kk : ∀ {H' : Hp}, Sep (tupA K T1 [V.int (i : Int), .ref t] :: tupA K t [.int m, .int h] :: obj a (.lst xs) :: dlA K xs (w.map prD) :: R) H' → Sep (wkA K a w :: R) H' := fun hs => (hs.lstB (a := a) (xs := xs) (by exact Ll.Pick.tl (Ll.Pick.tl Ll.Pick.hd)) (by exact Ll.Pick.tl (Ll.Pick.tl Ll.Pick.hd))).sub (by ((apply Ll.Subs.sel; exact Ll.Pick.hd); apply Ll.Subs.skip; apply Ll.Subs.skip; exact Ll.Subs.refl))
      have hb : Sv.badAt 0 0 w = if l ≤ m ∧ m ≤ 9999 ∧ 0 ≤ h ∧ h ≤ 99 then Sv.badAt m (i + 1) (w.drop (i + 1)) else some i := hb
      by_cases hg : l ≤ m ∧ m ≤ 9999 ∧ 0 ≤ h ∧ h ≤ 99
      · rw [if_pos hg] at hb
        obtain ⟨g1, g2, g3, g4⟩ := hg
        (refine ⟨_, _, rfl, (by (show _root_.L2.SqT _ _ _ _; exact Ll.Sep.tup (by assumption) (by exact Ll.Pick.hd))), rfl, ?_⟩; refine ⟨_, _, rfl, ?_⟩; refine ⟨_, _, rfl, ?_⟩; refine ⟨_, _, rfl, (by (show _root_.L2.SqT _ _ _ _; exact Ll.Sep.tup (by assumption) (by exact Ll.Pick.tl Ll.Pick.hd))), rfl, ?_⟩; refine ⟨_, _, rfl, ?_⟩; refine ⟨_, _, rfl, rfl, (by (show (_ : Prop); decide)), ?_⟩; refine ⟨_, rfl, ?_⟩; refine ⟨_, rfl, ?_⟩; refine ⟨_, _, rfl, rfl, ?_⟩; refine ⟨_, rfl, ?_⟩; refine Ll.iteDT (by omega) ?_; refine Ll.tcI ?_; refine ⟨_, _, rfl, rfl, ?_⟩; refine ⟨_, rfl, ?_⟩; refine Ll.iteNF (by omega) ?_; refine ⟨_, rfl, ?_⟩; refine ⟨_, _, rfl, rfl, ?_⟩; refine ⟨_, rfl, ?_⟩; refine Ll.iteDT (by omega) ?_; refine Ll.tcI ?_; refine ⟨_, _, rfl, rfl, ?_⟩; refine ⟨_, rfl, ?_⟩; refine Ll.iteNF (by omega) ?_; refine ⟨_, rfl, ?_⟩)
        exact ⟨m, _, _, _, rfl, hb, hS2.sub (by ((apply Ll.Subs.sel; exact Ll.Pick.tl (Ll.Pick.tl Ll.Pick.hd)); (apply Ll.Subs.sel; exact Ll.Pick.tl (Ll.Pick.tl Ll.Pick.hd)); apply Ll.Subs.skip; apply Ll.Subs.skip; exact Ll.Subs.refl))⟩
      rw [if_neg hg] at hb
      have hbad := hb
      clear hb
      have h4 : ¬ l ≤ m ∨ (l ≤ m ∧ ¬ m ≤ 9999) ∨ (l ≤ m ∧ m ≤ 9999 ∧ ¬ 0 ≤ h) ∨ (l ≤ m ∧ m ≤ 9999 ∧ 0 ≤ h ∧ ¬ h ≤ 99) := by omega
      rcases h4 with q | ⟨q1, q2⟩ | ⟨q1, q2, q3⟩ | ⟨q1, q2, q3, q4⟩
      · (refine ⟨_, _, rfl, (by (show _root_.L2.SqT _ _ _ _; exact Ll.Sep.tup (by assumption) (by exact Ll.Pick.hd))), rfl, ?_⟩; refine ⟨_, _, rfl, ?_⟩; refine ⟨_, _, rfl, ?_⟩; refine ⟨_, _, rfl, (by (show _root_.L2.SqT _ _ _ _; exact Ll.Sep.tup (by assumption) (by exact Ll.Pick.tl Ll.Pick.hd))), rfl, ?_⟩; refine ⟨_, _, rfl, ?_⟩; refine ⟨_, _, rfl, rfl, (by (show (_ : Prop); decide)), ?_⟩; refine ⟨_, rfl, ?_⟩; refine ⟨_, rfl, ?_⟩; refine ⟨_, _, rfl, rfl, ?_⟩; refine ⟨_, rfl, ?_⟩; refine Ll.iteDF (by omega) ?_; refine ⟨_, rfl, ?_⟩; refine ⟨_, rfl, ?_⟩; refine Ll.tnilI ?_)
        refine goOx fun d H4 nd sm hd4 => ?_
        exact ke i hbad d H4 hd4 (kk (hS2.same sm))
      · (refine ⟨_, _, rfl, (by (show _root_.L2.SqT _ _ _ _; exact Ll.Sep.tup (by assumption) (by exact Ll.Pick.hd))), rfl, ?_⟩; refine ⟨_, _, rfl, ?_⟩; refine ⟨_, _, rfl, ?_⟩; refine ⟨_, _, rfl, (by (show _root_.L2.SqT _ _ _ _; exact Ll.Sep.tup (by assumption) (by exact Ll.Pick.tl Ll.Pick.hd))), rfl, ?_⟩; refine ⟨_, _, rfl, ?_⟩; refine ⟨_, _, rfl, rfl, (by (show (_ : Prop); decide)), ?_⟩; refine ⟨_, rfl, ?_⟩; refine ⟨_, rfl, ?_⟩; refine ⟨_, _, rfl, rfl, ?_⟩; refine ⟨_, rfl, ?_⟩; refine Ll.iteDT (by omega) ?_; refine Ll.tcI ?_; refine ⟨_, _, rfl, rfl, ?_⟩; refine ⟨_, rfl, ?_⟩; refine Ll.iteNT (by omega) ?_; refine ⟨_, rfl, ?_⟩; refine Ll.tnilI ?_)
        refine goOx fun d H4 nd sm hd4 => ?_
        exact ke i hbad d H4 hd4 (kk (hS2.same sm))
      · (refine ⟨_, _, rfl, (by (show _root_.L2.SqT _ _ _ _; exact Ll.Sep.tup (by assumption) (by exact Ll.Pick.hd))), rfl, ?_⟩; refine ⟨_, _, rfl, ?_⟩; refine ⟨_, _, rfl, ?_⟩; refine ⟨_, _, rfl, (by (show _root_.L2.SqT _ _ _ _; exact Ll.Sep.tup (by assumption) (by exact Ll.Pick.tl Ll.Pick.hd))), rfl, ?_⟩; refine ⟨_, _, rfl, ?_⟩; refine ⟨_, _, rfl, rfl, (by (show (_ : Prop); decide)), ?_⟩; refine ⟨_, rfl, ?_⟩; refine ⟨_, rfl, ?_⟩; refine ⟨_, _, rfl, rfl, ?_⟩; refine ⟨_, rfl, ?_⟩; refine Ll.iteDT (by omega) ?_; refine Ll.tcI ?_; refine ⟨_, _, rfl, rfl, ?_⟩; refine ⟨_, rfl, ?_⟩; refine Ll.iteNF (by omega) ?_; refine ⟨_, rfl, ?_⟩; refine ⟨_, _, rfl, rfl, ?_⟩; refine ⟨_, rfl, ?_⟩; refine Ll.iteDF (by omega) ?_; refine ⟨_, rfl, ?_⟩; refine ⟨_, rfl, ?_⟩; refine Ll.tnilI ?_)
        refine goOx fun d H4 nd sm hd4 => ?_
        exact ke i hbad d H4 hd4 (kk (hS2.same sm))
      · (refine ⟨_, _, rfl, (by (show _root_.L2.SqT _ _ _ _; exact Ll.Sep.tup (by assumption) (by exact Ll.Pick.hd))), rfl, ?_⟩; refine ⟨_, _, rfl, ?_⟩; refine ⟨_, _, rfl, ?_⟩; refine ⟨_, _, rfl, (by (show _root_.L2.SqT _ _ _ _; exact Ll.Sep.tup (by assumption) (by exact Ll.Pick.tl Ll.Pick.hd))), rfl, ?_⟩; refine ⟨_, _, rfl, ?_⟩; refine ⟨_, _, rfl, rfl, (by (show (_ : Prop); decide)), ?_⟩; refine ⟨_, rfl, ?_⟩; refine ⟨_, rfl, ?_⟩; refine ⟨_, _, rfl, rfl, ?_⟩; refine ⟨_, rfl, ?_⟩; refine Ll.iteDT (by omega) ?_; refine Ll.tcI ?_; refine ⟨_, _, rfl, rfl, ?_⟩; refine ⟨_, rfl, ?_⟩; refine Ll.iteNF (by omega) ?_; refine ⟨_, rfl, ?_⟩; refine ⟨_, _, rfl, rfl, ?_⟩; refine ⟨_, rfl, ?_⟩; refine Ll.iteDT (by omega) ?_; refine Ll.tcI ?_; refine ⟨_, _, rfl, rfl, ?_⟩; refine ⟨_, rfl, ?_⟩; refine Ll.iteNT (by omega) ?_; refine ⟨_, rfl, ?_⟩; refine Ll.tnilI ?_)
        refine goOx fun d H4 nd sm hd4 => ?_
        exact ke i hbad d H4 hd4 (kk (hS2.same sm))
    · rintro σ H1 ⟨l, v2, v3, v4, rfl, hb, hS⟩
      rw [hxl2, List.drop_length] at hb
      skip
      exact k hb _ ((hS.lstB (a := a) (xs := xs) (by exact Ll.Pick.hd) (by exact Ll.Pick.hd)).sub (by (exact Ll.Subs.refl)))
abbrev sscSt : Stmt := topS 17
abbrev nscSt : List Str := ["work", "count", "ends", "found", "moment", "hold", "first", "start"]
theorem scSt : FnScope nscSt ["work", "count"] (defScope sscSt) := ⟨rfl, rfl, rfl, by decide +kernel, rfl, by decide +kernel, by decide +kernel⟩
theorem ok_startsN {f : Addr} {fd : FuncData} (F : FunD K "starts" "starts" (defArgs sscSt) (defBody sscSt) (defScope sscSt) [] [] f fd) (T : TxS K mg) : FnOk P w K mg base CX 1 f fd ["work", "count"] (spStartsN K) := by
  refine F.ok scSt (fun vs H Q E h => ?_) (fun cdv A0 outer s H vs Q E hr h => ?_)
  · obtain ⟨a, w, c, R, rfl, _⟩ := h
    rfl
  · obtain ⟨a, w, c, R, rfl, hS, hc1, hc8, hl, k⟩ := h
    refine ⟨_, PSs.nox (pss_cons (ps_set (i := 2) scSt.nd rfl (Or.inl rfl) (pe_op op_rep (pe_lst (pa_cons pe_int pa_nil)) (pv 1)))
      (pss_cons (ps_set (i := 3) scSt.nd rfl (Or.inl rfl) (pe_lst pa_nil))
      (pss_cons (ps_for PassesOwn.never rfl (pi_list (pv 0)) (pg_tup rfl (pgs_cons (pg_name (i := 4) scSt.nd rfl (.inl rfl)) (pgs_cons (pg_name (i := 5) scSt.nd rfl (.inl rfl)) pgs_nil))) (pss_cons (ps_set (i := 6) scSt.nd rfl (Or.inl rfl) (pe_callB (cr_min rfl) (by rfl) T.min (by decide +kernel) (pa_cons (pv 2) pa_nil)))
      (pss_cons (ps_set (i := 7) scSt.nd rfl (Or.inl rfl) (pe_callB (call_max2 rfl) (by rfl) T.max (by decide +kernel) (pa_cons (pv 4) (pa_cons (pv 6) pa_nil))))
      (pss_cons (ps_asg (pe_op op_add (pv 7) (pv 5)) (pg_sub (pv 2) (pe_bm PySem.F.plainAttrs_list PySem.F.slot_list_index PySem.F.type_list_index mt_index (pv 2) (pa_cons (pv 6) pa_nil)) set_list))
      (pss_one (ps_expr (pe_bm PySem.F.plainAttrs_list PySem.F.slot_list_append PySem.F.type_list_append mt_append (pv 3) (pa_cons (pv 7) pa_nil))))))))
      (pss_one (ps_ret (pv 3)))))), ?_⟩
    obtain ⟨xs, hxl, hSa⟩ := hS.lstO (a := a) (by exact Ll.Pick.hd)
    clear hS
    have hxl2 : xs.length = w.length := by rw [hxl, List.length_map]
    ((refine ⟨(by (show _ ≤ PySem.sizeLine); (show (_ : Prop); decide)), ?_⟩); (walk_at "ip"; walk_at "st.1"); refine ⟨_, rfl, ?_⟩)
    rename_i p1 np1 H1 hS1
    refine ⟨_, _, _, rfl, rfl, (by (show (_ : Option _root_.L2.HO) = _; exact Ll.Sep.get (by assumption) (by exact Ll.Pick.hd))), (by omega), (by omega), (by show 1 * (c : Int).toNat ≤ sizeLine; exact Nat.le_trans (by omega : _ ≤ 8) (by decide)), fun e ne => ?_⟩
    have e0 : (List.replicate (c : Int).toNat [V.int 0]).flatten = (List.replicate c (0 : Int)).map V.int := by simp
    rw [e0]
    have hS2 := hS1.new (o := .lst ((List.replicate c (0 : Int)).map V.int)) ne
    generalize upd H1 e _ = H2 at *
    clear hS1 e0
    ((refine ⟨(by (show _ ≤ PySem.sizeLine); (show (_ : Prop); decide)), ?_⟩); (walk_at "ip"; walk_at "st.1"); refine ⟨_, rfl, ?_⟩; refine ⟨_, rfl, ?_⟩; refine ⟨⟨_, (by (show _root_.L2.SqL _ _ _ _; exact _root_.L2.SqL.of (by (show (_ : Option _root_.L2.HO) = _; exact Ll.Sep.get (by assumption) (by exact Ll.Pick.tl (Ll.Pick.tl (Ll.Pick.tl Ll.Pick.hd)))))))⟩, ?_⟩)
    rename_i f nf H3 hS3
    refine for_list (K := K) (a := a) (xs := xs) (fun i σ H' => ∃ v4 v5 v6 v7 : Option V, σ = [some (.ref a), some (.int c), some (.ref e), some (.ref f), v4, v5, v6, v7] ∧ Sep (intA e (Sv.run c (w.take i)).1 :: intA f (Sv.run c (w.take i)).2 :: obj a (.lst xs) :: dlA K xs (w.map prD) :: R) H')
      ⟨none, none, none, none, rfl, hS3.sub (by ((apply Ll.Subs.sel; exact Ll.Pick.tl Ll.Pick.hd); (apply Ll.Subs.sel; exact Ll.Pick.hd); (apply Ll.Subs.sel; exact Ll.Pick.tl Ll.Pick.hd); (apply Ll.Subs.sel; exact Ll.Pick.tl Ll.Pick.hd); apply Ll.Subs.skip; exact Ll.Subs.refl))⟩ (fun i σ H' _ ⟨_, _, _, _, _, h⟩ => by (show _root_.L2.SqL _ _ _ _; exact _root_.L2.SqL.of (by (show (_ : Option _root_.L2.HO) = _; exact Ll.Sep.get (by assumption) (by exact Ll.Pick.tl (Ll.Pick.tl Ll.Pick.hd)))))) ?_ ?_
    · rintro i y σ H4 hi ⟨v4, v5, v6, v7, rfl, hS⟩
      obtain ⟨dd, hd, hdp⟩ := dpAll_get (hS.dl (xs := xs) (by exact Ll.Pick.tl (Ll.Pick.tl (Ll.Pick.tl Ll.Pick.hd)))) hi
      obtain ⟨⟨m, h⟩, hw, rfl⟩ := map_get hd
      obtain ⟨t, rfl, ht⟩ := dp_pr hdp
      have hS4 := hS.mkT ht
      clear hdp ht hS
      have hlen : (Sv.run c (w.take i)).1.length = c := Sv.run_len
      have hlen2 : (Sv.run c (w.take i)).2.length ≤ 1000 := by
        have := Sv.run_len2 (w.take i) (List.replicate c 0, [])
        unfold Sv.run
        rw [this, List.length_take]
        simp
        omega
      (refine ⟨_, _, rfl, (by (show _root_.L2.SqT _ _ _ _; exact Ll.Sep.tup (by assumption) (by exact Ll.Pick.hd))), rfl, ?_⟩; refine ⟨_, _, rfl, ?_⟩; refine ⟨_, _, rfl, rfl, ?_⟩; (with_reducible refine Ll.seqG fun _ _ => ?_); refine ⟨_, rfl, ?_⟩; refine Ll.tnilI ?_; refine ⟨_, _, rfl, (show _root_.L2.SqL _ _ _ _ from by (show _root_.L2.SqL _ _ _ _; exact _root_.L2.SqL.of (by (show (_ : Option _root_.L2.HO) = _; exact Ll.Sep.get (by assumption) (by exact Ll.Pick.tl Ll.Pick.hd))))), ?_⟩)
      refine ⟨by omega, fun z hz1 hz2 => ?_⟩
      have hz := Sv.lo_is hz1 hz2
      subst hz
      (refine Ll.goTail (by assumption) ?_; (with_reducible refine Ll.seqG fun _ _ => ?_); refine ⟨_, rfl, ?_⟩; refine ⟨_, rfl, ?_⟩; refine Ll.tnilI ?_; refine ⟨_, _, rfl, ?_⟩; refine Ll.goTail (by assumption) ?_; (with_reducible refine Ll.seqG fun _ _ => ?_); refine ⟨_, rfl, ?_⟩; refine ⟨_, rfl, ?_⟩; refine ⟨_, _, rfl, rfl, ?_⟩; refine ⟨_, rfl, ?_⟩; refine ⟨_, rfl, ?_⟩; refine ⟨.inl ⟨rfl, _, (by (show _root_.L2.SqL _ _ _ _; exact _root_.L2.SqL.of (by (show (_ : Option _root_.L2.HO) = _; exact Ll.Sep.get (by assumption) (by exact Ll.Pick.tl Ll.Pick.hd)))))⟩, ?_⟩; refine ⟨_, rfl, ?_⟩; refine Ll.tnilI ?_)
      obtain ⟨i1, i2, i3, i4⟩ := index_ints hz1
      refine ⟨e, _, _, _, _, rfl, rfl, (by (show _root_.L2.SqL _ _ _ _; exact _root_.L2.SqL.of (by (show (_ : Option _root_.L2.HO) = _; exact Ll.Sep.get (by assumption) (by exact Ll.Pick.tl Ll.Pick.hd))))), rfl, i1, i2, i3, i4, ?_⟩
      have hj : (Sv.run c (w.take i)).1.idxOf (Sv.lo (Sv.run c (w.take i)).1) < ((Sv.run c (w.take i)).1.map V.int).length := by
        rw [List.length_map]
        exact List.idxOf_lt_length_of_mem hz1
      refine ⟨e, _, _, _, rfl, rfl, (by (show (_ : Option _root_.L2.HO) = _; exact Ll.Sep.get (by assumption) (by exact Ll.Pick.tl Ll.Pick.hd))), ixN_nat hj, ?_⟩
      have e3 : (if Sv.lo (Sv.run c (w.take i)).1 > (m, h).1 then Sv.lo (Sv.run c (w.take i)).1 else (m, h).1) = max m (Sv.lo (Sv.run c (w.take i)).1) := by
        show (if Sv.lo (Sv.run c (w.take i)).1 > m then _ else m) = _
        split <;> omega
      rw [e3]
      (walk_at "st.2.1"; refine Ll.goTail (by assumption) ?_; refine ⟨_, rfl, ?_⟩; refine ⟨.inl ⟨rfl, _, (by (show _root_.L2.SqL _ _ _ _; exact _root_.L2.SqL.of (by (show (_ : Option _root_.L2.HO) = _; exact Ll.Sep.get (by assumption) (by exact Ll.Pick.tl (Ll.Pick.tl Ll.Pick.hd))))))⟩, ?_⟩; refine ⟨_, rfl, ?_⟩; refine Ll.tnilI ?_; ((with_reducible show _root_.L2.rAppend _ _ _ _); refine Ll.goAppI (by assumption) (by exact Ll.Swp.tl (Ll.Swp.tl Ll.Swp.hd)) (by (show (_ : Prop); exact Nat.lt_of_le_of_lt (m := 16000000) (by omega) (by decide))) fun _ _ => ?_))
      rename_i H5 hS5
      have e4 : ((Sv.run c (w.take i)).1.map V.int).set ((Sv.run c (w.take i)).1.idxOf (Sv.lo (Sv.run c (w.take i)).1)) (V.int (max m (Sv.lo (Sv.run c (w.take i)).1) + h)) = (Sv.run c (w.take (i + 1))).1.map V.int := by
        rw [Sv.run_more hw, ← List.map_set]
        rfl
      have e5 : (Sv.run c (w.take i)).2 ++ [max m (Sv.lo (Sv.run c (w.take i)).1)] = (Sv.run c (w.take (i + 1))).2 := by
        rw [Sv.run_more hw]
        rfl
      rw [e5] at hS5
      have hS6 := hS5.re (a := e) (o' := .lst ((Sv.run c (w.take (i + 1))).1.map V.int)) (by exact Ll.Swp.tl Ll.Swp.hd) (congrArg HO.lst e4)
      exact ⟨_, _, _, _, rfl, hS6.sub (by ((apply Ll.Subs.sel; exact Ll.Pick.tl Ll.Pick.hd); (apply Ll.Subs.sel; exact Ll.Pick.tl Ll.Pick.hd); (apply Ll.Subs.sel; exact Ll.Pick.tl Ll.Pick.hd); (apply Ll.Subs.sel; exact Ll.Pick.tl Ll.Pick.hd); apply Ll.Subs.skip; exact Ll.Subs.refl))⟩
    · rintro σ H4 ⟨v4, v5, v6, v7, rfl, hS⟩
      (try refine goTail (by assumption) ?_)
      (refine ⟨_, rfl, ?_⟩)
      rw [hxl2, List.take_length] at hS
      exact k f _ ((hS.lstB (a := a) (xs := xs) (by exact Ll.Pick.tl (Ll.Pick.tl Ll.Pick.hd)) (by exact Ll.Pick.tl (Ll.Pick.tl Ll.Pick.hd))).sub (by ((apply Ll.Subs.sel; exact Ll.Pick.tl (Ll.Pick.tl Ll.Pick.hd)); (apply Ll.Subs.sel; exact Ll.Pick.hd); apply Ll.Subs.skip; exact Ll.Subs.refl)))
def spServedN (K : PySem.W.Frag) (cw cc : Addr) : Sp := fun vs H Q E => ∃ (a : Addr) (w : List (Int × Int)) (c : Int) (R : List Asr), vs = [.ref a, .int c] ∧ Sep (wkA K a w :: R) H ∧ w.length ≤ 1000 ∧
  (Sv.badAt 0 0 w = none → ∀ n : Nat, 1 ≤ n → n ≤ 8 → c = (n : Int) → ∀ p H', Sep (intA p (Sv.starts n w) :: wkA K a w :: R) H' → Q (.ref p) H') ∧ (Sv.badAt 0 0 w = none → ¬ (1 ≤ c ∧ c ≤ 8) → ∀ H', Sep (wkA K a w :: R) H' → E (.ref cc) none H') ∧
  (∀ k : Nat, Sv.badAt 0 0 w = some k → ∀ d H', H' d = some (.xd [("at", .int (k : Int))]) → Sep (wkA K a w :: R) H' → E (.ref cw) (some d) H')
def oVN : Option Nat → V
  | none => .non
  | some c => .int c
def spFewestN (K : PySem.W.Frag) (cw : Addr) : Sp := fun vs H Q E => ∃ (a : Addr) (w : List (Int × Int)) (l : Int) (R : List Asr), vs = [.ref a, .int l] ∧ Sep (wkA K a w :: R) H ∧ w.length ≤ 1000 ∧
  (Sv.badAt 0 0 w = none → ∀ H', Sep (wkA K a w :: R) H' → Q (oVN (Sv.fewest w l)) H') ∧ (∀ k : Nat, Sv.badAt 0 0 w = some k → ∀ d H', H' d = some (.xd [("at", .int (k : Int))]) → Sep (wkA K a w :: R) H' → E (.ref cw) (some d) H')
abbrev sscSv : Stmt := topS 18
abbrev nscSv : List Str := ["work", "count"]
theorem scSv : FnScope nscSv ["work", "count"] (defScope sscSv) := ⟨rfl, rfl, rfl, by decide +kernel, rfl, by decide +kernel, by decide +kernel⟩
theorem ok_servedN {f : Addr} {fd : FuncData} (F : FunD K "served" "served" (defArgs sscSv) (defBody sscSv) (defScope sscSv) [] [] f fd) (T : TxS K mg) (X_BadCount : ExG K mg "BadCount" cc)
    (G_need_work : FnG P w K mg base (L2.CX P w) 3 "need_work" ["work"] [] (spNeedN K cw)) (G_starts : FnG P w K mg base CX0 1 "starts" ["work", "count"] [] (spStartsN K)) : FnOk P w K mg base (L2.CX P w) 4 f fd ["work", "count"] (spServedN K cw cc) := by
  refine F.ok scSv (fun vs H Q E h => ?_) (fun cdv A0 outer s H vs Q E hr h => ?_)
  · obtain ⟨a, w, c, R, rfl, _⟩ := h
    rfl
  · obtain ⟨a, w, c, R, rfl, hS, hl, k, kc, ke⟩ := h
    refine ⟨_, (pss_cons (ps_expr (pe_callG G_need_work (hr.mono (by decide)) rfl (passes_call (takes_of rfl rfl rfl rfl) (fun _ _ _ _ z => z)) (pa_cons (pv 0) pa_nil)))
      (pss_cons (ps_if (pt_not (pt_chain (op_le) (op_le) pe_int (pv 1) (pe_gV rfl T.c_MOST_LINES))) (pss_one (ps_raiseT (takes_of rfl rfl rfl rfl) X_BadCount rfl)) pss_nil)
      (pss_one (ps_ret (pe_callG G_starts (hr.mono (by decide)) rfl pass0 (pa_cons (pv 0) (pa_cons (pv 1) pa_nil))))))), ?_⟩
    ((with_reducible refine Ll.seqG fun _ _ => ?_); refine ⟨_, rfl, ?_⟩; refine Ll.tnilI ?_)
    refine ⟨a, w, R, rfl, hS, hl, fun hb H1 hS1 => ?_, ke⟩
    clear hS ke
    have hb := hb
    by_cases hc : 1 ≤ c ∧ c ≤ 8
    · obtain ⟨h1, h8⟩ := hc
      (refine Ll.goTail (by assumption) ?_; (with_reducible refine Ll.seqG fun _ _ => ?_); refine ⟨_, rfl, ?_⟩; refine ⟨_, _, rfl, rfl, ?_⟩; refine ⟨_, rfl, ?_⟩; refine Ll.iteDT (by omega) ?_; refine Ll.tcI ?_; refine ⟨_, _, rfl, rfl, ?_⟩; refine ⟨_, rfl, ?_⟩; refine Ll.iteNF (by omega) ?_; refine Ll.goTail (by assumption) ?_; refine ⟨_, rfl, ?_⟩; refine ⟨_, rfl, ?_⟩; refine Ll.tnilI ?_)
      exact ⟨a, w, c.toNat, R, by rw [show ((c.toNat : Nat) : Int) = c by omega]; rfl, hS1, by omega, by omega, hl, fun p H2 hS2 => k hb c.toNat (by omega) (by omega) (by omega) p H2 hS2⟩
    · have h4 : ¬ 1 ≤ c ∨ (1 ≤ c ∧ ¬ c ≤ 8) := by omega
      rcases h4 with q | ⟨q1, q2⟩
      · (refine Ll.goTail (by assumption) ?_; (with_reducible refine Ll.seqG fun _ _ => ?_); refine ⟨_, rfl, ?_⟩; refine ⟨_, _, rfl, rfl, ?_⟩; refine ⟨_, rfl, ?_⟩; refine Ll.iteDF (by omega) ?_; refine ⟨_, rfl, ?_⟩; refine _root_.L2.iteT ?_)
        exact kc hb hc _ hS1
      · (refine Ll.goTail (by assumption) ?_; (with_reducible refine Ll.seqG fun _ _ => ?_); refine ⟨_, rfl, ?_⟩; refine ⟨_, _, rfl, rfl, ?_⟩; refine ⟨_, rfl, ?_⟩; refine Ll.iteDT (by omega) ?_; refine Ll.tcI ?_; refine ⟨_, _, rfl, rfl, ?_⟩; refine ⟨_, rfl, ?_⟩; refine Ll.iteNT (by omega) ?_)
        exact kc hb hc _ hS1
/-- 1 where one waits longer -/
def tooLateN (w : List (Int × Int)) (st : List Int) (l : Int) (j : Nat) : Option V := if Sv.late w st l j then some (.int 1) else none
abbrev sscFw : Stmt := topS 19
abbrev nscFw : List Str := ["work", "longest", "count", "found", "start", "moment", "hold"]
theorem scFw : FnScope nscFw ["work", "longest"] (defScope sscFw) := ⟨rfl, rfl, rfl, by decide +kernel, rfl, by decide +kernel, by decide +kernel⟩
theorem ok_fewestN {f : Addr} {fd : FuncData} (F : FunD K "fewest" "fewest" (defArgs sscFw) (defBody sscFw) (defScope sscFw) [] [] f fd) (T : TxS K mg)
    (G_need_work : FnG P w K mg base (L2.CX P w) 3 "need_work" ["work"] [] (spNeedN K cw)) (G_starts : FnG P w K mg base CX0 1 "starts" ["work", "count"] [] (spStartsN K)) : FnOk P w K mg base (L2.CX P w) 4 f fd ["work", "longest"] (spFewestN K cw) := by
  refine F.ok scFw (fun vs H Q E h => ?_) (fun cdv A0 outer s H vs Q E hr h => ?_)
  · obtain ⟨a, w, l, R, rfl, _⟩ := h
    rfl
  · obtain ⟨a, w, l, R, rfl, hS, hl, k, ke⟩ := h
    refine ⟨_, (pss_cons (ps_expr (pe_callG G_need_work (hr.mono (by decide)) rfl (passes_call (takes_of rfl rfl rfl rfl) (fun _ _ _ _ z => z)) (pa_cons (pv 0) pa_nil)))
      (pss_cons (PS.nox (ps_for PassesOwn.never rfl (pi_range2 (by rfl) T.range (pa_cons pe_int (pa_cons (pe_op op_add (pe_gV rfl T.c_MOST_LINES) pe_int) pa_nil))) (pg_name (i := 2) scFw.nd rfl (.inl rfl)) (pss_cons (ps_set (i := 3) scFw.nd rfl (Or.inl rfl) (pe_callG G_starts (hr.mono (by decide)) rfl pass0 (pa_cons (pv 0) (pa_cons (pv 2) pa_nil))))
      (pss_one (ps_if (pt_cmpR (op_eqD hr.units) (pe_lc (own := [("start", 4), ("moment", 5), ("hold", 6)]) (g := (gTup K 2 (gCons (gTup K 2 (gCons (gName 5) (gCons (gName 6) gNil))) (gCons (gName 4) gNil)))) (tt := (tTest (tOp (rI0 fun i j => .bl (decide (j < i))) (tOp (rI0 fun i j => .int (i - j)) (tVar 4) (tVar 5)) (tVar 1)))) (te := (tC (.int 1))) rfl scFw.nd (pi_zip (by rfl) T.zip (pa_cons (pv 0) (pa_cons (pv 3) pa_nil))) (blkOk_by (N := nscFw) (sc := defScope sscFw) (by decide +kernel)) (fun _ _ _ _ _ => (pg_tup rfl (pgs_cons (pg_tup rfl (pgs_cons (pg_name (i := 5) scFw.nd rfl (.inl rfl)) (pgs_cons (pg_name (i := 6) scFw.nd rfl (.inl rfl)) pgs_nil))) (pgs_cons (pg_name (i := 4) scFw.nd rfl (.inl rfl)) pgs_nil)))) (fun _ _ _ _ _ => (pts_one (pt_cmpR (op_gt) (pe_op op_sub (pv 4) (pv 5)) (pv 1) (nomark _)))) (fun _ _ _ _ _ => pe_int)) (pe_lst pa_nil) (nomark _)) (pss_one (ps_ret (pv 2))) pss_nil)))))
      (pss_one (ps_ret pe_non)))), ?_⟩
    ((with_reducible refine Ll.seqG fun _ _ => ?_); refine ⟨_, rfl, ?_⟩; refine Ll.tnilI ?_)
    refine ⟨a, w, R, rfl, hS, hl, fun hb H1 hS1 => ?_, ke⟩
    clear hS ke
    (refine Ll.goTail (by assumption) ?_; (with_reducible refine Ll.seqG fun _ _ => ?_); refine ⟨_, _, rfl, rfl, ?_⟩; refine Ll.tnilI ?_; refine ⟨_, _, rfl, ?_⟩)
    refine ⟨by decide, for_range (lo := 1) (n := ((8 : Int) + 1 - 1).toNat) (fun i σ H' => ∃ v2 v3 : Option V, σ = [some (.ref a), some (.int l), v2, v3, none, none, none] ∧ Sep (wkA K a w :: R) H' ∧ ∀ c, 1 ≤ c → c ≤ i → Sv.fits w l c = false)
      ⟨none, none, rfl, hS1, fun c h1 h2 => by omega⟩ ?_ ?_⟩
    · rintro i σ H2 hi ⟨v2, v3, rfl, hS, hf⟩
      have hi8 : i < 8 := hi
      (refine ⟨_, rfl, ?_⟩; refine ⟨_, rfl, ?_⟩; refine Ll.tnilI ?_)
      refine ⟨a, w, i + 1, R, (by rw [show (((i + 1 : Nat)) : Int) = 1 + (i : Int) by omega]; rfl), hS, by omega, by omega, hl, fun p H3 hS2 => ?_⟩
      clear hS hS1
      have hsl : ((Sv.starts (i + 1) w).map V.int).length = w.length := by rw [List.length_map, Sv.starts_len]
      obtain ⟨xs, hxl, hS3⟩ := hS2.lstO (a := a) (by exact Ll.Pick.tl Ll.Pick.hd)
      have hxl2 : xs.length = w.length := by rw [hxl, List.length_map]
      clear hS2
      (refine ⟨_, rfl, ?_⟩; refine ⟨_, rfl, ?_⟩; refine Ll.tnilI ?_)
      refine ⟨a, p, xs, _, rfl, (by (show _root_.L2.SqL _ _ _ _; exact _root_.L2.SqL.of (by (show (_ : Option _root_.L2.HO) = _; exact Ll.Sep.get (by assumption) (by exact Ll.Pick.hd))))), (by (show _root_.L2.SqL _ _ _ _; exact _root_.L2.SqL.of (by (show (_ : Option _root_.L2.HO) = _; exact Ll.Sep.get (by assumption) (by exact Ll.Pick.tl (Ll.Pick.tl Ll.Pick.hd)))))), ?_⟩
      intro D nD
      have hS4 := hS3.new (o := .lst []) nD
      generalize upd H3 D (.lst []) = H4 at *
      clear hS3
      refine lcS (walk_zip (K := K) (a := a) (b := p) (xs := xs) (ys := (Sv.starts (i + 1) w).map V.int) (n := w.length) (by rw [hsl, hxl2]; simp)) hS4 (tooLateN w (Sv.starts (i + 1) w) l) (by omega) (fun acc H5 hS5 => ⟨by (show _root_.L2.SqL _ _ _ _; exact _root_.L2.SqL.of (by (show (_ : Option _root_.L2.HO) = _; exact Ll.Sep.get (by assumption) (by exact Ll.Pick.tl Ll.Pick.hd)))), by (show _root_.L2.SqL _ _ _ _; exact _root_.L2.SqL.of (by (show (_ : Option _root_.L2.HO) = _; exact Ll.Sep.get (by assumption) (by exact Ll.Pick.tl (Ll.Pick.tl (Ll.Pick.tl Ll.Pick.hd))))))⟩) ?_ ?_
      · rintro j x H5 H6 acc Qy Qn hj hS5 ⟨T1, x1, z1, rfl, hT, rfl, e1, e2⟩ hy hn
        obtain ⟨dd, hd, hdp⟩ := dpAll_get (hS5.dl (xs := xs) (by exact Ll.Pick.tl (Ll.Pick.tl Ll.Pick.hd))) e1
        obtain ⟨⟨m, h⟩, hw, rfl⟩ := map_get hd
        obtain ⟨s0, hs0, rfl⟩ := map_get e2
        obtain ⟨t, rfl, ht⟩ := dp_pr hdp
        have hS6 := (hS5.mkT ht).newT (K := K) (xs := [V.ref t, .int s0]) hT
        generalize upd H5 T1 (.tup [V.ref t, .int s0]) = H7 at *
        clear hS5 ht hdp
        have hlt : Sv.late w (Sv.starts (i + 1) w) l j = decide (l < s0 - m) := by
          unfold Sv.late
          rw [hw, hs0]
        (refine ⟨_, _, rfl, (by (show _root_.L2.SqT _ _ _ _; exact Ll.Sep.tup (by assumption) (by exact Ll.Pick.hd))), rfl, ?_⟩; refine ⟨_, _, rfl, ?_⟩; refine ⟨_, _, rfl, (by (show _root_.L2.SqT _ _ _ _; exact Ll.Sep.tup (by assumption) (by exact Ll.Pick.tl Ll.Pick.hd))), rfl, ?_⟩; refine ⟨_, _, rfl, ?_⟩; refine ⟨_, _, rfl, rfl, ?_⟩; refine ⟨_, _, rfl, rfl, ?_⟩; refine ⟨rfl, ?_⟩; refine ⟨_, rfl, ?_⟩; refine ⟨_, rfl, ?_⟩; refine ⟨_, _, rfl, rfl, ?_⟩; refine ⟨_, rfl, ?_⟩; refine ⟨_, _, rfl, rfl, ?_⟩; refine ⟨_, rfl, ?_⟩)
        refine iteD (fun hc => ?_) (fun hc => ?_)
        · (refine Ll.tcI ?_)
          exact hy _ _ (by unfold tooLateN; rw [hlt, decide_eq_true (show l < s0 - m from hc)]; rfl) (by exact Ll.Sep.sub (by assumption) (by ((apply Ll.Subs.sel; exact Ll.Pick.tl (Ll.Pick.tl Ll.Pick.hd)); (apply Ll.Subs.sel; exact Ll.Pick.tl (Ll.Pick.tl Ll.Pick.hd)); (apply Ll.Subs.sel; exact Ll.Pick.tl (Ll.Pick.tl Ll.Pick.hd)); (apply Ll.Subs.sel; exact Ll.Pick.tl (Ll.Pick.tl Ll.Pick.hd)); apply Ll.Subs.skip; apply Ll.Subs.skip; exact Ll.Subs.refl)))
        · exact hn _ (by unfold tooLateN; rw [hlt, decide_eq_false (show ¬ l < s0 - m from hc)]; rfl) (by exact Ll.Sep.sub (by assumption) (by ((apply Ll.Subs.sel; exact Ll.Pick.tl (Ll.Pick.tl Ll.Pick.hd)); (apply Ll.Subs.sel; exact Ll.Pick.tl (Ll.Pick.tl Ll.Pick.hd)); (apply Ll.Subs.sel; exact Ll.Pick.tl (Ll.Pick.tl Ll.Pick.hd)); (apply Ll.Subs.sel; exact Ll.Pick.tl (Ll.Pick.tl Ll.Pick.hd)); apply Ll.Subs.skip; apply Ll.Subs.skip; exact Ll.Subs.refl)))
      · intro H5 hS5
        have e1 : (List.range w.length).filterMap (tooLateN w (Sv.starts (i + 1) w) l) = (List.replicate ((List.range w.length).countP (Sv.late w (Sv.starts (i + 1) w) l)) (1 : Int)).map V.int := by
          rw [List.map_replicate]
          exact Sv.ones _
        rw [e1] at hS5
        (refine Ll.tnilI ?_; (refine ⟨(by (show _ ≤ PySem.sizeLine); (show (_ : Prop); decide)), ?_⟩); (walk_at "ip"; walk_at "st.1"))
        refine goEqE (ds := (List.replicate ((List.range w.length).countP (Sv.late w (Sv.starts (i + 1) w) l)) (1 : Int)).map PyData.int) 1 (dp_ints (by (show _root_.L2.SqL _ _ _ _; exact _root_.L2.SqL.of (by (show (_ : Option _root_.L2.HO) = _; exact Ll.Sep.get (by assumption) (by exact Ll.Pick.tl Ll.Pick.hd)))))) (by (show _root_.L2.SqL _ _ _ _; exact _root_.L2.SqL.of (by (show (_ : Option _root_.L2.HO) = _; exact Ll.Sep.get (by assumption) (by exact Ll.Pick.hd))))) (shp_inD _) (by decide) (noB_inD _) ?_
        rw [map_nil]
        rename_i pn npn H6 hS6
        have hS7 : Sep (wkA K a w :: R) H6 := (hS6.lstB (a := a) (xs := xs) (by exact Ll.Pick.tl (Ll.Pick.tl Ll.Pick.hd)) (by exact Ll.Pick.tl (Ll.Pick.tl Ll.Pick.hd))).sub (by ((apply Ll.Subs.sel; exact Ll.Pick.hd); apply Ll.Subs.skip; apply Ll.Subs.skip; apply Ll.Subs.skip; exact Ll.Subs.refl))
        refine ⟨_, rfl, iteD (fun hc => ?_) (fun hc => ?_)⟩
        · have hfit : Sv.fits w l (i + 1) = true := Sv.fits_iff.mpr (by
            have := congrArg List.length hc
            simpa using this)
          have ef := Sv.fewest_some (w := w) (l := l) (c := i + 1) (by omega) (by omega) hfit fun d h1 h2 => hf d h1 (by omega)
          have kk := k hb _ hS7
          rw [ef] at kk
          have ec : ((i + 1 : Nat) : Int) = 1 + (i : Int) := by omega
          have kk : Q (.int ((i + 1 : Nat) : Int)) H6 := kk
          rw [ec] at kk
          (refine ⟨_, rfl, ?_⟩)
          exact kk
        · have hfit : Sv.fits w l (i + 1) = false := by
            cases q2 : Sv.fits w l (i + 1) with
            | false => rfl
            | true =>
              refine absurd ?_ hc
              rw [Sv.fits_iff.mp q2]
              rfl
          (refine ⟨_, _, rfl, ?_⟩)
          refine ⟨hS7, fun c h1 h2 => ?_⟩
          by_cases hc2 : c = i + 1
          · rw [hc2]
            exact hfit
          · exact hf c h1 (by omega)
    · rintro σ H2 ⟨v2, v3, rfl, hS, hf⟩
      have ef := Sv.fewest_none (w := w) (l := l) fun d h1 h2 => hf d h1 h2
      have kk := k hb _ hS
      rw [ef] at kk
      (try refine goTail (by assumption) ?_)
      (refine Ll.tcI ?_)
      exact kk
end
end Ll

namespace Ll
open PySem PySem.Spec PyProof.Rows L2
structure TxU (K : PySem.W.Frag) (mg : Str → Option Value) : Prop where
  len : mg "len" = none
  max : mg "max" = none
  range : mg "range" = none
  list : mg "list" = none
theorem fm_mapN {α β : Type} (f : α → β) (l : List α) : (List.range l.length).filterMap (fun i => (l[i]?).map f) = l.map f := by
  have e : (fun i : Nat => (l[i]?).map f) = fun i : Nat => (l[i]?).bind fun x => some (f x) := by
    funext i
    cases l[i]? <;> rfl
  rw [e, filterMap_bind]
  exact congrFun List.filterMap_eq_map l
theorem imm_prN (p : Int × Int) : Imm (prD p) = true := rfl
def spLongN (K : PySem.W.Frag) : Sp := fun vs H Q _ => ∃ (a p : Addr) (w : List (Int × Int)) (c : Nat) (R : List Asr), vs = [.ref a, .ref p] ∧ Sep (wkA K a w :: intA p (Sv.starts c w) :: R) H ∧ w.length ≤ 1000 ∧
  ∀ z H', (∀ l, 0 ≤ l → decide (z ≤ l) = Sv.fits w l c) → Sep (wkA K a w :: intA p (Sv.starts c w) :: R) H' → Q (.int z) H'
def spStartsL (K : PySem.W.Frag) : Sp := fun vs H Q _ => ∃ (a : Addr) (w : List (Int × Int)) (c : Nat) (R : List Asr), vs = [.ref a, .int c] ∧ Sep (wkA K a w :: R) H ∧ 1 ≤ c ∧ c ≤ 8 ∧ w.length ≤ 1000 ∧ Sv.Good w ∧ ∀ p H', Sep (intA p (Sv.starts c w) :: wkA K a w :: R) H' → Q (.ref p) H'
section
variable {P : Program} {w : World} {K : PySem.W.Frag} {mg : Str → Option Value} {base : Heap} {CX : CXT}
abbrev sscLo : Stmt := topS 25
abbrev nscLo : List Str := ["_law_work", "_law_found", "_law_k"]
theorem scLo : FnScope nscLo ["_law_work", "_law_found"] (defScope sscLo) := ⟨rfl, rfl, rfl, by decide +kernel, rfl, by decide +kernel, by decide +kernel⟩
theorem ok_longN {f : Addr} {fd : FuncData} (F : FunD K "_law_longest" "_law_longest" (defArgs sscLo) (defBody sscLo) (defScope sscLo) [] [] f fd) (T : TxU K mg) : FnOk P w K mg base CX 1 f fd ["_law_work", "_law_found"] (spLongN K) := by
  refine F.ok scLo (fun vs H Q E h => ?_) (fun cdv A0 outer s H vs Q E hr h => ?_)
  · obtain ⟨a, p, w, c, R, rfl, _⟩ := h
    rfl
  · obtain ⟨a, p, w, c, R, rfl, hS, hl, k⟩ := h
    refine ⟨_, PSs.nox (pss_one (ps_ret (pe_callB (cr_max rfl) (by rfl) T.max (by decide +kernel) (pa_cons (pe_op op_cat (pe_lst (pa_cons pe_int pa_nil)) (pe_lc (own := [("_law_k", 2)]) (g := (gName 2)) (tt := tYes) (te := (tOp (rI0 fun i j => .int (i - j)) (tOp (rIxL K) (tVar 1) (tVar 2)) (tOp (rIxT K) (tOp (rIxL K) (tVar 0) (tVar 2)) (tC (.int 0))))) rfl scLo.nd (pi_range1 (by rfl) T.range (pa_cons (pe_callB call_len_seq (by rfl) T.len PySem.boot_len (pa_cons (pv 0) pa_nil)) pa_nil)) (blkOk_by (N := nscLo) (sc := defScope sscLo) (by decide +kernel)) (fun _ _ _ _ _ => (pg_name (i := 2) scLo.nd rfl (.inl rfl))) (fun _ _ _ _ _ => pts_nil) (fun _ _ _ _ _ => (pe_op op_sub (pe_ix ix_list (pv 1) (pv 2) (fun _ _ => rfl)) (pe_ix ix_tup (pe_ix ix_list (pv 0) (pv 2) (fun _ _ => rfl)) pe_int (fun _ _ => rfl)))))) pa_nil)))), ?_⟩
    obtain ⟨xs, hxl, hSa⟩ := hS.lstO (a := a) (by exact Ll.Pick.hd)
    clear hS
    have hxl2 : xs.length = w.length := by rw [hxl, List.length_map]
    ((refine ⟨(by (show _ ≤ PySem.sizeLine); (show (_ : Prop); decide)), ?_⟩); (walk_at "ip"; walk_at "st.1"); refine ⟨_, rfl, ?_⟩; refine Ll.tnilI ?_; refine ⟨_, _, rfl, .inl (by (show _root_.L2.SqL _ _ _ _; exact _root_.L2.SqL.of (by (show (_ : Option _root_.L2.HO) = _; exact Ll.Sep.get (by assumption) (by exact Ll.Pick.tl Ll.Pick.hd))))), ?_⟩; refine ⟨_, rfl, ?_⟩)
    rename_i p0 np0 H1 hS1
    refine ⟨by omega, by omega, ?_⟩
    intro D nD
    have hS2 := hS1.new (o := .lst []) nD
    generalize upd H1 D (.lst []) = H2 at *
    clear hS1 hSa
    have hsl : (Sv.starts c w).length = w.length := Sv.starts_len
    have hzl : (List.zip (Sv.starts c w) w).length = w.length := by rw [List.length_zip, hsl, Nat.min_self]
    refine lcS (walk_range (lo := 0) (n := ((xs.length : Nat) : Int).toNat)) hS2 (fun j => ((List.zip (Sv.starts c w) w)[j]?).map fun q => V.int (q.1 - q.2.1)) (by omega) (fun _ _ _ => trivial) ?_ ?_
    · rintro j x H4 H5 acc Qy Qn hj hS3 ⟨rfl, rfl⟩ hy hn
      have hj2 : j < xs.length := by omega
      have hx : xs[j]? = some (xs[j]'hj2) := List.getElem?_eq_getElem hj2
      obtain ⟨dd, hd, hdp⟩ := dpAll_get (hS3.dl (xs := xs) (by exact Ll.Pick.tl (Ll.Pick.tl (Ll.Pick.tl Ll.Pick.hd)))) hx
      obtain ⟨⟨m, h⟩, hw, rfl⟩ := map_get hd
      obtain ⟨t, htx, ht⟩ := dp_pr hdp
      rw [htx] at hx
      have hs0 : (Sv.starts c w)[j]? = some ((Sv.starts c w)[j]'(by omega)) := List.getElem?_eq_getElem (by omega)
      generalize (Sv.starts c w)[j]'(by omega) = s0 at hs0
      have ha1 : atI xs ((0 : Int) + (j : Int)) = some (.ref t) := at_of (by omega) hx
      have ha2 : atI ((Sv.starts c w).map V.int) ((0 : Int) + (j : Int)) = some (.int s0) := at_of (j := j) (by omega) (by rw [List.getElem?_map, hs0]; rfl)
      have hz : (List.zip (Sv.starts c w) w)[j]? = some (s0, (m, h)) := List.getElem?_zip_eq_some.mpr ⟨hs0, hw⟩
      have hS4 := hS3.mkT ht
      clear hdp ht hS3
      rw [hz] at hy hn
      (refine ⟨rfl, ?_⟩; refine ⟨_, rfl, ?_⟩; refine ⟨_, rfl, ?_⟩; refine ⟨_, _, _, _, rfl, rfl, (by (show _root_.L2.SqL _ _ _ _; exact _root_.L2.SqL.of (by (show (_ : Option _root_.L2.HO) = _; exact Ll.Sep.get (by assumption) (by exact Ll.Pick.tl (Ll.Pick.tl (Ll.Pick.tl (Ll.Pick.tl (Ll.Pick.tl Ll.Pick.hd))))))))), (by (show (_ : Option _root_.L2.V) = _; assumption)), ?_⟩; refine ⟨_, rfl, ?_⟩; refine ⟨_, rfl, ?_⟩; refine ⟨_, _, _, _, rfl, rfl, (by (show _root_.L2.SqL _ _ _ _; exact _root_.L2.SqL.of (by (show (_ : Option _root_.L2.HO) = _; exact Ll.Sep.get (by assumption) (by exact Ll.Pick.tl (Ll.Pick.tl (Ll.Pick.tl Ll.Pick.hd))))))), (by (show (_ : Option _root_.L2.V) = _; assumption)), ?_⟩; refine Ll.tcI ?_; refine ⟨_, _, _, _, rfl, rfl, (by (show _root_.L2.SqT _ _ _ _; exact Ll.Sep.tup (by assumption) (by exact Ll.Pick.hd))), (by (show (_ : Option _root_.L2.V) = _; rfl)), ?_⟩; refine ⟨_, _, rfl, rfl, ?_⟩)
      exact hy _ _ rfl (by exact Ll.Sep.sub (by assumption) (by ((apply Ll.Subs.sel; exact Ll.Pick.tl Ll.Pick.hd); (apply Ll.Subs.sel; exact Ll.Pick.tl Ll.Pick.hd); (apply Ll.Subs.sel; exact Ll.Pick.tl Ll.Pick.hd); (apply Ll.Subs.sel; exact Ll.Pick.tl Ll.Pick.hd); (apply Ll.Subs.sel; exact Ll.Pick.tl Ll.Pick.hd); apply Ll.Subs.skip; exact Ll.Subs.refl)))
    intro H4 hS3
    have e1 : (List.range ((xs.length : Nat) : Int).toNat).filterMap (fun j => ((List.zip (Sv.starts c w) w)[j]?).map fun q => V.int (q.1 - q.2.1)) = ((List.zip (Sv.starts c w) w).map fun q => q.1 - q.2.1).map V.int := by
      rw [List.map_map, show ((xs.length : Nat) : Int).toNat = (List.zip (Sv.starts c w) w).length by omega]
      exact fm_mapN (fun q : Int × Int × Int => V.int (q.1 - q.2.1)) _
    rw [e1] at hS3
    clear hS2 e1
    skip
    refine ⟨_, _, _, _, rfl, rfl, (by (show (_ : Option _root_.L2.HO) = _; exact Ll.Sep.get (by assumption) (by exact Ll.Pick.tl Ll.Pick.hd))), (by (show (_ : Option _root_.L2.HO) = _; exact Ll.Sep.get (by assumption) (by exact Ll.Pick.hd))), (by rw [List.length_map, List.length_map, hzl, PySem.sizeLine_eq]; show 1 + _ ≤ _; omega), ?_⟩
    ((walk_at "ip"; walk_at "st.1"); refine Ll.tnilI ?_)
    rename_i pc npc H5 hS5
    refine ⟨pc, (0 : Int) :: ((List.zip (Sv.starts c w) w).map fun q => q.1 - q.2.1), rfl, (by (show _root_.L2.SqL _ _ _ _; exact _root_.L2.SqL.of (by (show (_ : Option _root_.L2.HO) = _; exact Ll.Sep.get (by assumption) (by exact Ll.Pick.hd))))), by simp, fun z hz1 hz2 => ?_⟩
    exact k z _ (fun l h0 => Sv.fits_long h0 hz1 hz2) ((hS5.lstB (a := a) (xs := xs) (by exact Ll.Pick.tl (Ll.Pick.tl (Ll.Pick.tl Ll.Pick.hd))) (by exact Ll.Pick.tl (Ll.Pick.tl (Ll.Pick.tl Ll.Pick.hd)))).sub (by ((apply Ll.Subs.sel; exact Ll.Pick.hd); (apply Ll.Subs.sel; exact Ll.Pick.tl (Ll.Pick.tl (Ll.Pick.tl Ll.Pick.hd))); apply Ll.Subs.skip; apply Ll.Subs.skip; apply Ll.Subs.skip; exact Ll.Subs.refl)))
theorem ub_ex : ∀ l : List Int, ∃ B : Int, ∀ s ∈ l, s ≤ B
  | [] => ⟨0, fun _ h => nomatch h⟩
  | a :: l => by
    obtain ⟨B, h⟩ := ub_ex l
    refine ⟨max a B, fun s hs => ?_⟩
    rcases List.mem_cons.mp hs with rfl | hs
    · omega
    · have := h s hs
      omega
abbrev sscLs : Stmt := topS 26
abbrev nscLs : List Str := ["_law_work", "_law_count", "_law_busy", "_law_found", "_law_left", "_law_now", "_law_end"]
theorem scLs : FnScope nscLs ["_law_work", "_law_count"] (defScope sscLs) := ⟨rfl, rfl, rfl, by decide +kernel, rfl, by decide +kernel, by decide +kernel⟩
theorem ok_startsL {f : Addr} {fd : FuncData} (F : FunD K "_law_starts" "_law_starts" (defArgs sscLs) (defBody sscLs) (defScope sscLs) [] [] f fd) (T : TxU K mg) : FnOk P w K mg base CX 1 f fd ["_law_work", "_law_count"] (spStartsL K) := by
  refine F.ok scLs (fun vs H Q E h => ?_) (fun cdv A0 outer s H vs Q E hr h => ?_)
  · obtain ⟨a, w, c, R, rfl, _⟩ := h
    rfl
  · obtain ⟨a, w, c, R, rfl, hS, hc1, hc8, hl, g, k⟩ := h
    refine ⟨_, PSs.nox (pss_cons (ps_par3 (i := 2) (j := 3) (l := 4) (by rfl) scLs.nd rfl rfl rfl (by decide) (by decide) (by decide) rfl rfl rfl (pa_cons (pe_lst pa_nil) (pa_cons (pe_lst pa_nil) (pa_cons (pe_callTy call_list_of (by rfl) T.list (by decide +kernel) (pa_cons (pv 0) pa_nil)) pa_nil))) (by rfl))
      (pss_cons (ps_set (i := 5) scLs.nd rfl (Or.inr rfl) pe_int)
      (pss_cons (ps_while PassesOwn.never (pt_cmpR (op_neD hr.units) (pv 4) (pe_lst pa_nil) (nomark _)) (pss_cons (ps_setLc (i := 2) (own := [("_law_end", 6)]) (g := (gName 6)) (tt := (tTest (tOp (rI0 fun i j => .bl (decide (j < i))) (tVar 6) (tVar 5)))) (te := (tVar 6)) rfl scLs.nd rfl rfl (sw_true rfl rfl rfl (by decide +kernel)) (pi_list (pv 2)) (blkOk_by (N := nscLs) (sc := defScope sscLs) (by decide +kernel)) (fun _ _ _ _ _ => (pg_name (i := 6) scLs.nd rfl (.inl rfl))) (fun _ _ _ _ _ => (pts_one (pt_cmpR (op_gt) (pv 6) (pv 5) (nomark _)))) (fun _ _ _ _ _ => (pv 6)))
      (pss_one (ps_if (PW.pt (pw_and (pt_cmpR (op_le) (pe_ix ix_tup (pe_ix ix_list (pv 4) pe_int (fun _ _ => rfl)) pe_int (fun _ _ => rfl)) (pv 5) (nomark _)) (pw_and1 (pt_cmpR (op_lt) (pe_callB call_len_seq (by rfl) T.len PySem.boot_len (pa_cons (pv 2) pa_nil)) (pv 1) (nomark _))))) (pss_cons (ps_expr (pe_bm PySem.F.plainAttrs_list PySem.F.slot_list_append PySem.F.type_list_append mt_append (pv 3) (pa_cons (pv 5) pa_nil)))
      (pss_cons (ps_expr (pe_bm PySem.F.plainAttrs_list PySem.F.slot_list_append PySem.F.type_list_append mt_append (pv 2) (pa_cons (pe_op op_add (pv 5) (pe_ix ix_tup (pe_ix ix_list (pv 4) pe_int (fun _ _ => rfl)) pe_int (fun _ _ => rfl))) pa_nil)))
      (pss_one (ps_set (i := 4) scLs.nd rfl (Or.inl rfl) (pe_slice sl_list (pv 4) (po_some pe_int) po_none))))) (pss_one (ps_set (i := 5) scLs.nd rfl (Or.inr rfl) (pe_op op_add (pv 5) pe_int)))))))
      (pss_one (ps_ret (pv 3)))))), ?_⟩
    obtain ⟨xs, hxl, hSa⟩ := hS.lstO (a := a) (by exact Ll.Pick.hd)
    clear hS
    have hxl2 : xs.length = w.length := by rw [hxl, List.length_map]
    ((with_reducible refine Ll.seqG fun _ _ => ?_); refine Ll.tconsI ?_; refine Ll.tnilI ?_; (refine ⟨(by (show _ ≤ PySem.sizeLine); (show (_ : Prop); decide)), ?_⟩); (walk_at "ip"; walk_at "st.1"); refine Ll.tconsI ?_; refine Ll.tnilI ?_; (refine ⟨(by (show _ ≤ PySem.sizeLine); (show (_ : Prop); decide)), ?_⟩); (walk_at "ip"; walk_at "st.1"); refine ⟨_, rfl, ?_⟩; refine Ll.tnilI ?_; refine ⟨_, _, rfl, .inl (by (show _root_.L2.SqL _ _ _ _; exact _root_.L2.SqL.of (by (show (_ : Option _root_.L2.HO) = _; exact Ll.Sep.get (by assumption) (by exact Ll.Pick.tl (Ll.Pick.tl Ll.Pick.hd)))))), ?_⟩; (walk_at "ip"; walk_at "st.1"); refine Ll.tnilI ?_)
    rename_i pb npb Hb hSb pf npf Hf hSf pl npl Hl hSl
    refine ⟨_, _, _, rfl, ?_⟩
    (refine Ll.goTail (by assumption) ?_; (with_reducible refine Ll.seqG fun _ _ => ?_); refine Ll.tcI ?_; refine Ll.goTail (by assumption) ?_; (with_reducible refine Ll.seqG fun _ _ => ?_))
    clear hSb hSf
    obtain ⟨B, hB⟩ := ub_ex (Sv.starts c w)
    have im := immAll_map imm_prN w
    have hS0 : Sep (intA pb [] :: intA pf [] :: wkA K pl (w.drop 0) :: wkA K a w :: R) Hl := by
      have h1 := (Sep.lstC (K := K) (ds := w.map prD) (hSl.pick (A := obj pl (.lst xs)) (by exact Ll.Pick.hd)) im (hSl.dl (xs := xs) (by exact Ll.Pick.tl (Ll.Pick.tl (Ll.Pick.tl (Ll.Pick.tl Ll.Pick.hd))))))
      have h2 := h1.lstB (a := a) (xs := xs) (by exact Ll.Pick.tl (Ll.Pick.tl (Ll.Pick.tl Ll.Pick.hd))) (by exact Ll.Pick.tl (Ll.Pick.tl (Ll.Pick.tl Ll.Pick.hd)))
      exact h2.sub (by ((apply Ll.Subs.sel; exact Ll.Pick.tl (Ll.Pick.tl (Ll.Pick.tl Ll.Pick.hd))); (apply Ll.Subs.sel; exact Ll.Pick.tl (Ll.Pick.tl Ll.Pick.hd)); (apply Ll.Subs.sel; exact Ll.Pick.tl Ll.Pick.hd); exact Ll.Subs.refl))
    clear hSl im hSa
    show tWhile _ _ _ _ _
    refine ⟨fun z σ H' => ∃ (k : Nat) (bs fo : List Int) (now : Int) (Pb Pf Pl : Addr) (v6 : Option V), z = (w.length - k) + (B - now).toNat ∧ σ = [some (.ref a), some (.int c), some (.ref Pb), some (.ref Pf), some (.ref Pl), some (.int now), v6] ∧ Sv.LS c w k bs fo now ∧ Sep (intA Pb bs :: intA Pf fo :: wkA K Pl (w.drop k) :: wkA K a w :: R) H',
      ⟨_, 0, [], [], 0, pb, pf, pl, _, rfl, rfl, Sv.ls0 hc1 g, hS0⟩, ?_⟩
    clear hS0
    rintro z σ H1 ⟨i, bs, fo, now, Pb, Pf, Pl, v6, hz, rfl, hLS, hS⟩
    (refine ⟨_, rfl, ?_⟩; refine Ll.tnilI ?_; (refine ⟨(by (show _ ≤ PySem.sizeLine); (show (_ : Prop); decide)), ?_⟩); (walk_at "ip"; walk_at "st.1"))
    rename_i pz npz Hz hSz
    clear hS
    refine goNeP (l := w.drop i) ((by assumption : Sep _ _).lstDp (a := Pl) (by exact Ll.Pick.tl (Ll.Pick.tl (Ll.Pick.tl Ll.Pick.hd)))) (by (show _root_.L2.SqL _ _ _ _; exact _root_.L2.SqL.of (by (show (_ : Option _root_.L2.HO) = _; exact Ll.Sep.get (by assumption) (by exact Ll.Pick.hd))))) ?_
    have hS : Sep (intA Pb bs :: intA Pf fo :: wkA K Pl (w.drop i) :: wkA K a w :: R) Hz := hSz.sub (by ((apply Ll.Subs.sel; exact Ll.Pick.tl Ll.Pick.hd); (apply Ll.Subs.sel; exact Ll.Pick.tl Ll.Pick.hd); (apply Ll.Subs.sel; exact Ll.Pick.tl Ll.Pick.hd); (apply Ll.Subs.sel; exact Ll.Pick.tl Ll.Pick.hd); apply Ll.Subs.skip; exact Ll.Subs.refl))
    clear hSz
    refine ⟨_, rfl, iteN (fun h => ?_) (fun h => ?_)⟩
    · have hil : i < w.length := by
        rcases Nat.lt_or_ge i w.length with q | q
        · exact q
        · exact absurd (List.drop_eq_nil_iff.mpr q) h
      obtain ⟨m, hd, hw⟩ : ∃ m hd, w[i]? = some (m, hd) := ⟨(w[i]'hil).1, (w[i]'hil).2, List.getElem?_eq_getElem hil⟩
      have hdr : w.drop i = (m, hd) :: w.drop (i + 1) := by
        rw [List.drop_eq_getElem_cons hil]
        rw [List.getElem?_eq_getElem hil] at hw
        rw [Option.some.inj hw]
      have hlow := Sv.low_run (c := c) i hB (m, hd) hw
      have hnw := hLS.nw (m, hd) hw
      have hbl := hLS.bl
      refine ⟨fun σ' H' => ∃ z', z' < z ∧ ∃ (k : Nat) (bs fo : List Int) (now : Int) (Pb Pf Pl : Addr) (v6 : Option V), z' = (w.length - k) + (B - now).toNat ∧ σ' = [some (.ref a), some (.int c), some (.ref Pb), some (.ref Pf), some (.ref Pl), some (.int now), v6] ∧ Sv.LS c w k bs fo now ∧ Sep (intA Pb bs :: intA Pf fo :: wkA K Pl (w.drop k) :: wkA K a w :: R) H', fun σ' H' g => g, ?_⟩
      obtain ⟨xs2, hxl2', hSo⟩ := hS.lstO (a := Pl) (by exact Ll.Pick.tl (Ll.Pick.tl Ll.Pick.hd))
      clear hS
      rw [hdr] at hxl2' hSo
      have hx : xs2[0]? = some (xs2[0]'(by rw [hxl2', List.length_map]; exact Nat.succ_pos _)) := List.getElem?_eq_getElem _
      obtain ⟨dd, hdd, hdp⟩ := dpAll_get (hSo.dl (xs := xs2) (by exact Ll.Pick.tl Ll.Pick.hd)) hx
      obtain rfl := Option.some.inj hdd
      obtain ⟨t, htx, ht⟩ := dp_pr hdp
      rw [htx] at hx
      have hat : atI xs2 0 = some (.ref t) := atI_nat (j := 0) hx
      have hSq := hSo.mkT ht
      clear hdp ht hSo
      ((with_reducible refine Ll.seqG fun _ _ => ?_); refine ⟨_, rfl, ?_⟩; refine ⟨_, rfl, ?_⟩; refine ⟨⟨_, (by (show _root_.L2.SqL _ _ _ _; exact _root_.L2.SqL.of (by (show (_ : Option _root_.L2.HO) = _; exact Ll.Sep.get (by assumption) (by exact Ll.Pick.tl (Ll.Pick.tl (Ll.Pick.tl Ll.Pick.hd)))))))⟩, ?_⟩; (walk_at "ip"; walk_at "st.1"))
      rename_i Dn nDn HD hSD
      clear hSq
      refine lcS (walk_list (K := K) (xs := bs.map V.int)) hSD (fun j => (bs[j]?).bind fun x => if decide (now < x) = true then some (V.int x) else none) (by rw [List.length_map]; omega) (fun acc H4 hS4 => by (show _root_.L2.SqL _ _ _ _; exact _root_.L2.SqL.of (by (show (_ : Option _root_.L2.HO) = _; exact Ll.Sep.get (by assumption) (by exact Ll.Pick.tl (Ll.Pick.tl (Ll.Pick.tl (Ll.Pick.tl Ll.Pick.hd)))))))) ?_ ?_
      · rintro j x H4 H5 acc Qy Qn hj hS4 ⟨rfl, hx⟩ hy hn
        obtain ⟨y, hy2, rfl⟩ := map_get hx
        rw [hy2] at hy hn
        (refine ⟨rfl, ?_⟩; refine ⟨_, rfl, ?_⟩; refine ⟨_, rfl, ?_⟩; refine ⟨_, _, rfl, rfl, ?_⟩; refine ⟨_, rfl, ?_⟩)
        refine iteD (fun hc => ?_) (fun hc => hn _ ?_ (by exact Ll.Sep.sub (by assumption) (by (exact Ll.Subs.refl))))
        · (refine ⟨_, rfl, ?_⟩)
          refine hy _ _ ?_ (by exact Ll.Sep.sub (by assumption) (by (exact Ll.Subs.refl)))
          show (if decide (now < y) = true then some (V.int y) else none) = _
          rw [if_pos (decide_eq_true (show now < y from hc))]
        · show (if decide (now < y) = true then some (V.int y) else none) = _
          rw [if_neg (by rw [decide_eq_true_iff]; exact hc)]
      intro H4 hS5
      rw [List.length_map, filterMap_bind, fm_if (fun x : Int => decide (now < x)) V.int] at hS5
      clear hSD
      have hS6 : Sep (intA Dn (bs.filter fun x => decide (now < x)) :: tupA K t [.int m, .int hd] :: obj Pl (.lst xs2) :: dlA K xs2 (((m, hd) :: w.drop (i + 1)).map prD) :: intA Pf fo :: wkA K a w :: R) H4 := hS5.sub (by ((apply Ll.Subs.sel; exact Ll.Pick.hd); (apply Ll.Subs.sel; exact Ll.Pick.hd); (apply Ll.Subs.sel; exact Ll.Pick.hd); (apply Ll.Subs.sel; exact Ll.Pick.hd); (apply Ll.Subs.sel; exact Ll.Pick.tl Ll.Pick.hd); (apply Ll.Subs.sel; exact Ll.Pick.tl Ll.Pick.hd); apply Ll.Subs.skip; exact Ll.Subs.refl))
      clear hS5
      have hfl := List.length_filter_le (fun x : Int => decide (now < x)) bs
      have hLg := hLS.go hc1 g hw
      have hLw := hLS.wait hc1 hw
      generalize (bs.filter fun x => decide (now < x)) = b2 at *
      have back : ∀ {H' : Hp} {b3 : List Int}, Sep (intA Dn b3 :: tupA K t [.int m, .int hd] :: obj Pl (.lst xs2) :: dlA K xs2 (((m, hd) :: w.drop (i + 1)).map prD) :: intA Pf fo :: wkA K a w :: R) H' → Sep (intA Dn b3 :: intA Pf fo :: wkA K Pl (w.drop i) :: wkA K a w :: R) H' := fun hs => by
        rw [hdr]
        exact (hs.lstB (a := Pl) (xs := xs2) (by exact Ll.Pick.tl (Ll.Pick.tl Ll.Pick.hd)) (by exact Ll.Pick.tl (Ll.Pick.tl Ll.Pick.hd))).sub (by ((apply Ll.Subs.sel; exact Ll.Pick.tl Ll.Pick.hd); (apply Ll.Subs.sel; exact Ll.Pick.tl (Ll.Pick.tl Ll.Pick.hd)); (apply Ll.Subs.sel; exact Ll.Pick.hd); (apply Ll.Subs.sel; exact Ll.Pick.tl Ll.Pick.hd); apply Ll.Subs.skip; exact Ll.Subs.refl))
      have hfo2 : fo.length ≤ 1000 := by
        rw [hLS.fo]
        have := Sv.run_len2 (w.take i) (List.replicate c 0, [])
        unfold Sv.run
        rw [this, List.length_take]
        simp
        omega
      have hb2 : b2.length ≤ 1000 := by omega
      have wt : ∀ (l2 : Sv.LS c w i b2 fo (now + 1)), (w.length - i) + (B - (now + 1)).toNat < z := fun l2 => by
        have := l2.nw (m, hd) hw
        rw [hz]
        omega
      (refine Ll.goTail (by assumption) ?_; refine ⟨_, rfl, ?_⟩; refine Ll.tcI ?_; refine ⟨_, _, _, _, rfl, rfl, (by (show _root_.L2.SqL _ _ _ _; exact _root_.L2.SqL.of (by (show (_ : Option _root_.L2.HO) = _; exact Ll.Sep.get (by assumption) (by exact Ll.Pick.tl (Ll.Pick.tl Ll.Pick.hd)))))), (by (show (_ : Option _root_.L2.V) = _; assumption)), ?_⟩; refine Ll.tcI ?_; refine ⟨_, _, _, _, rfl, rfl, (by (show _root_.L2.SqT _ _ _ _; exact Ll.Sep.tup (by assumption) (by exact Ll.Pick.tl Ll.Pick.hd))), (by (show (_ : Option _root_.L2.V) = _; rfl)), ?_⟩; refine ⟨_, rfl, ?_⟩; refine ⟨_, _, rfl, rfl, ?_⟩; refine ⟨_, rfl, ?_⟩)
      refine iteD (fun h1 => ?_) (fun h1 => ?_)
      · (refine ⟨_, rfl, ?_⟩; refine Ll.tnilI ?_; refine ⟨_, _, rfl, .inl (by (show _root_.L2.SqL _ _ _ _; exact _root_.L2.SqL.of (by (show (_ : Option _root_.L2.HO) = _; exact Ll.Sep.get (by assumption) (by exact Ll.Pick.hd))))), ?_⟩; refine ⟨_, rfl, ?_⟩; refine ⟨_, _, rfl, rfl, ?_⟩; refine ⟨_, rfl, ?_⟩)
        refine iteD (fun h2 => ?_) (fun h2 => ?_)
        · have h2 : b2.length < c := by
            have h2 : (((b2.map V.int).length : Nat) : Int) < (c : Int) := h2
            rw [List.length_map] at h2
            omega
          have l2 := hLg h1 h2
          ((with_reducible refine Ll.seqG fun _ _ => ?_); refine ⟨_, rfl, ?_⟩; refine ⟨.inl ⟨rfl, _, (by (show _root_.L2.SqL _ _ _ _; exact _root_.L2.SqL.of (by (show (_ : Option _root_.L2.HO) = _; exact Ll.Sep.get (by assumption) (by exact Ll.Pick.tl (Ll.Pick.tl (Ll.Pick.tl (Ll.Pick.tl Ll.Pick.hd))))))))⟩, ?_⟩; refine ⟨_, rfl, ?_⟩; refine Ll.tnilI ?_; ((with_reducible show _root_.L2.rAppend _ _ _ _); refine Ll.goAppI (by assumption) (by exact Ll.Swp.tl (Ll.Swp.tl (Ll.Swp.tl (Ll.Swp.tl Ll.Swp.hd)))) (by (show (_ : Prop); exact Nat.lt_of_le_of_lt (m := 16000000) (by omega) (by decide))) fun _ _ => ?_); refine Ll.goTail (by assumption) ?_; (with_reducible refine Ll.seqG fun _ _ => ?_); refine ⟨_, rfl, ?_⟩; refine ⟨.inl ⟨rfl, _, (by (show _root_.L2.SqL _ _ _ _; exact _root_.L2.SqL.of (by (show (_ : Option _root_.L2.HO) = _; exact Ll.Sep.get (by assumption) (by exact Ll.Pick.hd)))))⟩, ?_⟩; refine ⟨_, rfl, ?_⟩; refine ⟨_, rfl, ?_⟩; refine Ll.tcI ?_; refine ⟨_, _, _, _, rfl, rfl, (by (show _root_.L2.SqL _ _ _ _; exact _root_.L2.SqL.of (by (show (_ : Option _root_.L2.HO) = _; exact Ll.Sep.get (by assumption) (by exact Ll.Pick.tl (Ll.Pick.tl Ll.Pick.hd)))))), (by (show (_ : Option _root_.L2.V) = _; assumption)), ?_⟩; refine Ll.tcI ?_; refine ⟨_, _, _, _, rfl, rfl, (by (show _root_.L2.SqT _ _ _ _; exact Ll.Sep.tup (by assumption) (by exact Ll.Pick.tl Ll.Pick.hd))), (by (show (_ : Option _root_.L2.V) = _; rfl)), ?_⟩; refine ⟨_, _, rfl, rfl, ?_⟩; refine Ll.tnilI ?_; ((with_reducible show _root_.L2.rAppend _ _ _ _); refine Ll.goAppI (by assumption) (by exact Ll.Swp.hd) (by (show (_ : Prop); exact Nat.lt_of_le_of_lt (m := 16000000) (by omega) (by decide))) fun _ _ => ?_); refine Ll.goTail (by assumption) ?_; refine ⟨_, rfl, ?_⟩; refine ⟨_, rfl, ?_⟩; refine ⟨_, _, rfl, (show _root_.L2.SqL _ _ _ _ from by (show _root_.L2.SqL _ _ _ _; exact _root_.L2.SqL.of (by (show (_ : Option _root_.L2.HO) = _; exact Ll.Sep.get (by assumption) (by exact Ll.Pick.tl (Ll.Pick.tl Ll.Pick.hd)))))), ?_⟩; (walk_at "ip"; walk_at "st.1"))
          rename_i p9 np9 H9 hS9
          have hx9 : L2.cutV xs2 (some 1) none = xs2.drop 1 := cut_drop (i := 1) rfl (by rw [hxl2', List.length_map]; exact Nat.succ_pos _)
          rw [hx9] at hS9
          have d9 := dpAll_drop 1 (hS9.dl (xs := xs2) (by exact Ll.Pick.tl (Ll.Pick.tl (Ll.Pick.tl (Ll.Pick.tl Ll.Pick.hd)))))
          have h9 := Sep.lstC (K := K) (ds := (w.drop (i + 1)).map prD) (hS9.pick (A := obj p9 (.lst (xs2.drop 1))) (by exact Ll.Pick.hd)) (immAll_map imm_prN _) d9
          exact ⟨(w.length - (i + 1)) + (B - now).toNat, by rw [hz]; omega, i + 1, b2 ++ [now + hd], fo ++ [now], now, Dn, Pf, p9, v6, rfl, rfl, l2, h9.sub (by ((apply Ll.Subs.sel; exact Ll.Pick.tl Ll.Pick.hd); (apply Ll.Subs.sel; exact Ll.Pick.tl (Ll.Pick.tl (Ll.Pick.tl (Ll.Pick.tl Ll.Pick.hd)))); (apply Ll.Subs.sel; exact Ll.Pick.hd); (apply Ll.Subs.sel; exact Ll.Pick.tl (Ll.Pick.tl (Ll.Pick.tl Ll.Pick.hd))); apply Ll.Subs.skip; apply Ll.Subs.skip; apply Ll.Subs.skip; exact Ll.Subs.refl))⟩
        · have l2 := hLw fun q => h2 (by show (((b2.map V.int).length : Nat) : Int) < (c : Int); rw [List.length_map]; have := q.2; omega)
          (refine ⟨_, rfl, ?_⟩; refine Ll.tcI ?_; refine ⟨_, _, rfl, rfl, ?_⟩)
          exact ⟨_, wt l2, i, b2, fo, now + 1, Dn, Pf, Pl, v6, rfl, rfl, l2, back hS6⟩
      · have l2 := hLw fun q => h1 q.1
        (refine ⟨_, rfl, ?_⟩; refine Ll.tcI ?_; refine ⟨_, _, rfl, rfl, ?_⟩)
        exact ⟨_, wt l2, i, b2, fo, now + 1, Dn, Pf, Pl, v6, rfl, rfl, l2, back hS6⟩
    · have hil : i = w.length := by
        have := List.drop_eq_nil_iff.mp h
        have := hLS.kl
        omega
      have hfo := hLS.fo
      rw [hil, List.take_length] at hfo
      subst hfo
      refine goTail (by assumption) ?_
      (refine ⟨_, rfl, ?_⟩)
      exact k Pf _ (hS.sub (by ((apply Ll.Subs.sel; exact Ll.Pick.tl Ll.Pick.hd); (apply Ll.Subs.sel; exact Ll.Pick.tl (Ll.Pick.tl Ll.Pick.hd)); apply Ll.Subs.skip; apply Ll.Subs.skip; exact Ll.Subs.refl)))
end
end Ll

namespace Ll
open PySem PySem.Spec PyProof.Rows L2
theorem clo_ne {cells : List (Str × Addr)} {names : List (Str × NameKind)} {y : Str} (h : names.lookup y = some .free) : cloFrom cells names [] ≠ [] := fun z => by
  have h2 := cloFrom_has (cells := cells) (acc := []) (PySem.mem_of_lookup h)
  rw [z] at h2
  exact nomatch h2
def lamPB (N : List Str) (sc scope : Scope) (a : Str) : Bool :=
  (decide (scope.kind = .function) && (!scope.isCoroutine && (!scope.isGenerator && ((scope.names.all fun y => (!decide (y.2 = .cell) && ((!decide (y.2 = .local) || decide (y.1 = a)) && (!decide (y.2 = .free) || (decide (sc.names.lookup y.1 = some .cell) || decide (sc.names.lookup y.1 = some .free)))))) && (decide (scope.names.lookup a = some .local) && decide (a ∉ N))))))
theorem lamP_by {N : List Str} {sc scope : Scope} {a : Str} (h : lamPB N sc scope a = true) : LamP N sc scope a := by
  unfold lamPB at h
  simp only [Bool.and_eq_true, Bool.or_eq_true, Bool.not_eq_true', decide_eq_true_eq, decide_eq_false_iff_not, List.all_eq_true] at h
  obtain ⟨h1, h2, h3, h4, h5, h6⟩ := h
  refine ⟨h1, h2, h3, fun y hy => ⟨(h4 y hy).1, fun e => ?_⟩, fun y hy e => ?_, h5, h6⟩
  · rcases (h4 y hy).2.1 with z | z
    · exact absurd e z
    · exact z
  · rcases (h4 y hy).2.2 with z | z
    · exact absurd e z
    · exact z
end Ll

namespace Ll
open PySem PySem.Spec PyProof.Rows L2
def testOf : Stmt → Expr
  | .If t _ _ _ => t
  | _ => .Name "" ⟨0, 0, 0, 0⟩
def unL : Expr → Expr
  | .UnaryOp _ e _ => e
  | e => e
def orL : Expr → Expr
  | .BoolOp _ (e :: _) _ => e
  | e => e
def arg0 : Expr → Expr
  | .Call _ (a :: _) _ _ => a
  | e => e
abbrev qLaw : Str := "law.<locals>.<lambda>"
def spLaw (K : PySem.W.Frag) (TB : List (Addr × Str)) : Sp := fun vs H Q _ => ∃ (a : Addr) (ns : List Int), vs = [.ref a] ∧ FixL K H a (ns.map V.int) ∧ ns.length ≤ 63 ∧ Sep [tabA TB] H ∧ ∀ H', Q (.bl true) H'
/-- what is told of served, of fewest -/
def dBad (k : Int) : PyData := .tuple [.str "refused", .str "BadWork", .int k]
def dSv (w : List (Int × Int)) (c : Int) : PyData := match Sv.badAt 0 0 w with
  | some k => dBad k
  | none => if 1 ≤ c ∧ c ≤ 8 then .list ((Sv.starts c.toNat w).map .int) else .tuple [.str "refused", .str "BadCount"]
def dFw (w : List (Int × Int)) (l : Int) : PyData := match Sv.badAt 0 0 w with
  | some k => dBad k
  | none => match Sv.fewest w l with
    | none => .none
    | some c => .int c
theorem dSv_bad {w : List (Int × Int)} {c : Int} {k : Nat} (h : Sv.badAt 0 0 w = some k) : dSv w c = dBad k := by unfold dSv; rw [h]
theorem dFw_bad {w : List (Int × Int)} {c : Int} {k : Nat} (h : Sv.badAt 0 0 w = some k) : dFw w c = dBad k := by unfold dFw; rw [h]
theorem dSv_ok {w : List (Int × Int)} {c : Int} (h : Sv.badAt 0 0 w = none) (hc : 1 ≤ c ∧ c ≤ 8) : dSv w c = .list ((Sv.starts c.toNat w).map .int) := by unfold dSv; rw [h]; exact if_pos hc
theorem dSv_no {w : List (Int × Int)} {c : Int} (h : Sv.badAt 0 0 w = none) (hc : ¬ (1 ≤ c ∧ c ≤ 8)) : dSv w c = .tuple [.str "refused", .str "BadCount"] := by unfold dSv; rw [h]; exact if_neg hc
theorem dFw_ok {w : List (Int × Int)} {l : Int} (h : Sv.badAt 0 0 w = none) : dFw w l = (match Sv.fewest w l with
    | none => .none
    | some c => .int c) := by unfold dFw; rw [h]
section
variable {P : Program} {w : World} {K : PySem.W.Frag} {mg : Str → Option Value} {base : Heap} {cs : Nat → Addr} {le : Addr} {TB : List (Addr × Str)}
/-- served, told -/
theorem tol_sv {a : Addr} {ws : List (Int × Int)} {c : Int} {R : List Asr} {H : Hp} {Q : VK} (hS : Sep (wkA K a ws :: R) H) (hl : ws.length ≤ 1000) (k : ∀ v H', Dp K H' v (dSv ws c) → Sep (wkA K a ws :: R) H' → Q v H') :
    spServedN K (cs 9) (cs 8) [.ref a, .int c] H Q (fun cls d H' => ∃ x : Xf, x.ok ∧ cls = .ref (cs x.ix) ∧ x.at d H' ∧ ∀ p H2, Same H' H2 → SqT K H2 p x.vs → Q (.ref p) H2) := by
  refine ⟨a, ws, c, R, rfl, hS, hl, fun hb n h1 h8 hc p H' hS' => ?_, fun hb hc H' hS' => ?_, fun j hb d H' hd hS' => ?_⟩
  · subst hc
    refine k _ _ ?_ (hS'.sub (by ((apply Ll.Subs.sel; exact Ll.Pick.tl Ll.Pick.hd); apply Ll.Subs.skip; exact Ll.Subs.refl)))
    rw [dSv_ok hb ⟨by omega, by omega⟩]
    exact .lst (by (show _root_.L2.SqL _ _ _ _; exact _root_.L2.SqL.of (by (show (_ : Option _root_.L2.HO) = _; exact Ll.Sep.get (by assumption) (by exact Ll.Pick.hd))))) (dpAll_ints _)
  · refine ⟨.pl 8, ⟨by decide, by decide⟩, rfl, rfl, fun p H2 hs ht => k _ _ ?_ (hS'.same hs)⟩
    rw [dSv_no hb hc]
    exact .tup ht (.cons (.str _) (.cons (.str _) .nil))
  · refine ⟨.wk j, trivial, rfl, ⟨d, rfl, hd⟩, fun p H2 hs ht => k _ _ ?_ (hS'.same hs)⟩
    rw [dSv_bad hb]
    exact .tup ht (.cons (.str _) (.cons (.str _) (.cons (.int _) .nil)))
/-- fewest, told -/
theorem tol_fw {a : Addr} {ws : List (Int × Int)} {l : Int} {R : List Asr} {H : Hp} {Q : VK} (hS : Sep (wkA K a ws :: R) H) (hl : ws.length ≤ 1000) (k : ∀ v H', Dp K H' v (dFw ws l) → Sep (wkA K a ws :: R) H' → Q v H') :
    spFewestN K (cs 9) [.ref a, .int l] H Q (fun cls d H' => ∃ x : Xf, x.ok ∧ cls = .ref (cs x.ix) ∧ x.at d H' ∧ ∀ p H2, Same H' H2 → SqT K H2 p x.vs → Q (.ref p) H2) := by
  refine ⟨a, ws, l, R, rfl, hS, hl, fun hb H' hS' => ?_, fun j hb d H' hd hS' => ?_⟩
  · refine k _ _ ?_ hS'
    rw [dFw_ok hb]
    cases Sv.fewest ws l with
    | none => exact .non
    | some c => exact .int _
  · refine ⟨.wk j, trivial, rfl, ⟨d, rfl, hd⟩, fun p H2 hs ht => k _ _ ?_ (hS'.same hs)⟩
    rw [dFw_bad hb]
    exact .tup ht (.cons (.str _) (.cons (.str _) (.cons (.int _) .nil)))
abbrev sscLw : Stmt := topS 27
abbrev nscLw : List Str := ["_law_script", "_law_d", "_law_turn", "_law_moment", "_law_work", "_law_k", "_law_count", "_law_far", "_law_bad", "_law_odd", "_law_handed", "_law_due", "_law_again", "_law_late", "_law_longest_here", "_law_few", "_law_good"]
theorem scLw : FnScope nscLw ["_law_script"] (defScope sscLw) := ⟨rfl, rfl, rfl, by decide +kernel, rfl, by decide +kernel, by decide +kernel⟩
abbrev XL (P : Program) (w : World) (K : PySem.W.Frag) (mg : Str → Option Value) (base : Heap) (f : Addr) (cdv : Value) (A : Around) (outer : List Env) (s : Shared) (H : Hp) (E : XK) : Cx :=
  (cxOf C8.CX0 P w K mg base nscLw "law" (defScope sscLw) f cdv A outer s H E).nox
section
variable {f : Addr} {c Pt : Addr} {A0 : Around} {outer : List Env} {s : Shared} {H0 : Hp} {E0 : XK}
theorem lamA (hr : Room 9 (A0.deeper (envOfC "law" (defScope sscLw) s.heap.objs.size f (.ref c)))) (TE : TxQ K mg cs le) {g : Addr} {fdT : FuncData} (Ft : FunD K "_law_told" "_law_told" (defArgs soTold) (defBody soTold) (defScope soTold) [] [] g fdT) (hgm : mg "_law_told" = some (.ref g)) (hbT : Binds K fdT ["_law_work"] [])
    (tb : LamX.TabB base mg c Pt) (hmT : (Pt, qLaw) ∈ TB) (hu : ∀ p ∈ TB, p.1 = Pt → p.2 = qLaw) (G_served : FnG P w K mg base (L2.CX P w) 4 "served" ["work", "count"] [] (spServedN K (cs 9) (cs 8))) :
    ∃ t, PE (XL P w K mg base f (.ref c) A0 outer s H0 E0) (arg0 (unL (orL (testOf ((Ll.bodyOf ((Ll.bodyOf ((defBody sscLw).getD 1 (.Pass ⟨0, 0, 0, 0⟩))).getD 6 (.Pass ⟨0, 0, 0, 0⟩))).getD 0 (.Pass ⟨0, 0, 0, 0⟩)))))) t ∧ ∀ (σ : L2.St) (a : Addr) (ws : List (Int × Int)) (n : Int) (R : List Asr) (H : Hp) (Q : VK), σ[10]? = some (some (.ref a)) → σ[6]? = some (some (.int n)) → Sep (wkA K a ws :: tabA TB :: R) H → ws.length ≤ 1000 →
      (∀ v H', Dp K H' v (dSv ws n) → Sep (wkA K a ws :: tabA TB :: R) H' → Q v H') → t σ H Q := by
  obtain ⟨oc, od, dV, kV, doc, pm, an, cdv, ct, osl, rfl, lk, hcg, _, _⟩ := Ft.ex
  refine ⟨_, pe_lamcallP (x := "_law_told") (a := "_law_work") (k := 7) (t := fun E => tCall (spServedN K (cs 9) (cs 8)) [] E (tCons (tVar 10) (tCons (tVar 6) tNil))) rfl hgm Ft.kp lk hcg hbT oTold rfl (.inl rfl) (toldQ_gives TE _) tb rfl hmT hu hr (LamX.lamS_by (by kernel_rfl)) rfl (clo_ne (y := "_law_handed") rfl) (fun _ _ _ _ _ => rfl) (fun A outer s H E f c' hr => (pe_callG G_served (hr.mono (by decide)) rfl (passes_call (takes_of rfl rfl rfl rfl) (fun _ _ _ _ z => z)) (pa_cons (pv 10) (pa_cons (pv 6) pa_nil)))), ?_⟩
  intro σ a ws n R H Q h10 h6 hS hl k
  refine ⟨wkA K a ws :: R, hS.sub (by ((apply Ll.Subs.sel; exact Ll.Pick.tl Ll.Pick.hd); exact Ll.Subs.refl)), fun H1 hS1 => ?_⟩
  clear hS
  show TTolQ cs K _ H1 Q
  unfold TTolQ
  dsimp only
  refine ⟨_, h10, _, h6, ?_⟩
  exact tol_sv (R := tabA TB :: R) (hS1.sub (by ((apply Ll.Subs.sel; exact Ll.Pick.tl Ll.Pick.hd); exact Ll.Subs.refl))) hl fun v H2 hv h2 => k v H2 hv (h2.sub (by (exact Ll.Subs.refl)))
theorem lamB (hr : Room 9 (A0.deeper (envOfC "law" (defScope sscLw) s.heap.objs.size f (.ref c)))) (TE : TxQ K mg cs le) {g : Addr} {fdT : FuncData} (Ft : FunD K "_law_told" "_law_told" (defArgs soTold) (defBody soTold) (defScope soTold) [] [] g fdT) (hgm : mg "_law_told" = some (.ref g)) (hbT : Binds K fdT ["_law_work"] [])
    (tb : LamX.TabB base mg c Pt) (hmT : (Pt, qLaw) ∈ TB) (hu : ∀ p ∈ TB, p.1 = Pt → p.2 = qLaw) (G_served : FnG P w K mg base (L2.CX P w) 4 "served" ["work", "count"] [] (spServedN K (cs 9) (cs 8))) :
    ∃ t, PE (XL P w K mg base f (.ref c) A0 outer s H0 E0) (arg0 (unL (testOf ((Ll.bodyOf ((defBody sscLw).getD 1 (.Pass ⟨0, 0, 0, 0⟩))).getD 9 (.Pass ⟨0, 0, 0, 0⟩))))) t ∧ ∀ (σ : L2.St) (a : Addr) (ws : List (Int × Int)) (n : Int) (R : List Asr) (H : Hp) (Q : VK), σ[10]? = some (some (.ref a)) → σ[9]? = some (some (.int n)) → Sep (wkA K a ws :: tabA TB :: R) H → ws.length ≤ 1000 →
      (∀ v H', Dp K H' v (dSv ws n) → Sep (wkA K a ws :: tabA TB :: R) H' → Q v H') → t σ H Q := by
  obtain ⟨oc, od, dV, kV, doc, pm, an, cdv, ct, osl, rfl, lk, hcg, _, _⟩ := Ft.ex
  refine ⟨_, pe_lamcallD (x := "_law_told") (a := "_law_work") (y0 := "_law_a") (k := 7) (z := 0) (t := fun E => tCall (spServedN K (cs 9) (cs 8)) [] E (tCons (tVar 10) (tCons (tVar 9) tNil))) rfl hgm Ft.kp lk hcg hbT oTold rfl (.inl rfl) (toldQ_gives TE _) tb rfl hmT hu hr (lamP_by (by kernel_rfl)) rfl pe_int (clo_ne (y := "_law_handed") rfl) (fun _ _ _ _ _ _ => ⟨_, rfl, fun _ => rfl⟩) (fun A outer s H E f c' hr => (pe_callG G_served (hr.mono (by decide)) rfl (passes_call (takes_of rfl rfl rfl rfl) (fun _ _ _ _ z => z)) (pa_cons (pv 10) (pa_cons (pv 9) pa_nil)))), ?_⟩
  intro σ a ws n R H Q h10 h6 hS hl k
  refine ⟨wkA K a ws :: R, hS.sub (by ((apply Ll.Subs.sel; exact Ll.Pick.tl Ll.Pick.hd); exact Ll.Subs.refl)), fun H1 hS1 dt hdt => ?_⟩
  clear hS
  show TTolQ cs K _ H1 Q
  unfold TTolQ
  dsimp only
  refine ⟨hdt, ?_⟩
  refine ⟨_, h10, _, h6, ?_⟩
  exact tol_sv (R := tabA TB :: R) (hS1.sub (by ((apply Ll.Subs.sel; exact Ll.Pick.tl Ll.Pick.hd); exact Ll.Subs.refl))) hl fun v H2 hv h2 => k v H2 hv (h2.sub (by (exact Ll.Subs.refl)))
theorem lamC (hr : Room 9 (A0.deeper (envOfC "law" (defScope sscLw) s.heap.objs.size f (.ref c)))) (TE : TxQ K mg cs le) {g : Addr} {fdT : FuncData} (Ft : FunD K "_law_told" "_law_told" (defArgs soTold) (defBody soTold) (defScope soTold) [] [] g fdT) (hgm : mg "_law_told" = some (.ref g)) (hbT : Binds K fdT ["_law_work"] [])
    (tb : LamX.TabB base mg c Pt) (hmT : (Pt, qLaw) ∈ TB) (hu : ∀ p ∈ TB, p.1 = Pt → p.2 = qLaw) (G_fewest : FnG P w K mg base (L2.CX P w) 4 "fewest" ["work", "longest"] [] (spFewestN K (cs 9))) :
    ∃ t, PE (XL P w K mg base f (.ref c) A0 outer s H0 E0) (arg0 (unL (orL (testOf ((Ll.bodyOf ((defBody sscLw).getD 1 (.Pass ⟨0, 0, 0, 0⟩))).getD 13 (.Pass ⟨0, 0, 0, 0⟩)))))) t ∧ ∀ (σ : L2.St) (a : Addr) (ws : List (Int × Int)) (n : Int) (R : List Asr) (H : Hp) (Q : VK), σ[10]? = some (some (.ref a)) → σ[14]? = some (some (.int n)) → Sep (wkA K a ws :: tabA TB :: R) H → ws.length ≤ 1000 →
      (∀ v H', Dp K H' v (dFw ws n) → Sep (wkA K a ws :: tabA TB :: R) H' → Q v H') → t σ H Q := by
  obtain ⟨oc, od, dV, kV, doc, pm, an, cdv, ct, osl, rfl, lk, hcg, _, _⟩ := Ft.ex
  refine ⟨_, pe_lamcallD (x := "_law_told") (a := "_law_work") (y0 := "_law_b") (k := 7) (z := 0) (t := fun E => tCall (spFewestN K (cs 9)) [] E (tCons (tVar 10) (tCons (tVar 14) tNil))) rfl hgm Ft.kp lk hcg hbT oTold rfl (.inl rfl) (toldQ_gives TE _) tb rfl hmT hu hr (lamP_by (by kernel_rfl)) rfl pe_int (clo_ne (y := "_law_handed") rfl) (fun _ _ _ _ _ _ => ⟨_, rfl, fun _ => rfl⟩) (fun A outer s H E f c' hr => (pe_callG G_fewest (hr.mono (by decide)) rfl (passes_call (takes_of rfl rfl rfl rfl) (fun _ _ _ _ z => z)) (pa_cons (pv 10) (pa_cons (pv 14) pa_nil)))), ?_⟩
  intro σ a ws n R H Q h10 h6 hS hl k
  refine ⟨wkA K a ws :: R, hS.sub (by ((apply Ll.Subs.sel; exact Ll.Pick.tl Ll.Pick.hd); exact Ll.Subs.refl)), fun H1 hS1 dt hdt => ?_⟩
  clear hS
  show TTolQ cs K _ H1 Q
  unfold TTolQ
  dsimp only
  refine ⟨hdt, ?_⟩
  refine ⟨_, h10, _, h6, ?_⟩
  exact tol_fw (R := tabA TB :: R) (hS1.sub (by ((apply Ll.Subs.sel; exact Ll.Pick.tl Ll.Pick.hd); exact Ll.Subs.refl))) hl fun v H2 hv h2 => k v H2 hv (h2.sub (by (exact Ll.Subs.refl)))
end
end
end Ll

namespace Ll
open PySem PySem.Spec PyProof.Rows L2
mutual
theorem eqv_refl : ∀ (d : PyData) (k : Nat), shp k d = true → PyData.eqv d d = true
  | .none, _, _ => by simp [PyData.eqv]
  | .bool _, _, _ => by simp [PyData.eqv]
  | .int _, _, _ => by simp [PyData.eqv]
  | .str _, _, _ => by simp [PyData.eqv]
  | .tuple ds, 0, h => by cases h
  | .tuple ds, k + 1, h => by rw [PyData.eqv]; exact eqvAll_refl ds k h
  | .list ds, 0, h => by cases h
  | .list ds, k + 1, h => by rw [PyData.eqv]; exact eqvAll_refl ds k h
  | .dict _, k, h => by cases k <;> cases h
theorem eqvAll_refl : ∀ (ds : List PyData) (k : Nat), shpAll k ds = true → PyData.eqvAll ds ds = true
  | [], _, _ => by simp [PyData.eqvAll]
  | d :: ds, k, h => by
    have h2 := Bool.and_eq_true_iff.mp (show (shp k d && shpAll k ds) = true from h)
    rw [PyData.eqvAll, eqv_refl d k h2.1, eqvAll_refl ds k h2.2]
    rfl
end
theorem goNeW {K : PySem.W.Frag} {x y : V} {H : Hp} {Q : VK} {l : List (Int × Int)} (h1 : Dp K H x (.list (l.map prD))) (h2 : Dp K H y (.list (l.map prD))) (k : Q (.bl false) H) : rNeD K x y H Q :=
  ⟨_, _, h1, h2, shaped_of 2 (shp_prs l), shaped_of 2 (shp_prs l), by rw [eqv_refl _ 2 (shp_prs l)]; exact k⟩
theorem goLike {K : PySem.W.Frag} {x y : V} {H : Hp} {cs : List Asr} {Q : VK} {E : XK} {d : PyData} (h : Sep cs H) (h1 : Dp K H x d) (h2 : Dp K H y d) (hd : lk 4 d = true) (k : ∀ H', Sep cs H' → Q (.bl true) H') : spLike K 4 [x, y] H Q E :=
  ⟨x, y, d, rfl, h1, h2, hd, fun H' s => k H' (h.same s)⟩
theorem lk_sv {w : List (Int × Int)} {c : Int} (hl : w.length ≤ 1000) : lk 4 (dSv w c) = true := by
  unfold dSv
  split
  · rfl
  · split
    · show (decide (((Sv.starts c.toNat w).map PyData.int).length ≤ 90000) && ((Sv.starts c.toNat w).map PyData.int).all (lk 3)) = true
      rw [List.length_map, Sv.starts_len, decide_eq_true (by omega), Bool.true_and, List.all_map]
      exact List.all_eq_true.mpr fun _ _ => rfl
    · rfl
theorem lk_fw {w : List (Int × Int)} {c : Int} : lk 4 (dFw w c) = true := by
  unfold dFw
  split
  · rfl
  · split <;> rfl
structure TxL (K : PySem.W.Frag) (mg : Str → Option Value) : Prop where
  range : mg "range" = none
  len : mg "len" = none
  list : mg "list" = none
section
variable {P : Program} {w : World} {K : PySem.W.Frag} {mg : Str → Option Value} {base : Heap} {cs : Nat → Addr} {le : Addr} {TB : List (Addr × Str)}
variable {f : Addr} {c Pt : Addr} {A0 : Around} {outer : List Env} {s : Shared} {H0 : Hp} {E0 : XK}
/-- the last look: fewest -/
theorem t13 (hr : Room 9 (A0.deeper (envOfC "law" (defScope sscLw) s.heap.objs.size f (.ref c)))) (TE : TxQ K mg cs le) {g : Addr} {fdT : FuncData} (Ft : FunD K "_law_told" "_law_told" (defArgs soTold) (defBody soTold) (defScope soTold) [] [] g fdT) (hgm : mg "_law_told" = some (.ref g)) (hbT : Binds K fdT ["_law_work"] [])
    (tb : LamX.TabB base mg c Pt) (hmT : (Pt, qLaw) ∈ TB) (hu : ∀ p ∈ TB, p.1 = Pt → p.2 = qLaw) (G_fewest : FnG P w K mg base (L2.CX P w) 4 "fewest" ["work", "longest"] [] (spFewestN K (cs 9)))
    (G__law_like : FnG P w K mg base CX0 5 "_law_like" ["_law_found", "_law_due"] [] (spLike K 4)) :
    ∃ tt, PSs (XL P w K mg base f (.ref c) A0 outer s H0 E0) ((Ll.bodyOf ((defBody sscLw).getD 1 (.Pass ⟨0, 0, 0, 0⟩))).drop 13) tt ∧ ∀ (D : Ends) (H1 : Hp) (v0 v1 v2 v3 v5 v6 v7 v8 v9 v11 v12 v13 v16 : Option V) (p h : Addr) (ws : List (Int × Int)) (l : Int) (u : V) (R : List Asr), ws.length ≤ 1000 → Sep (datA K u (dFw ws l) :: wkA K h ws :: wkA K p ws :: tabA TB :: R) H1 →
      (∀ H', Sep (wkA K h ws :: wkA K p ws :: tabA TB :: R) H' → D.nx [v0, v1, v2, v3, some (.ref p), v5, v6, v7, v8, v9, some (.ref h), v11, v12, v13, some (.int l), some u, v16] H') → tt D [v0, v1, v2, v3, some (.ref p), v5, v6, v7, v8, v9, some (.ref h), v11, v12, v13, some (.int l), some u, v16] H1 := by
  obtain ⟨t2, hl_2, q2⟩ := lamC (P := P) (w := w) (f := f) (A0 := A0) (outer := outer) (s := s) (H0 := H0) (E0 := E0) hr TE Ft hgm hbT tb hmT hu G_fewest
  refine ⟨_, (pss_one (ps_if (PW.pt (pw_or (pt_not (pt_val (pe_callG G__law_like (hr.mono (by decide)) rfl pass0 (pa_cons hl_2 (pa_cons (pv 15) pa_nil))))) (pw_or1 (pt_cmpR (op_neD hr.units) (pv 10) (pv 4) (nomark _))))) (pss_one (ps_ret pe_bl)) pss_nil)), ?_⟩
  clear hl_2
  intro D H1 v0 v1 v2 v3 v5 v6 v7 v8 v9 v11 v12 v13 v16 p h ws l u R hl hS k
  refine q2 _ h ws l (datA K u (dFw ws l) :: wkA K p ws :: R) H1 _ rfl rfl (hS.sub (by ((apply Ll.Subs.sel; exact Ll.Pick.tl Ll.Pick.hd); (apply Ll.Subs.sel; exact Ll.Pick.tl (Ll.Pick.tl Ll.Pick.hd)); exact Ll.Subs.refl))) hl fun v H2 hv hS2 => ?_
  clear hS
  (refine ⟨_, rfl, ?_⟩; refine Ll.tnilI ?_)
  refine goLike hS2 (d := dFw ws l) hv (hS2.dat (v := u) (by exact Ll.Pick.tl (Ll.Pick.tl Ll.Pick.hd))).2 lk_fw fun H3 hS3 => ?_
  clear hS2 hv
  (refine ⟨_, rfl, ?_⟩; refine ⟨_, rfl, ?_⟩; refine ⟨_, rfl, ?_⟩)
  refine goNeW (l := ws) (hS3.lstDp (a := h) (by exact Ll.Pick.hd)) (hS3.lstDp (a := p) (by exact Ll.Pick.tl (Ll.Pick.tl (Ll.Pick.tl Ll.Pick.hd)))) ?_
  (refine ⟨_, rfl, ?_⟩; refine _root_.L2.iteF ?_)
  exact k _ (hS3.sub (by ((apply Ll.Subs.sel; exact Ll.Pick.hd); (apply Ll.Subs.sel; exact Ll.Pick.tl (Ll.Pick.tl Ll.Pick.hd)); (apply Ll.Subs.sel; exact Ll.Pick.hd); apply Ll.Subs.skip; exact Ll.Subs.refl)))
/-- the few, looked for -/
theorem t12 (hr : Room 9 (A0.deeper (envOfC "law" (defScope sscLw) s.heap.objs.size f (.ref c)))) (T : TxL K mg) (TE : TxQ K mg cs le) {g : Addr} {fdT : FuncData} (Ft : FunD K "_law_told" "_law_told" (defArgs soTold) (defBody soTold) (defScope soTold) [] [] g fdT) (hgm : mg "_law_told" = some (.ref g)) (hbT : Binds K fdT ["_law_work"] [])
    (tb : LamX.TabB base mg c Pt) (hmT : (Pt, qLaw) ∈ TB) (hu : ∀ p ∈ TB, p.1 = Pt → p.2 = qLaw) (G_fewest : FnG P w K mg base (L2.CX P w) 4 "fewest" ["work", "longest"] [] (spFewestN K (cs 9)))
    (G__law_like : FnG P w K mg base CX0 5 "_law_like" ["_law_found", "_law_due"] [] (spLike K 4)) (G__law_longest : FnG P w K mg base CX0 1 "_law_longest" ["_law_work", "_law_found"] [] (spLongN K)) (G__law_starts : FnG P w K mg base CX0 1 "_law_starts" ["_law_work", "_law_count"] [] (spStartsL K)) :
    ∃ tt, PSs (XL P w K mg base f (.ref c) A0 outer s H0 E0) ((Ll.bodyOf ((defBody sscLw).getD 1 (.Pass ⟨0, 0, 0, 0⟩))).drop 12) tt ∧ (∀ (D : Ends) (H1 : Hp) (v0 v1 v2 v3 v5 v6 v7 v9 v11 v12 v13 v16 : Option V) (p h : Addr) (ws : List (Int × Int)) (l : Int) (u : V) (R : List Asr), ws.length ≤ 1000 → Sv.badAt 0 0 ws = none → 0 ≤ l → Sep (wkA K h ws :: wkA K p ws :: tabA TB :: R) H1 →
      (∀ (v15 v16 : Option V) H', Sep (wkA K h ws :: wkA K p ws :: tabA TB :: R) H' → D.nx [v0, v1, v2, v3, some (.ref p), v5, v6, v7, some .non, v9, some (.ref h), v11, v12, v13, some (.int l), v15, v16] H') → tt D [v0, v1, v2, v3, some (.ref p), v5, v6, v7, some .non, v9, some (.ref h), v11, v12, v13, some (.int l), some u, v16] H1) ∧
     (∀ (D : Ends) (H1 : Hp) (v0 v1 v2 v3 v5 v6 v7 v9 v11 v12 v13 v16 : Option V) (p h : Addr) (ws : List (Int × Int)) (l : Int) (u : V) (k : Nat) (R : List Asr), ws.length ≤ 1000 → Sv.badAt 0 0 ws = some k → Sep (datA K u (dBad k) :: wkA K h ws :: wkA K p ws :: tabA TB :: R) H1 →
      (∀ (v15 v16 : Option V) H', Sep (wkA K h ws :: wkA K p ws :: tabA TB :: R) H' → D.nx [v0, v1, v2, v3, some (.ref p), v5, v6, v7, some (.int k), v9, some (.ref h), v11, v12, v13, some (.int l), v15, v16] H') → tt D [v0, v1, v2, v3, some (.ref p), v5, v6, v7, some (.int k), v9, some (.ref h), v11, v12, v13, some (.int l), some u, v16] H1) := by
  obtain ⟨tl, hl, ql⟩ := t13 (P := P) (w := w) (K := K) (mg := mg) (base := base) (cs := cs) (TB := TB) (f := f) (c := c) (Pt := Pt) (A0 := A0) (outer := outer) (s := s) (H0 := H0) (E0 := E0) hr TE Ft hgm hbT tb hmT hu G_fewest G__law_like
  refine ⟨_, (pss_cons (ps_if (pt_cmpR (op_isN) (pv 8) pe_non (nomark _)) (pss_cons (ps_setLc (i := 16) (own := [("_law_k", 5)]) (g := (gName 5)) (tt := (tTest (tOp (rI0 fun i j => .bl (decide (i ≤ j))) (tCall (spLongN K) [] E0 (tCons (tVar 4) (tCons (tCall (spStartsL K) [] E0 (tCons (tVar 4) (tCons (tVar 5) tNil))) tNil))) (tVar 14)))) (te := (tVar 5)) rfl scLw.nd rfl rfl (sw_true rfl rfl rfl (by decide +kernel)) (pi_range2 (by rfl) T.range (pa_cons pe_int (pa_cons pe_int pa_nil))) (blkOk_by (N := nscLw) (sc := defScope sscLw) (by decide +kernel)) (fun _ _ _ _ _ => (pg_name (i := 5) scLw.nd rfl (.inl rfl))) (fun _ _ _ _ _ => (pts_one (pt_cmpR (op_le) (pe_callG G__law_longest (hr.mono (by decide)) rfl pass0 (pa_cons (pv 4) (pa_cons (pe_callG G__law_starts (hr.mono (by decide)) rfl pass0 (pa_cons (pv 4) (pa_cons (pv 5) pa_nil))) pa_nil))) (pv 14) (nomark _)))) (fun _ _ _ _ _ => (pv 5)))
      (pss_one (ps_set (i := 15) scLw.nd rfl (Or.inl rfl) (pe_ifExp (pt_cmpR (op_neD hr.units) (pv 16) (pe_lst pa_nil) (nomark _)) (pe_ix ix_list (pv 16) pe_int (fun _ _ => rfl)) pe_non)))) pss_nil)
      hl), ?_, ?_⟩
  rotate_left
  · clear hl
    intro D H1 v0 v1 v2 v3 v5 v6 v7 v9 v11 v12 v13 v16 p h ws l u kk R hl hb hS k
    rw [← dFw_bad (c := l) hb] at hS
    ((with_reducible refine Ll.seqG fun _ _ => ?_); refine ⟨_, rfl, ?_⟩; refine Ll.tcI ?_; refine ⟨rfl, ?_⟩; refine ⟨_, rfl, ?_⟩; refine _root_.L2.iteF ?_; refine Ll.goTail (by assumption) ?_)
    exact ql D H1 _ _ _ _ _ _ _ _ _ _ _ _ _ p h ws l u R hl hS fun H3 h3 => k _ _ H3 h3
  clear hl
  intro D H1 v0 v1 v2 v3 v5 v6 v7 v9 v11 v12 v13 v16 p h ws l u R hl hb h0 hS k
  have gd : Sv.Good ws := Sv.bad_none.mp hb
  ((with_reducible refine Ll.seqG fun _ _ => ?_); refine ⟨_, rfl, ?_⟩; refine Ll.tcI ?_; refine ⟨rfl, ?_⟩; refine ⟨_, rfl, ?_⟩; refine _root_.L2.iteT ?_; (with_reducible refine Ll.seqG fun _ _ => ?_); refine ⟨_, _, rfl, ?_⟩)
  refine ⟨by decide, fun D1 nD1 => ?_⟩
  have hS1 := hS.new (o := .lst []) nD1
  generalize upd H1 D1 (.lst []) = H2 at *
  clear hS
  refine lcS (walk_range (lo := 1) (n := ((9 : Int) - 1).toNat)) hS1 (fun j => if Sv.fits ws l (j + 1) = true then some (V.int ((j + 1 : Nat) : Int)) else none) (by decide) (fun _ _ _ => trivial) ?_ ?_
  · rintro j x H4 H5 acc Qy Qn hj hS3 ⟨rfl, rfl⟩ hy hn
    have hj : j < 8 := hj
    (refine ⟨rfl, ?_⟩; refine ⟨_, rfl, ?_⟩; refine ⟨_, rfl, ?_⟩; refine ⟨_, rfl, ?_⟩; refine Ll.tnilI ?_)
    refine ⟨p, ws, j + 1, obj D1 (.lst acc) :: wkA K h ws :: tabA TB :: R, by rw [show ((j + 1 : Nat) : Int) = 1 + (j : Int) by omega]; rfl, hS3.sub (by ((apply Ll.Subs.sel; exact Ll.Pick.tl (Ll.Pick.tl Ll.Pick.hd)); exact Ll.Subs.refl)), by omega, by omega, hl, gd, fun p3 H6 hS4 => ?_⟩
    clear hS3
    (refine Ll.tnilI ?_)
    refine ⟨p, p3, ws, j + 1, obj D1 (.lst acc) :: wkA K h ws :: tabA TB :: R, rfl, hS4.sub (by ((apply Ll.Subs.sel; exact Ll.Pick.tl Ll.Pick.hd); exact Ll.Subs.refl)), hl, fun z H7 hz hS5 => ?_⟩
    clear hS4
    have hz := hz l h0
    (refine ⟨_, rfl, ?_⟩; refine ⟨_, _, rfl, rfl, ?_⟩; refine ⟨_, rfl, ?_⟩)
    refine iteD (fun hc => ?_) (fun hc => hn _ ?_ (by exact Ll.Sep.sub (by assumption) (by ((apply Ll.Subs.sel; exact Ll.Pick.tl (Ll.Pick.tl Ll.Pick.hd)); (apply Ll.Subs.sel; exact Ll.Pick.tl (Ll.Pick.tl Ll.Pick.hd)); (apply Ll.Subs.sel; exact Ll.Pick.hd); (apply Ll.Subs.sel; exact Ll.Pick.tl Ll.Pick.hd); apply Ll.Subs.skip; exact Ll.Subs.refl))))
    · (refine ⟨_, rfl, ?_⟩)
      refine hy _ _ ?_ (by exact Ll.Sep.sub (by assumption) (by ((apply Ll.Subs.sel; exact Ll.Pick.tl (Ll.Pick.tl Ll.Pick.hd)); (apply Ll.Subs.sel; exact Ll.Pick.tl (Ll.Pick.tl Ll.Pick.hd)); (apply Ll.Subs.sel; exact Ll.Pick.hd); (apply Ll.Subs.sel; exact Ll.Pick.tl Ll.Pick.hd); apply Ll.Subs.skip; exact Ll.Subs.refl)))
      rw [if_pos (by rw [← hz]; exact decide_eq_true hc), show ((j + 1 : Nat) : Int) = 1 + (j : Int) by omega]
    · rw [if_neg (by rw [← hz, decide_eq_true_iff]; exact hc)]
  intro H4 hS3
  have e1 : (List.range ((9 : Int) - 1).toNat).filterMap (fun j => if Sv.fits ws l (j + 1) = true then some (V.int ((j + 1 : Nat) : Int)) else none) = ((((List.range 8).map (· + 1)).filter fun c => Sv.fits ws l c).map Int.ofNat).map V.int := by
    rw [show ((9 : Int) - 1).toNat = 8 from rfl]
    induction List.range 8 with
    | nil => rfl
    | cons a r ih =>
      rw [List.filterMap_cons, List.map_cons, List.filter_cons, ih]
      cases Sv.fits ws l (a + 1) <;> rfl
  rw [e1] at hS3
  clear hS1 e1
  have ef : dFw ws l = (match (((List.range 8).map (· + 1)).filter fun c => Sv.fits ws l c) with
    | [] => .none
    | c :: _ => .int c) := by
    rw [dFw_ok hb]
    unfold Sv.fewest
    induction (List.range 8).map (· + 1) with
    | nil => rfl
    | cons a r ih =>
      rw [List.find?_cons, List.filter_cons]
      cases Sv.fits ws l a with
      | true => rfl
      | false => exact ih
  have hgl : (((List.range 8).map (· + 1)).filter fun c => Sv.fits ws l c).length ≤ 8 := Nat.le_trans (List.length_filter_le _ _) (by rw [List.length_map, List.length_range]; exact Nat.le_refl 8)
  generalize (((List.range 8).map (· + 1)).filter fun c => Sv.fits ws l c) = gs at *
  (refine Ll.goTail (by assumption) ?_; refine ⟨_, rfl, ?_⟩; refine Ll.tnilI ?_; (refine ⟨(by (show _ ≤ PySem.sizeLine); (show (_ : Prop); decide)), ?_⟩); (walk_at "ip"; walk_at "st.1"))
  rename_i pz npz Hz hSz
  clear hS3
  refine goNeI (l := gs.map Int.ofNat) (by (show _root_.L2.SqL _ _ _ _; exact _root_.L2.SqL.of (by (show (_ : Option _root_.L2.HO) = _; exact Ll.Sep.get (by assumption) (by exact Ll.Pick.tl Ll.Pick.hd))))) (by (show _root_.L2.SqL _ _ _ _; exact _root_.L2.SqL.of (by (show (_ : Option _root_.L2.HO) = _; exact Ll.Sep.get (by assumption) (by exact Ll.Pick.hd))))) ?_
  have fin : ∀ (v16 : Option V) (x : V) (H' : Hp), Imm (dFw ws l) = true → Dp K H' x (dFw ws l) → Sep (wkA K h ws :: wkA K p ws :: tabA TB :: R) H' → tl D [v0, v1, v2, v3, some (.ref p), v5, v6, v7, some .non, v9, some (.ref h), v11, v12, v13, some (.int l), some x, v16] H' := fun v16 x H' hi hd h2 =>
    ql D H' _ _ _ _ _ _ _ _ _ _ _ _ _ p h ws l x R hl (h2.mkD hi hd) fun H3 h3 => k _ _ H3 h3
  cases gs with
  | nil =>
    rw [show (!decide ((([] : List Nat).map Int.ofNat) = [])) = false from rfl]
    (refine ⟨_, rfl, ?_⟩; refine _root_.L2.iteF ?_; refine Ll.tcI ?_; refine Ll.goTail (by assumption) ?_)
    refine fin _ _ _ ?_ ?_ (hSz.sub (by ((apply Ll.Subs.sel; exact Ll.Pick.tl (Ll.Pick.tl Ll.Pick.hd)); (apply Ll.Subs.sel; exact Ll.Pick.tl (Ll.Pick.tl Ll.Pick.hd)); (apply Ll.Subs.sel; exact Ll.Pick.tl (Ll.Pick.tl Ll.Pick.hd)); apply Ll.Subs.skip; apply Ll.Subs.skip; exact Ll.Subs.refl)))
    · rw [ef]; rfl
    · rw [ef]; exact .non
  | cons g1 gs =>
    rw [show (!decide (((g1 :: gs).map Int.ofNat) = [])) = true from rfl]
    (refine ⟨_, rfl, ?_⟩; refine ⟨_, rfl, ?_⟩; refine Ll.tcI ?_)
    refine ⟨_, _, _, _, rfl, rfl, (by (show _root_.L2.SqL _ _ _ _; exact _root_.L2.SqL.of (by (show (_ : Option _root_.L2.HO) = _; exact Ll.Sep.get (by assumption) (by exact Ll.Pick.tl Ll.Pick.hd))))), atI_nat (j := 0) rfl, ?_⟩
    (refine Ll.goTail (by assumption) ?_)
    refine fin _ _ _ ?_ ?_ (hSz.sub (by ((apply Ll.Subs.sel; exact Ll.Pick.tl (Ll.Pick.tl Ll.Pick.hd)); (apply Ll.Subs.sel; exact Ll.Pick.tl (Ll.Pick.tl Ll.Pick.hd)); (apply Ll.Subs.sel; exact Ll.Pick.tl (Ll.Pick.tl Ll.Pick.hd)); apply Ll.Subs.skip; apply Ll.Subs.skip; exact Ll.Subs.refl)))
    · rw [ef]; rfl
    · rw [ef]; exact .int _
/-- a wrong count; then the longest drawn -/
theorem t9 (hr : Room 9 (A0.deeper (envOfC "law" (defScope sscLw) s.heap.objs.size f (.ref c)))) (T : TxL K mg) (TE : TxQ K mg cs le) {g : Addr} {fdT : FuncData} (Ft : FunD K "_law_told" "_law_told" (defArgs soTold) (defBody soTold) (defScope soTold) [] [] g fdT) (hgm : mg "_law_told" = some (.ref g)) (hbT : Binds K fdT ["_law_work"] [])
    (tb : LamX.TabB base mg c Pt) (hmT : (Pt, qLaw) ∈ TB) (hu : ∀ p ∈ TB, p.1 = Pt → p.2 = qLaw) (G_served : FnG P w K mg base (L2.CX P w) 4 "served" ["work", "count"] [] (spServedN K (cs 9) (cs 8))) (G_fewest : FnG P w K mg base (L2.CX P w) 4 "fewest" ["work", "longest"] [] (spFewestN K (cs 9)))
    (G__law_like : FnG P w K mg base CX0 5 "_law_like" ["_law_found", "_law_due"] [] (spLike K 4)) (G__law_longest : FnG P w K mg base CX0 1 "_law_longest" ["_law_work", "_law_found"] [] (spLongN K)) (G__law_starts : FnG P w K mg base CX0 1 "_law_starts" ["_law_work", "_law_count"] [] (spStartsL K)) (G__law_next : FnG P w K mg base CX0 1 "_law_next" ["_law_dice_here", "_law_many"] [] (spNext K)) :
    ∃ tt, PSs (XL P w K mg base f (.ref c) A0 outer s H0 E0) ((Ll.bodyOf ((defBody sscLw).getD 1 (.Pass ⟨0, 0, 0, 0⟩))).drop 9) tt ∧ ∀ (D : Ends) (H1 : Hp) (v0 v2 v3 v5 v6 v7 v12 v14 v15 v16 : Option V) (d p h : Addr) (ws : List (Int × Int)) (o : Int) (u ul : V) (A : Asr) (R : List Asr), ws.length ≤ 1000 → (∀ k, Sv.badAt 0 0 ws = some k → A = datA K u (dBad k)) → Sep (datA K ul (dSv ws o) :: A :: wkA K h ws :: wkA K p ws :: diceA K d :: tabA TB :: R) H1 →
      (∀ (v14 v15 v16 : Option V) H', Sep (wkA K h ws :: wkA K p ws :: diceA K d :: tabA TB :: R) H' → D.nx [v0, some (.ref d), v2, v3, some (.ref p), v5, v6, v7, some (oVN (Sv.badAt 0 0 ws)), some (.int o), some (.ref h), some u, v12, some ul, v14, v15, v16] H') → tt D [v0, some (.ref d), v2, v3, some (.ref p), v5, v6, v7, some (oVN (Sv.badAt 0 0 ws)), some (.int o), some (.ref h), some u, v12, some ul, v14, v15, v16] H1 := by
  obtain ⟨t1, hl_1, q1⟩ := lamB (P := P) (w := w) (f := f) (A0 := A0) (outer := outer) (s := s) (H0 := H0) (E0 := E0) hr TE Ft hgm hbT tb hmT hu G_served
  obtain ⟨tl, hl, ql, qb⟩ := t12 (P := P) (w := w) (K := K) (mg := mg) (base := base) (cs := cs) (TB := TB) (f := f) (c := c) (Pt := Pt) (A0 := A0) (outer := outer) (s := s) (H0 := H0) (E0 := E0) hr T TE Ft hgm hbT tb hmT hu G_fewest G__law_like G__law_longest G__law_starts
  refine ⟨_, (pss_cons (ps_if (pt_not (pt_val (pe_callG G__law_like (hr.mono (by decide)) rfl pass0 (pa_cons hl_1 (pa_cons (pv 13) pa_nil))))) (pss_one (ps_ret pe_bl)) pss_nil)
      (pss_cons (ps_set (i := 14) scLw.nd rfl (Or.inr rfl) (pe_ix ix_list (pe_lst (pa_cons (pe_callG G__law_next (hr.mono (by decide)) rfl pass0 (pa_cons (pv 1) (pa_cons pe_int pa_nil))) (pa_cons (pe_callG G__law_next (hr.mono (by decide)) rfl pass0 (pa_cons (pv 1) (pa_cons pe_int pa_nil))) pa_nil))) (pe_callG G__law_next (hr.mono (by decide)) rfl pass0 (pa_cons (pv 1) (pa_cons pe_int pa_nil))) (fun _ _ => rfl)))
      (pss_cons (ps_set (i := 15) scLw.nd rfl (Or.inl rfl) (pv 11))
      hl))), ?_⟩
  clear hl hl_1
  intro D H1 v0 v2 v3 v5 v6 v7 v12 v14 v15 v16 d p h ws o u ul A R hl hA hS k
  refine q1 _ h ws o (datA K ul (dSv ws o) :: A :: wkA K p ws :: diceA K d :: R) H1 _ rfl rfl (hS.sub (by ((apply Ll.Subs.sel; exact Ll.Pick.tl (Ll.Pick.tl Ll.Pick.hd)); (apply Ll.Subs.sel; exact Ll.Pick.tl (Ll.Pick.tl (Ll.Pick.tl (Ll.Pick.tl Ll.Pick.hd)))); exact Ll.Subs.refl))) hl fun v H2 hv hS2 => ?_
  clear hS
  (refine ⟨_, rfl, ?_⟩; refine Ll.tnilI ?_)
  refine goLike hS2 (d := dSv ws o) hv (hS2.dat (v := ul) (by exact Ll.Pick.tl (Ll.Pick.tl Ll.Pick.hd))).2 (lk_sv hl) fun H3 hS3 => ?_
  clear hS2 hv
  (refine ⟨_, rfl, ?_⟩; refine ⟨_, rfl, ?_⟩; refine Ll.tconsI ?_; refine Ll.tcI ?_; refine Ll.tnilI ?_; refine ⟨_, _, rfl, ?_⟩)
  refine goNext hS3 (by exact Ll.Pick.tl (Ll.Pick.tl (Ll.Pick.tl (Ll.Pick.tl (Ll.Pick.tl Ll.Pick.hd))))) (by omega) (by omega) fun x H4 x0 x1 hS4 => ?_
  clear hS3
  (refine ⟨_, rfl, ?_⟩; refine Ll.tconsI ?_; refine Ll.tcI ?_; refine Ll.tnilI ?_; refine ⟨_, _, rfl, ?_⟩)
  refine goNext hS4 (by exact Ll.Pick.hd) (by omega) (by omega) fun y H5 y0 y1 hS5 => ?_
  clear hS4
  (refine Ll.tnilI ?_; (refine ⟨(by (show _ ≤ PySem.sizeLine); (show (_ : Prop); exact Nat.lt_of_le_of_lt (m := 16000000) (by ((simp only [List.length_map, List.length_append, List.length_replicate, List.length_cons, List.length_nil, List.length_singleton, List.length_set, List.length_range, List.length_take, List.length_drop, List.length_dropLast]; omega))) (by decide))), ?_⟩); (walk_at "ip"; walk_at "st.1"); refine ⟨_, rfl, ?_⟩; refine Ll.tconsI ?_; refine Ll.tcI ?_; refine Ll.tnilI ?_; refine ⟨_, _, rfl, ?_⟩)
  rename_i pz npz H6 hS6
  clear hS5
  refine goNext hS6 (by exact Ll.Pick.tl Ll.Pick.hd) (by omega) (by omega) fun z H7 z0 z1 hS7 => ?_
  clear hS6
  obtain ⟨l, l0, hat⟩ : ∃ l : Int, 0 ≤ l ∧ atI [V.int x, V.int y] z = some (.int l) := by
    rcases (by omega : z = 0 ∨ z = 1) with rfl | rfl
    · exact ⟨x, x0, rfl⟩
    · exact ⟨y, y0, rfl⟩
  refine ⟨_, _, _, _, rfl, rfl, (by (show _root_.L2.SqL _ _ _ _; exact _root_.L2.SqL.of (by (show (_ : Option _root_.L2.HO) = _; exact Ll.Sep.get (by assumption) (by exact Ll.Pick.tl Ll.Pick.hd))))), hat, ?_⟩
  have hS8 : Sep (A :: wkA K h ws :: wkA K p ws :: diceA K d :: tabA TB :: R) H7 := hS7.sub (by ((apply Ll.Subs.sel; exact Ll.Pick.tl (Ll.Pick.tl (Ll.Pick.tl (Ll.Pick.tl (Ll.Pick.tl Ll.Pick.hd))))); (apply Ll.Subs.sel; exact Ll.Pick.tl (Ll.Pick.tl Ll.Pick.hd)); (apply Ll.Subs.sel; exact Ll.Pick.tl (Ll.Pick.tl (Ll.Pick.tl (Ll.Pick.tl Ll.Pick.hd)))); (apply Ll.Subs.sel; exact Ll.Pick.hd); (apply Ll.Subs.sel; exact Ll.Pick.tl Ll.Pick.hd); apply Ll.Subs.skip; apply Ll.Subs.skip; exact Ll.Subs.refl))
  clear hS7
  (refine ⟨_, rfl, ?_⟩)
  cases e : Sv.badAt 0 0 ws with
  | none =>
    rw [e] at k
    exact ql D H7 _ _ _ _ _ _ _ _ _ _ _ _ p h ws l u (diceA K d :: R) hl e l0 (hS8.sub (by ((apply Ll.Subs.sel; exact Ll.Pick.tl Ll.Pick.hd); (apply Ll.Subs.sel; exact Ll.Pick.tl Ll.Pick.hd); (apply Ll.Subs.sel; exact Ll.Pick.tl (Ll.Pick.tl Ll.Pick.hd)); (apply Ll.Subs.sel; exact Ll.Pick.tl Ll.Pick.hd); apply Ll.Subs.skip; exact Ll.Subs.refl))) fun _ _ H8 h8 => k _ _ _ H8 (h8.sub (by ((apply Ll.Subs.sel; exact Ll.Pick.hd); (apply Ll.Subs.sel; exact Ll.Pick.hd); (apply Ll.Subs.sel; exact Ll.Pick.tl Ll.Pick.hd); exact Ll.Subs.refl)))
  | some kb =>
    rw [e] at k
    obtain rfl := hA kb e
    exact qb D H7 _ _ _ _ _ _ _ _ _ _ _ _ p h ws l u kb (diceA K d :: R) hl e (hS8.sub (by ((apply Ll.Subs.sel; exact Ll.Pick.hd); (apply Ll.Subs.sel; exact Ll.Pick.hd); (apply Ll.Subs.sel; exact Ll.Pick.hd); (apply Ll.Subs.sel; exact Ll.Pick.tl Ll.Pick.hd); exact Ll.Subs.refl))) fun _ _ H8 h8 => k _ _ _ H8 (h8.sub (by ((apply Ll.Subs.sel; exact Ll.Pick.hd); (apply Ll.Subs.sel; exact Ll.Pick.hd); (apply Ll.Subs.sel; exact Ll.Pick.tl Ll.Pick.hd); exact Ll.Subs.refl)))
end
end Ll

namespace Ll
open PySem PySem.Spec PyProof.Rows L2
section
variable {P : Program} {w : World} {K : PySem.W.Frag} {mg : Str → Option Value} {base : Heap} {cs : Nat → Addr} {le : Addr} {TB : List (Addr × Str)}
variable {f : Addr} {c Pt : Addr} {A0 : Around} {outer : List Env} {s : Shared} {H0 : Hp} {E0 : XK}
/-- served, told twice; a wrong count drawn -/
theorem t6 (hr : Room 9 (A0.deeper (envOfC "law" (defScope sscLw) s.heap.objs.size f (.ref c)))) (T : TxL K mg) (TE : TxQ K mg cs le) {g : Addr} {fdT : FuncData} (Ft : FunD K "_law_told" "_law_told" (defArgs soTold) (defBody soTold) (defScope soTold) [] [] g fdT) (hgm : mg "_law_told" = some (.ref g)) (hbT : Binds K fdT ["_law_work"] [])
    (tb : LamX.TabB base mg c Pt) (hmT : (Pt, qLaw) ∈ TB) (hu : ∀ p ∈ TB, p.1 = Pt → p.2 = qLaw) (G_served : FnG P w K mg base (L2.CX P w) 4 "served" ["work", "count"] [] (spServedN K (cs 9) (cs 8))) (G_fewest : FnG P w K mg base (L2.CX P w) 4 "fewest" ["work", "longest"] [] (spFewestN K (cs 9)))
    (G__law_like : FnG P w K mg base CX0 5 "_law_like" ["_law_found", "_law_due"] [] (spLike K 4)) (G__law_longest : FnG P w K mg base CX0 1 "_law_longest" ["_law_work", "_law_found"] [] (spLongN K)) (G__law_starts : FnG P w K mg base CX0 1 "_law_starts" ["_law_work", "_law_count"] [] (spStartsL K)) (G__law_next : FnG P w K mg base CX0 1 "_law_next" ["_law_dice_here", "_law_many"] [] (spNext K)) :
    ∃ tt, PSs (XL P w K mg base f (.ref c) A0 outer s H0 E0) ((Ll.bodyOf ((defBody sscLw).getD 1 (.Pass ⟨0, 0, 0, 0⟩))).drop 6) tt ∧ ∀ (D : Ends) (H1 : Hp) (v0 v2 v3 v5 v9 v12 v13 v14 v15 v16 : Option V) (d p h : Addr) (ws : List (Int × Int)) (n far : Int) (u : V) (A : Asr) (R : List Asr), ws.length ≤ 1000 → 0 ≤ far → far < 1000000 → (∀ k, Sv.badAt 0 0 ws = some k → A = datA K u (dBad k)) → (∀ {cs : List Asr} {H : Hp}, Sep (A :: cs) H → Dp K H u (dSv ws n)) → Sep (A :: wkA K h ws :: wkA K p ws :: diceA K d :: tabA TB :: R) H1 →
      (∀ (v9 v12 v13 v14 v15 v16 : Option V) H', Sep (wkA K h ws :: wkA K p ws :: diceA K d :: tabA TB :: R) H' → D.nx [v0, some (.ref d), v2, v3, some (.ref p), v5, some (.int n), some (.int far), some (oVN (Sv.badAt 0 0 ws)), v9, some (.ref h), some u, v12, v13, v14, v15, v16] H') → tt D [v0, some (.ref d), v2, v3, some (.ref p), v5, some (.int n), some (.int far), some (oVN (Sv.badAt 0 0 ws)), v9, some (.ref h), some u, v12, v13, v14, v15, v16] H1 := by
  obtain ⟨t1, hl_0, q1⟩ := lamA (P := P) (w := w) (f := f) (A0 := A0) (outer := outer) (s := s) (H0 := H0) (E0 := E0) hr TE Ft hgm hbT tb hmT hu G_served
  obtain ⟨tl, hl, ql⟩ := t9 (P := P) (w := w) (K := K) (mg := mg) (base := base) (cs := cs) (TB := TB) (f := f) (c := c) (Pt := Pt) (A0 := A0) (outer := outer) (s := s) (H0 := H0) (E0 := E0) hr T TE Ft hgm hbT tb hmT hu G_served G_fewest G__law_like G__law_longest G__law_starts G__law_next
  refine ⟨_, (pss_cons (ps_for PassesOwn.never rfl (pi_range1 (by rfl) T.range (pa_cons pe_int pa_nil)) (pg_name (i := 12) scLw.nd rfl (.inl rfl)) (pss_one (ps_if (PW.pt (pw_or (pt_not (pt_val (pe_callG G__law_like (hr.mono (by decide)) rfl pass0 (pa_cons hl_0 (pa_cons (pv 11) pa_nil))))) (pw_or1 (pt_cmpR (op_neD hr.units) (pv 10) (pv 4) (nomark _))))) (pss_one (ps_ret pe_bl)) pss_nil)))
      (pss_cons (ps_set (i := 9) scLw.nd rfl (Or.inr rfl) (pe_ix ix_list (pe_lst (pa_cons (pe_op op_sub pe_int (pv 7)) (pa_cons (pe_op op_add pe_int (pv 7)) pa_nil))) (pe_callG G__law_next (hr.mono (by decide)) rfl pass0 (pa_cons (pv 1) (pa_cons pe_int pa_nil))) (fun _ _ => rfl)))
      (pss_cons (ps_set (i := 13) scLw.nd rfl (Or.inl rfl) (pe_ifExp (pt_cmpR (op_notN) (pv 8) pe_non (nomark _)) (pv 11) (pe_tup (pa_cons pe_str (pa_cons pe_str pa_nil)))))
      hl))), ?_⟩
  clear hl hl_0
  intro D H1 v0 v2 v3 v5 v9 v12 v13 v14 v15 v16 d p h ws n far u A R hl f0 f1 hA hD hS k
  ((with_reducible refine Ll.seqG fun _ _ => ?_); refine ⟨_, rfl, ?_⟩)
  refine ⟨by decide, by decide, for_range (lo := 0) (n := (Int.toNat 2)) (fun i σ H' => ∃ v12 : Option V, σ = [v0, some (.ref d), v2, v3, some (.ref p), v5, some (.int n), some (.int far), some (oVN (Sv.badAt 0 0 ws)), v9, some (.ref h), some u, v12, v13, v14, v15, v16] ∧ Sep (A :: wkA K h ws :: wkA K p ws :: diceA K d :: tabA TB :: R) H')
    ⟨v12, rfl, hS⟩ ?_ ?_⟩
  · clear hS
    rintro i σ H2 hi ⟨v12, rfl, hS⟩
    skip
    refine q1 _ h ws n (A :: wkA K p ws :: diceA K d :: R) _ _ rfl rfl (hS.sub (by ((apply Ll.Subs.sel; exact Ll.Pick.tl Ll.Pick.hd); (apply Ll.Subs.sel; exact Ll.Pick.tl (Ll.Pick.tl (Ll.Pick.tl Ll.Pick.hd))); exact Ll.Subs.refl))) hl fun v H3 hv hS2 => ?_
    clear hS
    (refine ⟨_, rfl, ?_⟩; refine Ll.tnilI ?_)
    refine goLike hS2 (d := dSv ws n) hv (hD (hS2.sub (ds := A :: wkA K h ws :: tabA TB :: wkA K p ws :: diceA K d :: R) (by ((apply Ll.Subs.sel; exact Ll.Pick.tl (Ll.Pick.tl Ll.Pick.hd)); exact Ll.Subs.refl)))) (lk_sv hl) fun H4 hS3 => ?_
    clear hS2 hv
    (refine ⟨_, rfl, ?_⟩; refine ⟨_, rfl, ?_⟩; refine ⟨_, rfl, ?_⟩)
    refine goNeW (l := ws) (hS3.lstDp (a := h) (by exact Ll.Pick.hd)) (hS3.lstDp (a := p) (by exact Ll.Pick.tl (Ll.Pick.tl (Ll.Pick.tl Ll.Pick.hd)))) ?_
    (refine ⟨_, rfl, ?_⟩; refine ⟨_, rfl, ?_⟩)
    exact hS3.sub (by ((apply Ll.Subs.sel; exact Ll.Pick.tl (Ll.Pick.tl Ll.Pick.hd)); (apply Ll.Subs.sel; exact Ll.Pick.hd); (apply Ll.Subs.sel; exact Ll.Pick.tl Ll.Pick.hd); (apply Ll.Subs.sel; exact Ll.Pick.tl Ll.Pick.hd); exact Ll.Subs.refl))
  · clear hS
    rintro σ H2 ⟨v12, rfl, hS⟩
    (refine Ll.goTail (by assumption) ?_; (with_reducible refine Ll.seqG fun _ _ => ?_); refine ⟨_, rfl, ?_⟩; refine ⟨_, _, rfl, rfl, ?_⟩; refine ⟨_, rfl, ?_⟩; refine ⟨_, _, rfl, rfl, ?_⟩; refine Ll.tnilI ?_; (refine ⟨(by (show _ ≤ PySem.sizeLine); (show (_ : Prop); exact Nat.lt_of_le_of_lt (m := 16000000) (by ((simp only [List.length_map, List.length_append, List.length_replicate, List.length_cons, List.length_nil, List.length_singleton, List.length_set, List.length_range, List.length_take, List.length_drop, List.length_dropLast]; omega))) (by decide))), ?_⟩); (walk_at "ip"; walk_at "st.1"); refine ⟨_, rfl, ?_⟩; refine Ll.tconsI ?_; refine Ll.tcI ?_; refine Ll.tnilI ?_; refine ⟨_, _, rfl, ?_⟩)
    rename_i pz npz H6 hS6
    clear hS
    refine goNext hS6 (by exact Ll.Pick.tl (Ll.Pick.tl (Ll.Pick.tl (Ll.Pick.tl Ll.Pick.hd)))) (by omega) (by omega) fun z H7 z0 z1 hS7 => ?_
    clear hS6
    obtain ⟨o, o0, hat⟩ : ∃ o : Int, ¬ (1 ≤ o ∧ o ≤ 8) ∧ atI [V.int (0 - far), V.int (9 + far)] z = some (.int o) := by
      rcases (by omega : z = 0 ∨ z = 1) with rfl | rfl
      · exact ⟨_, by omega, rfl⟩
      · exact ⟨_, by omega, rfl⟩
    refine ⟨_, _, _, _, rfl, rfl, (by (show _root_.L2.SqL _ _ _ _; exact _root_.L2.SqL.of (by (show (_ : Option _root_.L2.HO) = _; exact Ll.Sep.get (by assumption) (by exact Ll.Pick.tl Ll.Pick.hd))))), hat, ?_⟩
    have hS8 : Sep (A :: wkA K h ws :: wkA K p ws :: diceA K d :: tabA TB :: R) H7 := hS7.sub (by ((apply Ll.Subs.sel; exact Ll.Pick.tl (Ll.Pick.tl Ll.Pick.hd)); (apply Ll.Subs.sel; exact Ll.Pick.tl (Ll.Pick.tl Ll.Pick.hd)); (apply Ll.Subs.sel; exact Ll.Pick.tl (Ll.Pick.tl Ll.Pick.hd)); (apply Ll.Subs.sel; exact Ll.Pick.hd); (apply Ll.Subs.sel; exact Ll.Pick.tl Ll.Pick.hd); apply Ll.Subs.skip; exact Ll.Subs.refl))
    clear hS7
    cases e : Sv.badAt 0 0 ws with
    | none =>
      (refine Ll.goTail (by assumption) ?_; (with_reducible refine Ll.seqG fun _ _ => ?_); refine ⟨_, rfl, ?_⟩; refine Ll.tcI ?_; refine ⟨rfl, ?_⟩; refine ⟨_, rfl, ?_⟩; refine _root_.L2.iteF ?_; refine Ll.tconsI ?_; refine Ll.tcI ?_; refine Ll.tconsI ?_; refine Ll.tcI ?_; refine Ll.tnilI ?_; (refine ⟨(by (show _ ≤ PySem.sizeLine); (show (_ : Prop); decide)), ?_⟩); (walk_at "ip"; walk_at "st.0"); refine Ll.goTail (by assumption) ?_)
      rename_i TT hTT pt npt H9 hS9
      have hS10 : Sep (tupA K pt [.str "refused", .str "BadCount"] :: A :: wkA K h ws :: wkA K p ws :: diceA K d :: tabA TB :: R) H9 := hS9.sub (by (exact Ll.Subs.refl))
      have hS11 : Sep (datA K (.ref pt) (dSv ws o) :: A :: wkA K h ws :: wkA K p ws :: diceA K d :: tabA TB :: R) H9 := by
        rw [dSv_no e o0]
        exact (hS10.mkD (v := .ref pt) (d := .tuple [.str "refused", .str "BadCount"]) rfl (.tup (hS10.tup (a := pt) (by exact Ll.Pick.hd)) (.cons (.str _) (.cons (.str _) .nil)))).sub (by ((apply Ll.Subs.sel; exact Ll.Pick.hd); (apply Ll.Subs.sel; exact Ll.Pick.tl Ll.Pick.hd); (apply Ll.Subs.sel; exact Ll.Pick.tl Ll.Pick.hd); (apply Ll.Subs.sel; exact Ll.Pick.tl Ll.Pick.hd); (apply Ll.Subs.sel; exact Ll.Pick.tl Ll.Pick.hd); (apply Ll.Subs.sel; exact Ll.Pick.tl Ll.Pick.hd); apply Ll.Subs.skip; exact Ll.Subs.refl))
      rw [show oVN none = oVN (Sv.badAt 0 0 ws) by rw [e]]
      exact ql D H9 _ _ _ _ _ _ _ _ _ _ d p h ws o u (.ref pt) A R hl hA hS11 fun _ _ _ H' h' => k _ _ _ _ _ _ H' h'
    | some kb =>
      obtain rfl := hA kb e
      (refine Ll.goTail (by assumption) ?_; (with_reducible refine Ll.seqG fun _ _ => ?_); refine ⟨_, rfl, ?_⟩; refine Ll.tcI ?_; refine ⟨rfl, ?_⟩; refine ⟨_, rfl, ?_⟩; refine ⟨_, rfl, ?_⟩; refine Ll.goTail (by assumption) ?_)
      obtain ⟨im, dp⟩ := hS8.dat (v := u) (by exact Ll.Pick.hd)
      rw [← dSv_bad (c := o) e] at im dp
      rw [show oVN (some kb) = oVN (Sv.badAt 0 0 ws) by rw [e]]
      exact ql D H7 _ _ _ _ _ _ _ _ _ _ d p h ws o u u (datA K u (dBad kb)) R hl hA (hS8.mkD im dp) fun _ _ _ H' h' => k _ _ _ _ _ _ H' h'
end
end Ll

namespace Ll
open PySem PySem.Spec PyProof.Rows L2
section
variable {P : Program} {w : World} {K : PySem.W.Frag} {mg : Str → Option Value} {base : Heap} {cs : Nat → Addr} {le : Addr} {TB : List (Addr × Str)}
variable {f : Addr} {c Pt : Addr} {A0 : Around} {outer : List Env} {s : Shared} {H0 : Hp} {E0 : XK}
/-- handed in; what is due -/
theorem t4 (hr : Room 9 (A0.deeper (envOfC "law" (defScope sscLw) s.heap.objs.size f (.ref c)))) (T : TxL K mg) (TE : TxQ K mg cs le) {g : Addr} {fdT : FuncData} (Ft : FunD K "_law_told" "_law_told" (defArgs soTold) (defBody soTold) (defScope soTold) [] [] g fdT) (hgm : mg "_law_told" = some (.ref g)) (hbT : Binds K fdT ["_law_work"] [])
    (tb : LamX.TabB base mg c Pt) (hmT : (Pt, qLaw) ∈ TB) (hu : ∀ p ∈ TB, p.1 = Pt → p.2 = qLaw) (G_served : FnG P w K mg base (L2.CX P w) 4 "served" ["work", "count"] [] (spServedN K (cs 9) (cs 8))) (G_fewest : FnG P w K mg base (L2.CX P w) 4 "fewest" ["work", "longest"] [] (spFewestN K (cs 9)))
    (G__law_like : FnG P w K mg base CX0 5 "_law_like" ["_law_found", "_law_due"] [] (spLike K 4)) (G__law_longest : FnG P w K mg base CX0 1 "_law_longest" ["_law_work", "_law_found"] [] (spLongN K)) (G__law_starts : FnG P w K mg base CX0 1 "_law_starts" ["_law_work", "_law_count"] [] (spStartsL K)) (G__law_next : FnG P w K mg base CX0 1 "_law_next" ["_law_dice_here", "_law_many"] [] (spNext K)) :
    ∃ tt, PSs (XL P w K mg base f (.ref c) A0 outer s H0 E0) ((Ll.bodyOf ((defBody sscLw).getD 1 (.Pass ⟨0, 0, 0, 0⟩))).drop 4) tt ∧ ∀ (D : Ends) (H1 : Hp) (v0 v2 v3 v5 v9 v10 v11 v12 v13 v14 v15 v16 : Option V) (d p : Addr) (ws : List (Int × Int)) (n far : Int) (R : List Asr), ws.length ≤ 1000 → 0 ≤ far → far < 1000000 → 1 ≤ n → n ≤ 8 → Sep (wkA K p ws :: diceA K d :: tabA TB :: R) H1 →
      (∀ (v9 v10 v11 v12 v13 v14 v15 v16 : Option V) H', Sep (diceA K d :: tabA TB :: R) H' → D.nx [v0, some (.ref d), v2, v3, some (.ref p), v5, some (.int n), some (.int far), some (oVN (Sv.badAt 0 0 ws)), v9, v10, v11, v12, v13, v14, v15, v16] H') → tt D [v0, some (.ref d), v2, v3, some (.ref p), v5, some (.int n), some (.int far), some (oVN (Sv.badAt 0 0 ws)), v9, v10, v11, v12, v13, v14, v15, v16] H1 := by
  obtain ⟨tl, hl, ql⟩ := t6 (P := P) (w := w) (K := K) (mg := mg) (base := base) (cs := cs) (TB := TB) (f := f) (c := c) (Pt := Pt) (A0 := A0) (outer := outer) (s := s) (H0 := H0) (E0 := E0) hr T TE Ft hgm hbT tb hmT hu G_served G_fewest G__law_like G__law_longest G__law_starts G__law_next
  refine ⟨_, (pss_cons (ps_set (i := 10) scLw.nd rfl (Or.inr rfl) (pe_callTy call_list_of (by rfl) T.list (by decide +kernel) (pa_cons (pv 4) pa_nil)))
      (pss_cons (ps_set (i := 11) scLw.nd rfl (Or.inl rfl) (pe_ifExp (pt_cmpR (op_notN) (pv 8) pe_non (nomark _)) (pe_tup (pa_cons pe_str (pa_cons pe_str (pa_cons (pv 8) pa_nil)))) (pe_callG G__law_starts (hr.mono (by decide)) rfl pass0 (pa_cons (pv 4) (pa_cons (pv 6) pa_nil)))))
      hl)), ?_⟩
  clear hl
  intro D H1 v0 v2 v3 v5 v9 v10 v11 v12 v13 v14 v15 v16 d p ws n far R hl f0 f1 n1 n8 hS k
  obtain ⟨xs, hxl, hSa⟩ := hS.lstO (a := p) (by exact Ll.Pick.hd)
  clear hS
  have hxl2 : xs.length = ws.length := by rw [hxl, List.length_map]
  ((with_reducible refine Ll.seqG fun _ _ => ?_); refine ⟨_, rfl, ?_⟩; refine Ll.tnilI ?_; refine ⟨_, _, rfl, .inl (by (show _root_.L2.SqL _ _ _ _; exact _root_.L2.SqL.of (by (show (_ : Option _root_.L2.HO) = _; exact Ll.Sep.get (by assumption) (by exact Ll.Pick.hd))))), ?_⟩; (walk_at "ip"; walk_at "st.1"); refine Ll.goTail (by assumption) ?_; (with_reducible refine Ll.seqG fun _ _ => ?_); refine ⟨_, rfl, ?_⟩; refine Ll.tcI ?_; refine ⟨rfl, ?_⟩; refine ⟨_, rfl, ?_⟩)
  rename_i h nph H2 hS2 TT hTT
  have hS3 : Sep (wkA K h ws :: wkA K p ws :: diceA K d :: tabA TB :: R) H2 := by
    have h1 := (Sep.lstC (K := K) (ds := ws.map prD) (hS2.pick (A := obj h (.lst xs)) (by exact Ll.Pick.hd)) (immAll_map imm_prN ws) (hS2.dl (xs := xs) (by exact Ll.Pick.tl (Ll.Pick.tl Ll.Pick.hd))))
    exact (h1.lstB (a := p) (xs := xs) (by exact Ll.Pick.tl Ll.Pick.hd) (by exact Ll.Pick.tl Ll.Pick.hd)).sub (by ((apply Ll.Subs.sel; exact Ll.Pick.tl Ll.Pick.hd); exact Ll.Subs.refl))
  clear hS2 hSa
  cases e : Sv.badAt 0 0 ws with
  | none =>
    (refine ⟨_, rfl, ?_⟩; refine ⟨_, rfl, ?_⟩; refine Ll.tnilI ?_)
    refine ⟨p, ws, n.toNat, wkA K h ws :: diceA K d :: tabA TB :: R, by rw [show ((n.toNat : Nat) : Int) = n by omega]; rfl, hS3.sub (by ((apply Ll.Subs.sel; exact Ll.Pick.tl Ll.Pick.hd); exact Ll.Subs.refl)), by omega, by omega, hl, Sv.bad_none.mp e, fun pd H3 hS4 => ?_⟩
    clear hS3
    (refine Ll.goTail (by assumption) ?_)
    rw [show oVN none = oVN (Sv.badAt 0 0 ws) by rw [e]]
    refine ql D H3 _ _ _ _ _ _ _ _ _ _ d p h ws n far (.ref pd) (intA pd (Sv.starts n.toNat ws)) R hl f0 f1 (fun k z => by rw [e] at z; exact nomatch z) (fun {cs H} q => ?_) (hS4.sub (by ((apply Ll.Subs.sel; exact Ll.Pick.hd); (apply Ll.Subs.sel; exact Ll.Pick.tl Ll.Pick.hd); exact Ll.Subs.refl))) fun _ _ _ _ _ _ H' h' => k _ _ _ _ _ _ _ _ H' (h'.sub (by ((apply Ll.Subs.sel; exact Ll.Pick.tl (Ll.Pick.tl Ll.Pick.hd)); (apply Ll.Subs.sel; exact Ll.Pick.tl (Ll.Pick.tl Ll.Pick.hd)); apply Ll.Subs.skip; apply Ll.Subs.skip; exact Ll.Subs.refl)))
    rw [dSv_ok e ⟨n1, n8⟩]
    exact .lst (by (show _root_.L2.SqL _ _ _ _; exact _root_.L2.SqL.of (by (show (_ : Option _root_.L2.HO) = _; exact Ll.Sep.get (by assumption) (by exact Ll.Pick.hd))))) (dpAll_ints _)
  | some kb =>
    (refine ⟨_, rfl, ?_⟩; refine Ll.tnilI ?_; (refine ⟨(by (show _ ≤ PySem.sizeLine); (show (_ : Prop); exact Nat.lt_of_le_of_lt (m := 16000000) (by ((simp only [List.length_map, List.length_append, List.length_replicate, List.length_cons, List.length_nil, List.length_singleton, List.length_set, List.length_range, List.length_take, List.length_drop, List.length_dropLast]; omega))) (by decide))), ?_⟩); (walk_at "ip"; walk_at "st.0"); refine Ll.goTail (by assumption) ?_)
    rename_i pt npt H3 hS4
    have hS5 : Sep (tupA K pt [.str "refused", .str "BadWork", .int (kb : Int)] :: wkA K h ws :: wkA K p ws :: diceA K d :: tabA TB :: R) H3 := hS4.sub (by (exact Ll.Subs.refl))
    have hS6 : Sep (datA K (.ref pt) (dBad kb) :: wkA K h ws :: wkA K p ws :: diceA K d :: tabA TB :: R) H3 := (hS5.mkD (v := .ref pt) (d := dBad kb) rfl (.tup (hS5.tup (a := pt) (by exact Ll.Pick.hd)) (.cons (.str _) (.cons (.str _) (.cons (.int _) .nil))))).sub (by ((apply Ll.Subs.sel; exact Ll.Pick.hd); (apply Ll.Subs.sel; exact Ll.Pick.tl Ll.Pick.hd); (apply Ll.Subs.sel; exact Ll.Pick.tl Ll.Pick.hd); (apply Ll.Subs.sel; exact Ll.Pick.tl Ll.Pick.hd); (apply Ll.Subs.sel; exact Ll.Pick.tl Ll.Pick.hd); apply Ll.Subs.skip; exact Ll.Subs.refl))
    rw [show oVN (some kb) = oVN (Sv.badAt 0 0 ws) by rw [e]]
    refine ql D H3 _ _ _ _ _ _ _ _ _ _ d p h ws n far (.ref pt) (datA K (.ref pt) (dBad kb)) R hl f0 f1 (fun k z => by rw [e] at z; rw [Option.some.inj z]) (fun {cs H} q => ?_) hS6 fun _ _ _ _ _ _ H' h' => k _ _ _ _ _ _ _ _ H' (h'.sub (by ((apply Ll.Subs.sel; exact Ll.Pick.tl (Ll.Pick.tl Ll.Pick.hd)); (apply Ll.Subs.sel; exact Ll.Pick.tl (Ll.Pick.tl Ll.Pick.hd)); apply Ll.Subs.skip; apply Ll.Subs.skip; exact Ll.Subs.refl)))
    rw [dSv_bad e]
    exact (q.dat (v := .ref pt) .hd).2
end
end Ll

namespace Sv
theorem good_add : ∀ {w : List (Int × Int)} {l m h : Int}, GoodFrom l w → (∀ p ∈ w, p.1 ≤ m) → l ≤ m → m ≤ 9999 → 0 ≤ h → h ≤ 99 → GoodFrom l (w ++ [(m, h)])
  | [], l, m, h, _, _, h1, h2, h3, h4 => ⟨h1, h2, h3, h4, trivial⟩
  | p :: r, l, m, h, g, hp, h1, h2, h3, h4 => ⟨g.1, g.2.1, g.2.2.1, g.2.2.2.1, good_add g.2.2.2.2 (fun q hq => hp q (List.mem_cons_of_mem _ hq)) (hp p (List.mem_cons_self ..)) h2 h3 h4⟩
theorem bad_set : ∀ {w : List (Int × Int)} {l : Int} {k b : Nat} {q : Int × Int}, 0 ≤ l → GoodFrom l w → b < w.length → ¬ (0 ≤ q.1 ∧ q.1 ≤ 9999 ∧ 0 ≤ q.2 ∧ q.2 ≤ 99) → badAt l k (w.set b q) = some (k + b)
  | [], _, _, _, _, _, _, h, _ => nomatch h
  | p :: r, l, k, 0, q, h0, _, _, hq => by
    show (if l ≤ q.1 ∧ q.1 ≤ 9999 ∧ 0 ≤ q.2 ∧ q.2 ≤ 99 then badAt q.1 (k + 1) r else some k) = some k
    rw [if_neg fun z => hq ⟨by omega, z.2.1, z.2.2.1, z.2.2.2⟩]
  | p :: r, l, k, b + 1, q, h0, g, hb, hq => by
    show (if l ≤ p.1 ∧ p.1 ≤ 9999 ∧ 0 ≤ p.2 ∧ p.2 ≤ 99 then badAt p.1 (k + 1) (r.set b q) else some k) = some (k + (b + 1))
    rw [if_pos ⟨g.1, g.2.1, g.2.2.1, g.2.2.2.1⟩, bad_set (by have := g.1; omega) g.2.2.2.2 (Nat.lt_of_succ_lt_succ hb) hq]
    congr 1
    omega
end Sv
namespace Ll
open PySem PySem.Spec PyProof.Rows L2
section
variable {P : Program} {w : World} {K : PySem.W.Frag} {mg : Str → Option Value} {base : Heap} {cs : Nat → Addr} {le : Addr} {TB : List (Addr × Str)}
variable {f : Addr} {c Pt : Addr} {A0 : Around} {outer : List Env} {s : Shared} {H0 : Hp} {E0 : XK}
theorem dpAll_set {K : PySem.W.Frag} {H : Hp} : ∀ {vs : List V} {ds : List PyData} {i : Nat} {v : V} {d : PyData}, DpAll K H vs ds → Dp K H v d → DpAll K H (vs.set i v) (ds.set i d)
  | _, _, _, _, _, .nil, _ => .nil
  | _, _, 0, _, _, .cons _ q, h => .cons h q
  | _, _, i + 1, _, _, .cons p q, h => .cons p (dpAll_set (i := i) q h)
/-- a work that can't be, put in -/
theorem t3 (hr : Room 9 (A0.deeper (envOfC "law" (defScope sscLw) s.heap.objs.size f (.ref c)))) (T : TxL K mg) (TE : TxQ K mg cs le) {g : Addr} {fdT : FuncData} (Ft : FunD K "_law_told" "_law_told" (defArgs soTold) (defBody soTold) (defScope soTold) [] [] g fdT) (hgm : mg "_law_told" = some (.ref g)) (hbT : Binds K fdT ["_law_work"] [])
    (tb : LamX.TabB base mg c Pt) (hmT : (Pt, qLaw) ∈ TB) (hu : ∀ p ∈ TB, p.1 = Pt → p.2 = qLaw) (G_served : FnG P w K mg base (L2.CX P w) 4 "served" ["work", "count"] [] (spServedN K (cs 9) (cs 8))) (G_fewest : FnG P w K mg base (L2.CX P w) 4 "fewest" ["work", "longest"] [] (spFewestN K (cs 9)))
    (G__law_like : FnG P w K mg base CX0 5 "_law_like" ["_law_found", "_law_due"] [] (spLike K 4)) (G__law_longest : FnG P w K mg base CX0 1 "_law_longest" ["_law_work", "_law_found"] [] (spLongN K)) (G__law_starts : FnG P w K mg base CX0 1 "_law_starts" ["_law_work", "_law_count"] [] (spStartsL K)) (G__law_next : FnG P w K mg base CX0 1 "_law_next" ["_law_dice_here", "_law_many"] [] (spNext K)) :
    ∃ tt, PSs (XL P w K mg base f (.ref c) A0 outer s H0 E0) ((Ll.bodyOf ((defBody sscLw).getD 1 (.Pass ⟨0, 0, 0, 0⟩))).drop 3) tt ∧ ∀ (D : Ends) (H1 : Hp) (v0 v2 v3 v5 v9 v10 v11 v12 v13 v14 v15 v16 : Option V) (d p : Addr) (ws : List (Int × Int)) (n far : Int) (R : List Asr), ws.length ≤ 1000 → Sv.Good ws → 0 ≤ far → far < 1000000 → 1 ≤ n → n ≤ 8 → Sep (wkA K p ws :: diceA K d :: tabA TB :: R) H1 →
      (∀ (v4 v8 v9 v10 v11 v12 v13 v14 v15 v16 : Option V) H', Sep (diceA K d :: tabA TB :: R) H' → D.nx [v0, some (.ref d), v2, v3, v4, v5, some (.int n), some (.int far), v8, v9, v10, v11, v12, v13, v14, v15, v16] H') → tt D [v0, some (.ref d), v2, v3, some (.ref p), v5, some (.int n), some (.int far), some .non, v9, v10, v11, v12, v13, v14, v15, v16] H1 := by
  obtain ⟨tl, hl, ql⟩ := t4 (P := P) (w := w) (K := K) (mg := mg) (base := base) (cs := cs) (TB := TB) (f := f) (c := c) (Pt := Pt) (A0 := A0) (outer := outer) (s := s) (H0 := H0) (E0 := E0) hr T TE Ft hgm hbT tb hmT hu G_served G_fewest G__law_like G__law_longest G__law_starts G__law_next
  refine ⟨_, (pss_cons (ps_if (PW.pt (pw_and (pt_cmpR (op_eq) (pe_callG G__law_next (hr.mono (by decide)) rfl pass0 (pa_cons (pv 1) (pa_cons pe_int pa_nil))) pe_int (nomark _)) (pw_and1 (pt_cmpR (op_neD hr.units) (pv 4) (pe_lst pa_nil) (nomark _))))) (pss_cons (ps_set (i := 8) scLw.nd rfl (Or.inl rfl) (pe_callG G__law_next (hr.mono (by decide)) rfl pass0 (pa_cons (pv 1) (pa_cons (pe_callB call_len_seq (by rfl) T.len PySem.boot_len (pa_cons (pv 4) pa_nil)) pa_nil))))
      (pss_cons (ps_set (i := 9) scLw.nd rfl (Or.inr rfl) (pe_lst (pa_cons (pe_tup (pa_cons (pe_ix ix_tup (pe_ix ix_list (pv 4) (pv 8) (fun _ _ => rfl)) pe_int (fun _ _ => rfl)) (pa_cons (pe_op op_add pe_int (pv 7)) pa_nil))) (pa_cons (pe_tup (pa_cons (pe_ix ix_tup (pe_ix ix_list (pv 4) (pv 8) (fun _ _ => rfl)) pe_int (fun _ _ => rfl)) (pa_cons (pe_op op_sub (pe_un un_neg pe_int) (pv 7)) pa_nil))) (pa_cons (pe_tup (pa_cons (pe_op op_sub (pe_un un_neg pe_int) (pv 7)) (pa_cons pe_int pa_nil))) (pa_cons (pe_tup (pa_cons (pe_op op_add pe_int (pv 7)) (pa_cons pe_int pa_nil))) pa_nil))))))
      (pss_one (ps_asg (pe_ix ix_list (pv 9) (pe_callG G__law_next (hr.mono (by decide)) rfl pass0 (pa_cons (pv 1) (pa_cons pe_int pa_nil))) (fun _ _ => rfl)) (pg_sub (pv 4) (pv 8) set_list))))) pss_nil)
      hl), ?_⟩
  clear hl
  intro D H1 v0 v2 v3 v5 v9 v10 v11 v12 v13 v14 v15 v16 d p ws n far R hl hg f0 f1 n1 n8 hS k
  have no : ∀ H', Sep (wkA K p ws :: diceA K d :: tabA TB :: R) H' → tl D [v0, some (.ref d), v2, v3, some (.ref p), v5, some (.int n), some (.int far), some .non, v9, v10, v11, v12, v13, v14, v15, v16] H' := fun H' h => by
    have e : Sv.badAt 0 0 ws = none := Sv.bad_none.mpr hg
    have q := ql D H' v0 v2 v3 v5 v9 v10 v11 v12 v13 v14 v15 v16 d p ws n far R hl f0 f1 n1 n8 h
    rw [e] at q
    exact q fun _ _ _ _ _ _ _ _ H2 h2 => k _ _ _ _ _ _ _ _ _ _ H2 h2
  ((with_reducible refine Ll.seqG fun _ _ => ?_); refine ⟨_, rfl, ?_⟩; refine Ll.tconsI ?_; refine Ll.tcI ?_; refine Ll.tnilI ?_; refine ⟨_, _, rfl, ?_⟩)
  refine goNext hS (by exact Ll.Pick.tl Ll.Pick.hd) (by omega) (by omega) fun x H2 x0 x1 hS2 => ?_
  clear hS
  (refine Ll.tcI ?_; refine ⟨rfl, ?_⟩; refine ⟨_, rfl, ?_⟩)
  refine iteD (fun hx => ?_) (fun hx => ?_)
  · (refine ⟨_, rfl, ?_⟩; refine Ll.tnilI ?_; (refine ⟨(by (show _ ≤ PySem.sizeLine); (show (_ : Prop); decide)), ?_⟩); (walk_at "ip"; walk_at "st.1"))
    rename_i TT hTT pz npz H3 hS3
    clear hS2
    refine goNeP (l := ws) (hS3.lstDp (a := p) (by exact Ll.Pick.tl (Ll.Pick.tl Ll.Pick.hd))) (by (show _root_.L2.SqL _ _ _ _; exact _root_.L2.SqL.of (by (show (_ : Option _root_.L2.HO) = _; exact Ll.Sep.get (by assumption) (by exact Ll.Pick.hd))))) ?_
    refine ⟨_, rfl, iteN (fun h => ?_) (fun h => ?_)⟩
    · have hwl : 0 < ws.length := List.length_pos_iff.mpr h
      have hS4 : Sep (wkA K p ws :: diceA K d :: tabA TB :: R) H3 := hS3.sub (by ((apply Ll.Subs.sel; exact Ll.Pick.tl (Ll.Pick.tl Ll.Pick.hd)); (apply Ll.Subs.sel; exact Ll.Pick.tl Ll.Pick.hd); (apply Ll.Subs.sel; exact Ll.Pick.tl Ll.Pick.hd); apply Ll.Subs.skip; exact Ll.Subs.refl))
      clear hS3
      obtain ⟨xs, hxl, hSo⟩ := hS4.lstO (a := p) (by exact Ll.Pick.hd)
      clear hS4
      have hxl2 : xs.length = ws.length := by rw [hxl, List.length_map]
      ((with_reducible refine Ll.seqG fun _ _ => ?_); refine ⟨_, rfl, ?_⟩; refine ⟨_, rfl, ?_⟩; refine Ll.tnilI ?_; refine ⟨_, _, rfl, .inl (by (show _root_.L2.SqL _ _ _ _; exact _root_.L2.SqL.of (by (show (_ : Option _root_.L2.HO) = _; exact Ll.Sep.get (by assumption) (by exact Ll.Pick.hd))))), ?_⟩; refine Ll.tnilI ?_; refine ⟨_, _, rfl, ?_⟩)
      refine goNext hSo (by exact Ll.Pick.tl (Ll.Pick.tl Ll.Pick.hd)) (by omega) (by omega) fun bI H4 b0 b1 hS5 => ?_
      clear hSo
      obtain ⟨b, rfl⟩ : ∃ b : Nat, bI = (b : Int) := ⟨bI.toNat, by omega⟩
      have hbl : b < ws.length := by omega
      have hx : xs[b]? = some (xs[b]'(by omega)) := List.getElem?_eq_getElem _
      obtain ⟨dd, hdd, hdp⟩ := dpAll_get (hS5.dl (xs := xs) (by exact Ll.Pick.tl (Ll.Pick.tl Ll.Pick.hd))) hx
      obtain ⟨⟨m, h0⟩, hw, rfl⟩ := map_get hdd
      obtain ⟨t, htx, ht⟩ := dp_pr hdp
      rw [htx] at hx
      have hat : atI xs (b : Int) = some (.ref t) := atI_nat (j := b) hx
      have hS6 := hS5.mkT ht
      clear hdp ht hS5
      (refine Ll.goTail (by assumption) ?_; (with_reducible refine Ll.seqG fun _ _ => ?_); refine ⟨_, rfl, ?_⟩; refine ⟨_, rfl, ?_⟩; refine ⟨_, _, _, _, rfl, rfl, (by (show _root_.L2.SqL _ _ _ _; exact _root_.L2.SqL.of (by (show (_ : Option _root_.L2.HO) = _; exact Ll.Sep.get (by assumption) (by exact Ll.Pick.tl (Ll.Pick.tl Ll.Pick.hd)))))), (by (show (_ : Option _root_.L2.V) = _; assumption)), ?_⟩; refine Ll.tcI ?_; refine ⟨_, _, _, _, rfl, rfl, (by (show _root_.L2.SqT _ _ _ _; exact Ll.Sep.tup (by assumption) (by exact Ll.Pick.hd))), (by (show (_ : Option _root_.L2.V) = _; rfl)), ?_⟩; refine ⟨_, rfl, ?_⟩; refine ⟨_, _, rfl, rfl, ?_⟩; refine Ll.tnilI ?_; (refine ⟨(by (show _ ≤ PySem.sizeLine); (show (_ : Prop); exact Nat.lt_of_le_of_lt (m := 16000000) (by ((simp only [List.length_map, List.length_append, List.length_replicate, List.length_cons, List.length_nil, List.length_singleton, List.length_set, List.length_range, List.length_take, List.length_drop, List.length_dropLast]; omega))) (by decide))), ?_⟩); (walk_at "ip"; walk_at "st.0"); refine ⟨_, rfl, ?_⟩; refine ⟨_, rfl, ?_⟩; refine ⟨_, _, _, _, rfl, rfl, (by (show _root_.L2.SqL _ _ _ _; exact _root_.L2.SqL.of (by (show (_ : Option _root_.L2.HO) = _; exact Ll.Sep.get (by assumption) (by exact Ll.Pick.tl (Ll.Pick.tl (Ll.Pick.tl Ll.Pick.hd))))))), (by (show (_ : Option _root_.L2.V) = _; assumption)), ?_⟩; refine Ll.tcI ?_; refine ⟨_, _, _, _, rfl, rfl, (by (show _root_.L2.SqT _ _ _ _; exact Ll.Sep.tup (by assumption) (by exact Ll.Pick.tl Ll.Pick.hd))), (by (show (_ : Option _root_.L2.V) = _; rfl)), ?_⟩; refine ⟨_, rfl, ?_⟩; refine ⟨_, rfl, ?_⟩; refine ⟨_, _, rfl, rfl, ?_⟩; refine Ll.tnilI ?_; (refine ⟨(by (show _ ≤ PySem.sizeLine); (show (_ : Prop); exact Nat.lt_of_le_of_lt (m := 16000000) (by ((simp only [List.length_map, List.length_append, List.length_replicate, List.length_cons, List.length_nil, List.length_singleton, List.length_set, List.length_range, List.length_take, List.length_drop, List.length_dropLast]; omega))) (by decide))), ?_⟩); (walk_at "ip"; walk_at "st.0"); refine ⟨_, rfl, ?_⟩; refine ⟨_, rfl, ?_⟩; refine ⟨_, _, rfl, rfl, ?_⟩; refine Ll.tconsI ?_; refine Ll.tcI ?_; refine Ll.tnilI ?_; (refine ⟨(by (show _ ≤ PySem.sizeLine); (show (_ : Prop); exact Nat.lt_of_le_of_lt (m := 16000000) (by ((simp only [List.length_map, List.length_append, List.length_replicate, List.length_cons, List.length_nil, List.length_singleton, List.length_set, List.length_range, List.length_take, List.length_drop, List.length_dropLast]; omega))) (by decide))), ?_⟩); (walk_at "ip"; walk_at "st.0"); refine ⟨_, rfl, ?_⟩; refine ⟨_, _, rfl, rfl, ?_⟩; refine Ll.tconsI ?_; refine Ll.tcI ?_; refine Ll.tnilI ?_; (refine ⟨(by (show _ ≤ PySem.sizeLine); (show (_ : Prop); exact Nat.lt_of_le_of_lt (m := 16000000) (by ((simp only [List.length_map, List.length_append, List.length_replicate, List.length_cons, List.length_nil, List.length_singleton, List.length_set, List.length_range, List.length_take, List.length_drop, List.length_dropLast]; omega))) (by decide))), ?_⟩); (walk_at "ip"; walk_at "st.0"); refine Ll.tnilI ?_; (refine ⟨(by (show _ ≤ PySem.sizeLine); (show (_ : Prop); exact Nat.lt_of_le_of_lt (m := 16000000) (by ((simp only [List.length_map, List.length_append, List.length_replicate, List.length_cons, List.length_nil, List.length_singleton, List.length_set, List.length_range, List.length_take, List.length_drop, List.length_dropLast]; omega))) (by decide))), ?_⟩); (walk_at "ip"; walk_at "st.1"); refine Ll.goTail (by assumption) ?_; refine ⟨_, rfl, ?_⟩; refine ⟨_, rfl, ?_⟩; refine Ll.tconsI ?_; refine Ll.tcI ?_; refine Ll.tnilI ?_; refine ⟨_, _, rfl, ?_⟩)
      rename_i a1 na1 I1 hI1 a2 na2 I2 hI2 a3 na3 I3 hI3 a4 na4 I4 hI4 ao nao I5 hI5
      clear hI1 hI2 hI3 hI4 hS6
      refine goNext hI5 (by exact Ll.Pick.tl (Ll.Pick.tl (Ll.Pick.tl (Ll.Pick.tl (Ll.Pick.tl (Ll.Pick.tl Ll.Pick.hd)))))) (by omega) (by omega) fun y H6 y0 y1 hS7 => ?_
      clear hI5
      obtain ⟨q, tq, hix, hq, hqb⟩ : ∃ (q : Int × Int) (tq : Addr), atI [V.ref a1, V.ref a2, V.ref a3, V.ref a4] y = some (.ref tq) ∧ SqT K H6 tq [.int q.1, .int q.2] ∧ ¬ (0 ≤ q.1 ∧ q.1 ≤ 9999 ∧ 0 ≤ q.2 ∧ q.2 ≤ 99) := by
        rcases (by omega : y = 0 ∨ y = 1 ∨ y = 2 ∨ y = 3) with rfl | rfl | rfl | rfl
        · exact ⟨(m, 100 + far), a1, rfl, hS7.tup (a := a1) (by exact Ll.Pick.tl (Ll.Pick.tl (Ll.Pick.tl (Ll.Pick.tl (Ll.Pick.tl Ll.Pick.hd))))), fun z => by have h4 : 100 + far ≤ 99 := z.2.2.2; omega⟩
        · exact ⟨(m, -1 - far), a2, rfl, hS7.tup (a := a2) (by exact Ll.Pick.tl (Ll.Pick.tl (Ll.Pick.tl (Ll.Pick.tl Ll.Pick.hd)))), fun z => by have h4 : 0 ≤ -1 - far := z.2.2.1; omega⟩
        · exact ⟨(-1 - far, 5), a3, rfl, hS7.tup (a := a3) (by exact Ll.Pick.tl (Ll.Pick.tl (Ll.Pick.tl Ll.Pick.hd))), fun z => by have h4 : 0 ≤ -1 - far := z.1; omega⟩
        · exact ⟨(10000 + far, 5), a4, rfl, hS7.tup (a := a4) (by exact Ll.Pick.tl (Ll.Pick.tl Ll.Pick.hd)), fun z => by have h4 : 10000 + far ≤ 9999 := z.2.1; omega⟩
      refine ⟨_, _, _, _, rfl, rfl, (by (show _root_.L2.SqL _ _ _ _; exact _root_.L2.SqL.of (by (show (_ : Option _root_.L2.HO) = _; exact Ll.Sep.get (by assumption) (by exact Ll.Pick.tl Ll.Pick.hd))))), hix, ?_⟩
      have hS8 : Sep (obj p (.lst xs) :: tupA K tq [.int q.1, .int q.2] :: dlA K xs (ws.map prD) :: diceA K d :: tabA TB :: R) H6 := (hS7.mkT hq).sub (by ((apply Ll.Subs.sel; exact Ll.Pick.tl (Ll.Pick.tl (Ll.Pick.tl (Ll.Pick.tl (Ll.Pick.tl (Ll.Pick.tl (Ll.Pick.tl (Ll.Pick.tl Ll.Pick.hd)))))))); (apply Ll.Subs.sel; exact Ll.Pick.hd); (apply Ll.Subs.sel; exact Ll.Pick.tl (Ll.Pick.tl (Ll.Pick.tl (Ll.Pick.tl (Ll.Pick.tl (Ll.Pick.tl (Ll.Pick.tl Ll.Pick.hd))))))); (apply Ll.Subs.sel; exact Ll.Pick.hd); (apply Ll.Subs.sel; exact Ll.Pick.tl (Ll.Pick.tl (Ll.Pick.tl (Ll.Pick.tl (Ll.Pick.tl (Ll.Pick.tl Ll.Pick.hd)))))); apply Ll.Subs.skip; apply Ll.Subs.skip; apply Ll.Subs.skip; apply Ll.Subs.skip; apply Ll.Subs.skip; apply Ll.Subs.skip; exact Ll.Subs.refl))
      clear hS7
      have e := Sv.bad_set (k := 0) (Int.le_refl 0) hg hbl hqb
      rw [Nat.zero_add] at e
      have hda : DpAll K H6 (xs.set b (.ref tq)) ((ws.set b q).map prD) := by
        rw [List.map_set]
        exact dpAll_set (hS8.dl (xs := xs) (by exact Ll.Pick.tl (Ll.Pick.tl Ll.Pick.hd))) (.tup hq (.cons (.int _) (.cons (.int _) .nil)))
      have hp : H6 p = some (.lst xs) := by (show (_ : Option _root_.L2.HO) = _; exact Ll.Sep.get (by assumption) (by exact Ll.Pick.hd))
      have hS9 : Sep (wkA K p ws :: tupA K tq [.int q.1, .int q.2] :: diceA K d :: tabA TB :: R) H6 := (hS8.lstB (a := p) (xs := xs) (by exact Ll.Pick.hd) (by exact Ll.Pick.tl Ll.Pick.hd)).sub (by (exact Ll.Subs.refl))
      have hS10 := hS9.lstPut (ds' := (ws.set b q).map prD) (a := p) (by exact Ll.Swp.hd) (immAll_map imm_prN _) hda
      clear hS8 hS9
      (refine ⟨_, rfl, ?_⟩; refine ⟨_, rfl, ?_⟩)
      refine ⟨p, _, _, _, rfl, rfl, hp, ixN_nat (j := b) (by omega), ?_⟩
      refine goTail (by assumption) ?_
      have hlt : (ws.set b q).length ≤ 1000 := by rw [List.length_set]; exact hl
      have qq := ql D _ v0 v2 v3 v5 (some (.ref ao)) v10 v11 v12 v13 v14 v15 v16 d p (ws.set b q) n far (tupA K tq [.int q.1, .int q.2] :: R) hlt f0 f1 n1 n8 (hS10.sub (by ((apply Ll.Subs.sel; exact Ll.Pick.hd); (apply Ll.Subs.sel; exact Ll.Pick.tl Ll.Pick.hd); (apply Ll.Subs.sel; exact Ll.Pick.tl Ll.Pick.hd); exact Ll.Subs.refl)))
      rw [e] at qq
      exact qq fun _ _ _ _ _ _ _ _ H2 h2 => k _ _ _ _ _ _ _ _ _ _ H2 (h2.sub (by ((apply Ll.Subs.sel; exact Ll.Pick.hd); (apply Ll.Subs.sel; exact Ll.Pick.hd); apply Ll.Subs.skip; exact Ll.Subs.refl)))
    · have hS4 : Sep (wkA K p ws :: diceA K d :: tabA TB :: R) H3 := hS3.sub (by ((apply Ll.Subs.sel; exact Ll.Pick.tl (Ll.Pick.tl Ll.Pick.hd)); (apply Ll.Subs.sel; exact Ll.Pick.tl Ll.Pick.hd); (apply Ll.Subs.sel; exact Ll.Pick.tl Ll.Pick.hd); apply Ll.Subs.skip; exact Ll.Subs.refl))
      refine goTail (by assumption) ?_
      exact no _ hS4
  · (refine _root_.L2.iteF ?_; refine Ll.goTail (by assumption) ?_)
    exact no _ (hS2.sub (by ((apply Ll.Subs.sel; exact Ll.Pick.tl Ll.Pick.hd); exact Ll.Subs.refl)))
end
end Ll

namespace Ll
open PySem PySem.Spec PyProof.Rows L2
section
variable {P : Program} {w : World} {K : PySem.W.Frag} {mg : Str → Option Value} {base : Heap} {cs : Nat → Addr} {le : Addr} {TB : List (Addr × Str)}
variable {f : Addr} {c Pt : Addr} {A0 : Around} {outer : List Env} {s : Shared} {H0 : Hp} {E0 : XK}
/-- a turn -/
theorem t0 (hr : Room 9 (A0.deeper (envOfC "law" (defScope sscLw) s.heap.objs.size f (.ref c)))) (T : TxL K mg) (TE : TxQ K mg cs le) {g : Addr} {fdT : FuncData} (Ft : FunD K "_law_told" "_law_told" (defArgs soTold) (defBody soTold) (defScope soTold) [] [] g fdT) (hgm : mg "_law_told" = some (.ref g)) (hbT : Binds K fdT ["_law_work"] [])
    (tb : LamX.TabB base mg c Pt) (hmT : (Pt, qLaw) ∈ TB) (hu : ∀ p ∈ TB, p.1 = Pt → p.2 = qLaw) (G_served : FnG P w K mg base (L2.CX P w) 4 "served" ["work", "count"] [] (spServedN K (cs 9) (cs 8))) (G_fewest : FnG P w K mg base (L2.CX P w) 4 "fewest" ["work", "longest"] [] (spFewestN K (cs 9)))
    (G__law_like : FnG P w K mg base CX0 5 "_law_like" ["_law_found", "_law_due"] [] (spLike K 4)) (G__law_longest : FnG P w K mg base CX0 1 "_law_longest" ["_law_work", "_law_found"] [] (spLongN K)) (G__law_starts : FnG P w K mg base CX0 1 "_law_starts" ["_law_work", "_law_count"] [] (spStartsL K)) (G__law_next : FnG P w K mg base CX0 1 "_law_next" ["_law_dice_here", "_law_many"] [] (spNext K)) :
    ∃ tt, PSs (XL P w K mg base f (.ref c) A0 outer s H0 E0) (Ll.bodyOf ((defBody sscLw).getD 1 (.Pass ⟨0, 0, 0, 0⟩))) tt ∧ ∀ (D : Ends) (H1 : Hp) (v0 v2 v3 v4 v5 v6 v7 v8 v9 v10 v11 v12 v13 v14 v15 v16 : Option V) (d : Addr), Sep [diceA K d, tabA TB] H1 →
      (∀ (v3 v4 v5 v6 v7 v8 v9 v10 v11 v12 v13 v14 v15 v16 : Option V) H', Sep [diceA K d, tabA TB] H' → D.nx [v0, some (.ref d), v2, v3, v4, v5, v6, v7, v8, v9, v10, v11, v12, v13, v14, v15, v16] H') → tt D [v0, some (.ref d), v2, v3, v4, v5, v6, v7, v8, v9, v10, v11, v12, v13, v14, v15, v16] H1 := by
  obtain ⟨tl, hl, ql⟩ := t3 (P := P) (w := w) (K := K) (mg := mg) (base := base) (cs := cs) (TB := TB) (f := f) (c := c) (Pt := Pt) (A0 := A0) (outer := outer) (s := s) (H0 := H0) (E0 := E0) hr T TE Ft hgm hbT tb hmT hu G_served G_fewest G__law_like G__law_longest G__law_starts G__law_next
  refine ⟨_, (pss_cons (ps_asg (pe_tup (pa_cons pe_int (pa_cons (pe_lst pa_nil) pa_nil))) (pg_tup rfl (pgs_cons (pg_name (i := 3) scLw.nd rfl (.inl rfl)) (pgs_cons (pg_name (i := 4) scLw.nd rfl (.inr rfl)) pgs_nil))))
      (pss_cons (ps_for PassesOwn.never rfl (pi_range1 (by rfl) T.range (pa_cons (pe_callG G__law_next (hr.mono (by decide)) rfl pass0 (pa_cons (pv 1) (pa_cons pe_int pa_nil))) pa_nil)) (pg_name (i := 5) scLw.nd rfl (.inl rfl)) (pss_cons (ps_set (i := 3) scLw.nd rfl (Or.inl rfl) (pe_op op_add (pv 3) (pe_ix ix_list (pe_lst (pa_cons pe_int (pa_cons (pe_callG G__law_next (hr.mono (by decide)) rfl pass0 (pa_cons (pv 1) (pa_cons pe_int pa_nil))) (pa_cons (pe_callG G__law_next (hr.mono (by decide)) rfl pass0 (pa_cons (pv 1) (pa_cons pe_int pa_nil))) pa_nil)))) (pe_callG G__law_next (hr.mono (by decide)) rfl pass0 (pa_cons (pv 1) (pa_cons pe_int pa_nil))) (fun _ _ => rfl))))
      (pss_one (ps_expr (pe_bm PySem.F.plainAttrs_list PySem.F.slot_list_append PySem.F.type_list_append mt_append (pv 4) (pa_cons (pe_tup (pa_cons (pv 3) (pa_cons (pe_ix ix_list (pe_lst (pa_cons pe_int (pa_cons (pe_callG G__law_next (hr.mono (by decide)) rfl pass0 (pa_cons (pv 1) (pa_cons pe_int pa_nil))) (pa_cons (pe_callG G__law_next (hr.mono (by decide)) rfl pass0 (pa_cons (pv 1) (pa_cons pe_int pa_nil))) pa_nil)))) (pe_callG G__law_next (hr.mono (by decide)) rfl pass0 (pa_cons (pv 1) (pa_cons pe_int pa_nil))) (fun _ _ => rfl)) pa_nil))) pa_nil))))))
      (pss_cons (ps_asg (pe_tup (pa_cons (pe_op op_add pe_int (pe_callG G__law_next (hr.mono (by decide)) rfl pass0 (pa_cons (pv 1) (pa_cons pe_int pa_nil)))) (pa_cons (pe_ix ix_list (pe_lst (pa_cons pe_int (pa_cons (pe_callG G__law_next (hr.mono (by decide)) rfl pass0 (pa_cons (pv 1) (pa_cons (pe_op op_pow pe_int pe_int) pa_nil))) pa_nil))) (pe_callG G__law_next (hr.mono (by decide)) rfl pass0 (pa_cons (pv 1) (pa_cons pe_int pa_nil))) (fun _ _ => rfl)) (pa_cons pe_non pa_nil)))) (pg_tup rfl (pgs_cons (pg_name (i := 6) scLw.nd rfl (.inr rfl)) (pgs_cons (pg_name (i := 7) scLw.nd rfl (.inl rfl)) (pgs_cons (pg_name (i := 8) scLw.nd rfl (.inl rfl)) pgs_nil)))))
      hl))), ?_⟩
  clear hl
  intro D H1 v0 v2 v3 v4 v5 v6 v7 v8 v9 v10 v11 v12 v13 v14 v15 v16 d hS k
  ((with_reducible refine Ll.seqG fun _ _ => ?_); (refine ⟨(by (show _ ≤ PySem.sizeLine); (show (_ : Prop); decide)), ?_⟩); (walk_at "ip"; walk_at "st.1"); refine Ll.tnilI ?_; (refine ⟨(by (show _ ≤ PySem.sizeLine); (show (_ : Prop); exact Nat.lt_of_le_of_lt (m := 16000000) (by ((simp only [List.length_map, List.length_append, List.length_replicate, List.length_cons, List.length_nil, List.length_singleton, List.length_set, List.length_range, List.length_take, List.length_drop, List.length_dropLast]; omega))) (by decide))), ?_⟩); (walk_at "ip"; walk_at "st.0"); refine ⟨_, _, rfl, (by (show _root_.L2.SqT _ _ _ _; exact Ll.Sep.tup (by assumption) (by exact Ll.Pick.hd))), rfl, ?_⟩; refine ⟨_, _, rfl, ?_⟩; refine ⟨_, _, rfl, rfl, ?_⟩; refine Ll.goTail (by assumption) ?_; (with_reducible refine Ll.seqG fun _ _ => ?_); refine ⟨_, rfl, ?_⟩; refine Ll.tconsI ?_; refine Ll.tcI ?_; refine Ll.tnilI ?_; refine ⟨_, _, rfl, ?_⟩)
  rename_i p np I1 hI1 pt npt I2 hI2 TT hTT
  clear hI1 hS
  refine goNext hI2 (by exact Ll.Pick.tl (Ll.Pick.tl Ll.Pick.hd)) (by omega) (by omega) fun N I3 n0 n1 hI3 => ?_
  have hS0 : Sep (wkA K p [] :: diceA K d :: [tabA TB]) I3 := Sep.lstC (K := K) (ds := []) (hI3.sub (ds := obj p (.lst []) :: diceA K d :: [tabA TB]) (by ((apply Ll.Subs.sel; exact Ll.Pick.tl (Ll.Pick.tl Ll.Pick.hd)); (apply Ll.Subs.sel; exact Ll.Pick.hd); (apply Ll.Subs.sel; exact Ll.Pick.tl Ll.Pick.hd); exact Ll.Subs.nil))) rfl .nil
  clear hI2 hI3
  (refine ⟨_, rfl, ?_⟩)
  refine ⟨by omega, by omega, for_range (lo := 0) (n := N.toNat) (fun i σ H' => ∃ (v5 : Option V) (m : Int) (ws : List (Int × Int)), σ = [v0, some (.ref d), v2, some (.int m), some (.ref p), v5, v6, v7, v8, v9, v10, v11, v12, v13, v14, v15, v16] ∧ 0 ≤ m ∧ m ≤ 59 * (i : Int) ∧ ws.length = i ∧ Sv.Good ws ∧ (∀ q ∈ ws, q.1 ≤ m) ∧ Sep (wkA K p ws :: diceA K d :: [tabA TB]) H')
    ⟨v5, 0, [], rfl, by omega, by omega, rfl, trivial, (fun q hq => nomatch hq), hS0⟩ ?_ ?_⟩
  · clear hS0
    rintro i σ H2 hi ⟨v5, m, ws, rfl, m0, m1, hwl, hg, hm, hS⟩
    have hi30 : i < 30 := by omega
    (refine ⟨_, rfl, ?_⟩; refine ⟨_, rfl, ?_⟩; refine Ll.tconsI ?_; refine Ll.tcI ?_; refine Ll.tnilI ?_; refine ⟨_, _, rfl, ?_⟩)
    refine goNext hS (by exact Ll.Pick.tl Ll.Pick.hd) (by omega) (by omega) fun x H3 x0 x1 hS2 => ?_
    clear hS
    (refine ⟨_, rfl, ?_⟩; refine Ll.tconsI ?_; refine Ll.tcI ?_; refine Ll.tnilI ?_; refine ⟨_, _, rfl, ?_⟩)
    refine goNext hS2 (by exact Ll.Pick.hd) (by omega) (by omega) fun y H4 y0 y1 hS3 => ?_
    clear hS2
    (refine Ll.tnilI ?_; (refine ⟨(by (show _ ≤ PySem.sizeLine); (show (_ : Prop); exact Nat.lt_of_le_of_lt (m := 16000000) (by ((simp only [List.length_map, List.length_append, List.length_replicate, List.length_cons, List.length_nil, List.length_singleton, List.length_set, List.length_range, List.length_take, List.length_drop, List.length_dropLast]; omega))) (by decide))), ?_⟩); (walk_at "ip"; walk_at "st.1"); refine ⟨_, rfl, ?_⟩; refine Ll.tconsI ?_; refine Ll.tcI ?_; refine Ll.tnilI ?_; refine ⟨_, _, rfl, ?_⟩)
    rename_i pa npa I4 hI4
    clear hS3
    refine goNext hI4 (by exact Ll.Pick.tl Ll.Pick.hd) (by omega) (by omega) fun z H5 z0 z1 hS5 => ?_
    clear hI4
    obtain ⟨a, a0, a1, hat⟩ : ∃ a : Int, 0 ≤ a ∧ a ≤ 59 ∧ atI [V.int 0, V.int x, V.int y] z = some (.int a) := by
      rcases (by omega : z = 0 ∨ z = 1 ∨ z = 2) with rfl | rfl | rfl
      · exact ⟨0, by omega, by omega, rfl⟩
      · exact ⟨x, x0, by omega, rfl⟩
      · exact ⟨y, y0, by omega, rfl⟩
    refine ⟨_, _, _, _, rfl, rfl, (by (show _root_.L2.SqL _ _ _ _; exact _root_.L2.SqL.of (by (show (_ : Option _root_.L2.HO) = _; exact Ll.Sep.get (by assumption) (by exact Ll.Pick.tl Ll.Pick.hd))))), hat, ?_⟩
    have hS6 : Sep (wkA K p ws :: diceA K d :: [tabA TB]) H5 := hS5.sub (by ((apply Ll.Subs.sel; exact Ll.Pick.tl (Ll.Pick.tl Ll.Pick.hd)); (apply Ll.Subs.sel; exact Ll.Pick.hd); (apply Ll.Subs.sel; exact Ll.Pick.tl Ll.Pick.hd); exact Ll.Subs.nil))
    clear hS5
    (refine ⟨_, _, rfl, rfl, ?_⟩; refine ⟨_, rfl, ?_⟩; refine ⟨.inl ⟨rfl, (Ll.Sep.lstEx (by assumption) (by exact Ll.Pick.hd))⟩, ?_⟩; refine ⟨_, rfl, ?_⟩; refine ⟨_, rfl, ?_⟩; refine Ll.tconsI ?_; refine Ll.tcI ?_; refine Ll.tnilI ?_; refine ⟨_, _, rfl, ?_⟩)
    refine goNext hS6 (by exact Ll.Pick.tl Ll.Pick.hd) (by omega) (by omega) fun x H3 x0 x1 hS2 => ?_
    clear hS6
    (refine ⟨_, rfl, ?_⟩; refine Ll.tconsI ?_; refine Ll.tcI ?_; refine Ll.tnilI ?_; refine ⟨_, _, rfl, ?_⟩)
    refine goNext hS2 (by exact Ll.Pick.hd) (by omega) (by omega) fun y H4 y0 y1 hS3 => ?_
    clear hS2
    (refine Ll.tnilI ?_; (refine ⟨(by (show _ ≤ PySem.sizeLine); (show (_ : Prop); exact Nat.lt_of_le_of_lt (m := 16000000) (by ((simp only [List.length_map, List.length_append, List.length_replicate, List.length_cons, List.length_nil, List.length_singleton, List.length_set, List.length_range, List.length_take, List.length_drop, List.length_dropLast]; omega))) (by decide))), ?_⟩); (walk_at "ip"; walk_at "st.1"); refine ⟨_, rfl, ?_⟩; refine Ll.tconsI ?_; refine Ll.tcI ?_; refine Ll.tnilI ?_; refine ⟨_, _, rfl, ?_⟩)
    rename_i pb npb I5 hI5
    clear hS3
    refine goNext hI5 (by exact Ll.Pick.tl Ll.Pick.hd) (by omega) (by omega) fun z H5 z0 z1 hS5 => ?_
    clear hI5
    obtain ⟨b, b0, b1, hbt⟩ : ∃ b : Int, 0 ≤ b ∧ b ≤ 99 ∧ atI [V.int 0, V.int x, V.int y] z = some (.int b) := by
      rcases (by omega : z = 0 ∨ z = 1 ∨ z = 2) with rfl | rfl | rfl
      · exact ⟨0, by omega, by omega, rfl⟩
      · exact ⟨x, x0, by omega, rfl⟩
      · exact ⟨y, y0, by omega, rfl⟩
    refine ⟨_, _, _, _, rfl, rfl, (by (show _root_.L2.SqL _ _ _ _; exact _root_.L2.SqL.of (by (show (_ : Option _root_.L2.HO) = _; exact Ll.Sep.get (by assumption) (by exact Ll.Pick.tl Ll.Pick.hd))))), hbt, ?_⟩
    have hS6 : Sep (wkA K p ws :: diceA K d :: [tabA TB]) H5 := hS5.sub (by ((apply Ll.Subs.sel; exact Ll.Pick.tl (Ll.Pick.tl Ll.Pick.hd)); (apply Ll.Subs.sel; exact Ll.Pick.hd); (apply Ll.Subs.sel; exact Ll.Pick.tl Ll.Pick.hd); exact Ll.Subs.nil))
    clear hS5
    (refine Ll.tnilI ?_; (refine ⟨(by (show _ ≤ PySem.sizeLine); (show (_ : Prop); exact Nat.lt_of_le_of_lt (m := 16000000) (by ((simp only [List.length_map, List.length_append, List.length_replicate, List.length_cons, List.length_nil, List.length_singleton, List.length_set, List.length_range, List.length_take, List.length_drop, List.length_dropLast]; omega))) (by decide))), ?_⟩); (walk_at "ip"; walk_at "st.0"); refine Ll.tnilI ?_; ((with_reducible show _root_.L2.rAppend _ _ _ _); refine Ll.goAppP (by assumption) (by exact Ll.Swp.tl Ll.Swp.hd) (by (show _root_.L2.SqT _ _ _ _; exact Ll.Sep.tup (by assumption) (by exact Ll.Pick.hd))) (by (show (_ : Prop); exact Nat.lt_of_le_of_lt (m := 16000000) (by omega) (by decide))) fun _ _ => ?_))
    refine ⟨_, m + a, ws ++ [(m + a, b)], rfl, by omega, by omega, by rw [List.length_append, hwl]; rfl, Sv.good_add hg (fun q hq => by have := hm q hq; omega) (by omega) (by omega) b0 b1, fun q hq => ?_, (by assumption : Sep _ _).sub (by ((apply Ll.Subs.sel; exact Ll.Pick.tl Ll.Pick.hd); (apply Ll.Subs.sel; exact Ll.Pick.tl Ll.Pick.hd); (apply Ll.Subs.sel; exact Ll.Pick.tl Ll.Pick.hd); exact Ll.Subs.nil))⟩
    rcases List.mem_append.mp hq with h | h
    · have := hm q h
      omega
    · rw [List.mem_singleton.mp h]
      exact Int.le_refl _
  · clear hS0
    rintro σ H2 ⟨v5, m, ws, rfl, m0, m1, hwl, hg, hm, hS⟩
    (refine Ll.goTail (by assumption) ?_; (with_reducible refine Ll.seqG fun _ _ => ?_); refine ⟨_, rfl, ?_⟩; refine Ll.tconsI ?_; refine Ll.tcI ?_; refine Ll.tnilI ?_; refine ⟨_, _, rfl, ?_⟩)
    refine goNext hS (by exact Ll.Pick.tl Ll.Pick.hd) (by omega) (by omega) fun cI H3 c0 c1 hS2 => ?_
    clear hS
    (refine ⟨_, _, rfl, rfl, ?_⟩; refine ⟨_, rfl, ?_⟩; refine Ll.tconsI ?_; refine Ll.tcI ?_; refine Ll.tcI ?_; refine ⟨_, _, rfl, rfl, (by (show (_ : Prop); exact ⟨by omega, by omega⟩)), ?_⟩; refine Ll.tnilI ?_; refine ⟨_, _, rfl, ?_⟩)
    refine goNext hS2 (by exact Ll.Pick.hd) (by decide) (by decide) fun y H4 y0 y1 hS3 => ?_
    clear hS2
    (refine Ll.tnilI ?_; (refine ⟨(by (show _ ≤ PySem.sizeLine); (show (_ : Prop); exact Nat.lt_of_le_of_lt (m := 16000000) (by ((simp only [List.length_map, List.length_append, List.length_replicate, List.length_cons, List.length_nil, List.length_singleton, List.length_set, List.length_range, List.length_take, List.length_drop, List.length_dropLast]; omega))) (by decide))), ?_⟩); (walk_at "ip"; walk_at "st.1"); refine ⟨_, rfl, ?_⟩; refine Ll.tconsI ?_; refine Ll.tcI ?_; refine Ll.tnilI ?_; refine ⟨_, _, rfl, ?_⟩)
    rename_i pa npa I4 hI4
    clear hS3
    refine goNext hI4 (by exact Ll.Pick.tl Ll.Pick.hd) (by omega) (by omega) fun z H5 z0 z1 hS5 => ?_
    clear hI4
    have y1 : y < 1000000 := y1
    obtain ⟨far, f0, f1, hft⟩ : ∃ b : Int, 0 ≤ b ∧ b < 1000000 ∧ atI [V.int 0, V.int y] z = some (.int b) := by
      rcases (by omega : z = 0 ∨ z = 1) with rfl | rfl
      · exact ⟨0, by omega, by omega, rfl⟩
      · exact ⟨y, y0, y1, rfl⟩
    refine ⟨_, _, _, _, rfl, rfl, (by (show _root_.L2.SqL _ _ _ _; exact _root_.L2.SqL.of (by (show (_ : Option _root_.L2.HO) = _; exact Ll.Sep.get (by assumption) (by exact Ll.Pick.tl Ll.Pick.hd))))), hft, ?_⟩
    have hS6 : Sep (wkA K p ws :: diceA K d :: [tabA TB]) H5 := hS5.sub (by ((apply Ll.Subs.sel; exact Ll.Pick.tl (Ll.Pick.tl Ll.Pick.hd)); (apply Ll.Subs.sel; exact Ll.Pick.hd); (apply Ll.Subs.sel; exact Ll.Pick.tl Ll.Pick.hd); exact Ll.Subs.nil))
    clear hS5
    (refine Ll.tconsI ?_; refine Ll.tcI ?_; refine Ll.tnilI ?_; (refine ⟨(by (show _ ≤ PySem.sizeLine); (show (_ : Prop); exact Nat.lt_of_le_of_lt (m := 16000000) (by ((simp only [List.length_map, List.length_append, List.length_replicate, List.length_cons, List.length_nil, List.length_singleton, List.length_set, List.length_range, List.length_take, List.length_drop, List.length_dropLast]; omega))) (by decide))), ?_⟩); (walk_at "ip"; walk_at "st.0"); refine ⟨_, _, rfl, (by (show _root_.L2.SqT _ _ _ _; exact Ll.Sep.tup (by assumption) (by exact Ll.Pick.hd))), rfl, ?_⟩; refine ⟨_, _, rfl, ?_⟩; refine ⟨_, _, rfl, ?_⟩; refine ⟨_, _, rfl, rfl, ?_⟩; refine Ll.goTail (by assumption) ?_)
    rename_i pt2 npt2 H6 hS7
    exact ql D H6 v0 v2 _ v5 _ _ _ _ _ _ _ _ d p ws (1 + cI) far [] (by omega) hg f0 f1 (by omega) (by omega) (hS7.sub (by ((apply Ll.Subs.sel; exact Ll.Pick.tl Ll.Pick.hd); (apply Ll.Subs.sel; exact Ll.Pick.tl Ll.Pick.hd); (apply Ll.Subs.sel; exact Ll.Pick.tl Ll.Pick.hd); exact Ll.Subs.nil))) fun _ _ _ _ _ _ _ _ _ _ H7 h7 => k _ _ _ _ _ _ _ _ _ _ _ _ _ _ H7 h7
theorem Sep.diceN {K : PySem.W.Frag} {d : Addr} {cs : List Asr} {H H1 : Hp} (h : Sep cs H) (n : H d = none) (s : Same H H1) (da : DiceAt K H1 d) : Sep (diceA K d :: cs) H1 := by
  unfold diceA
  obtain ⟨V, r⟩ := h
  exact ⟨fun b => b = d ∨ V b, fun b => b = d, V, ⟨fun _ => Iff.rfl, da⟩, r.st (fun b o e _ => s b o e) (fun b o e _ => s b o e), fun b z v => r.new n (z ▸ v), fun _ => Iff.rfl⟩
theorem ok_law {f : Addr} {fd : FuncData} (F : FunD K "law" "law" (defArgs sscLw) (defBody sscLw) (defScope sscLw) [] [] f fd) {c Pt : Addr} (hcode : fd.code = .ref c) (T : TxL K mg) (TE : TxQ K mg cs le) {g : Addr} {fdT : FuncData} (Ft : FunD K "_law_told" "_law_told" (defArgs soTold) (defBody soTold) (defScope soTold) [] [] g fdT) (hgm : mg "_law_told" = some (.ref g)) (hbT : Binds K fdT ["_law_work"] [])
    (tbL : LamX.TabB base mg c Pt) (hmL : (Pt, qLaw) ∈ TB) (huL : ∀ p ∈ TB, p.1 = Pt → p.2 = qLaw) (G__law_dice : FnG P w K mg base CX0 1 "_law_dice" ["_law_script"] [] (spDice K)) (G_served : FnG P w K mg base (L2.CX P w) 4 "served" ["work", "count"] [] (spServedN K (cs 9) (cs 8))) (G_fewest : FnG P w K mg base (L2.CX P w) 4 "fewest" ["work", "longest"] [] (spFewestN K (cs 9)))
    (G__law_like : FnG P w K mg base CX0 5 "_law_like" ["_law_found", "_law_due"] [] (spLike K 4)) (G__law_longest : FnG P w K mg base CX0 1 "_law_longest" ["_law_work", "_law_found"] [] (spLongN K)) (G__law_starts : FnG P w K mg base CX0 1 "_law_starts" ["_law_work", "_law_count"] [] (spStartsL K)) (G__law_next : FnG P w K mg base CX0 1 "_law_next" ["_law_dice_here", "_law_many"] [] (spNext K)) :
    FnOk P w K mg base C8.CX0 12 f fd ["_law_script"] (spLaw K TB) := by
  obtain ⟨oc, od, dV, kV, doc, pm, an, cdv, ct, osl, rfl, lk, hcd, _, _⟩ := F.ex
  obtain rfl : cdv = .ref c := hcode
  refine fn_of lk hcd scLw (fun vs H Q E h => ?_) (fun A0 outer s H vs Q E hr h => ?_)
  · obtain ⟨a, ns, rfl, _⟩ := h
    rfl
  · obtain ⟨a, ns, rfl, hX, hl, hS0, k⟩ := h
    obtain ⟨t1, h1, q1⟩ := t0 (P := P) (w := w) (K := K) (mg := mg) (base := base) (cs := cs) (TB := TB) (f := f) (A0 := A0) (outer := outer) (s := s) (H0 := H) (E0 := E) (hr.mono (by decide)) T TE Ft hgm hbT tbL hmL huL G_served G_fewest G__law_like G__law_longest G__law_starts G__law_next
    refine ⟨_, PSs.nox (pss_cons (ps_set (i := 1) scLw.nd rfl (Or.inl rfl) (pe_callG G__law_dice (hr.mono (by decide)) rfl pass0 (pa_cons (pv 0) pa_nil)))
      (pss_cons (ps_for PassesOwn.never rfl (pi_range1 (by rfl) T.range (pa_cons pe_int pa_nil)) (pg_name (i := 2) scLw.nd rfl (.inl rfl)) h1)
      (pss_one (ps_ret pe_bl)))), ?_⟩
    clear h1
    ((with_reducible refine Ll.seqG fun _ _ => ?_); refine ⟨_, rfl, ?_⟩; refine Ll.tnilI ?_)
    refine ⟨a, ns, rfl, hX, hl, fun H1 d hd same hda => ?_⟩
    have hS := hS0.diceN hd same hda
    clear hS0 hX
    (refine Ll.goTail (by assumption) ?_; (with_reducible refine Ll.seqG fun _ _ => ?_); refine ⟨_, rfl, ?_⟩)
    refine ⟨by decide, by decide, for_range (lo := 0) (n := Int.toNat 3) (fun i σ H' => ∃ (v3 v4 v5 v6 v7 v8 v9 v10 v11 v12 v13 v14 v15 v16 v2 : Option V), σ = [some (.ref a), some (.ref d), v2, v3, v4, v5, v6, v7, v8, v9, v10, v11, v12, v13, v14, v15, v16] ∧ Sep [diceA K d, tabA TB] H')
      ⟨_, _, _, _, _, _, _, _, _, _, _, _, _, _, _, rfl, hS⟩ ?_ ?_⟩
    · clear hS
      rintro i σ H2 hi ⟨v3, v4, v5, v6, v7, v8, v9, v10, v11, v12, v13, v14, v15, v16, v2, rfl, hS⟩
      refine q1 _ _ _ _ _ _ _ _ _ _ _ _ _ _ _ _ _ _ d hS fun w3 w4 w5 w6 w7 w8 w9 w10 w11 w12 w13 w14 w15 w16 H' h' => ?_
      exact ⟨_, _, _, _, _, _, _, _, _, _, _, _, _, _, _, rfl, h'⟩
    · clear hS
      rintro σ H2 ⟨v3, v4, v5, v6, v7, v8, v9, v10, v11, v12, v13, v14, v15, v16, v2, rfl, hS⟩
      (refine Ll.goTail (by assumption) ?_; refine Ll.tcI ?_)
      exact k H2
end
end Ll

namespace Ll
open PySem PySem.Spec PyProof.Rows L2 Yd
/-! ### the script at hand, however it is told of -/
def spLawS (K : PySem.W.Frag) (TB : List (Addr × Str)) : Sp := fun vs H Q _ => ∃ (a : Addr) (ns : List Int), vs = [.ref a] ∧ SqL K H a (ns.map V.int) ∧ ns.length ≤ 63 ∧ (∀ p ∈ TB, H p.1 = some (.tbl #[])) ∧ ∀ H', Q (.bl true) H'
theorem law_to_S {P : Program} {w : World} {K : PySem.W.Frag} {mg : Str → Option Value} {base : Heap} {TB : List (Addr × Str)} {j : Nat} {f : Addr} {fd : FuncData} (F : FnOk P w K mg base CX0 j f fd ["_law_script"] (spLaw K TB)) : FnOk P w K mg base CX0 j f fd ["_law_script"] (spLawS K TB) := by
  refine ⟨fun vs H Q E h => ?_, fun A outer s H args us vs Q E hr e hb hv h => ?_⟩
  · obtain ⟨a, ns, rfl, _⟩ := h
    rfl
  · obtain ⟨a, ns, rfl, hS, hl, hT, k⟩ := h
    have go : ∀ H', FixL K H' a (ns.map V.int) → (∀ p ∈ TB, H' p.1 = some (.tbl #[])) → Env0 P w K mg base A outer s H' → codeAny (model P w) A (.call (.ref f) args) (CR CX0 outer P w H' s Q E) s := fun H' h1 h2 h3 =>
      F.run A outer s H' args us _ Q E hr h3 hb hv ⟨a, ns, rfl, h1, hl, Sep.tab0 h2, k⟩
    rcases hS with (h | h) | h
    · have x := e.hok a _ h
      obtain ⟨_, its, n, _, eo⟩ := id x
      generalize ho : ({ cls := .type "list", data := .seq its.toArray n } : Obj) = o at eo
      have mu : Mut (H a) := by rw [h]; exact trivial
      have ne : ∀ {b}, H b = none → b ≠ a := fun n z => by rw [z, h] at n; exact nomatch n
      have same : ∀ {b u}, H b = some u → (∀ xs, u ≠ .lst xs) → upd H a (.frz o (.lst (ns.map V.int))) b = some u := fun {b u} q m => by
        rw [upd_ne fun z => by rw [z, h] at q; exact m _ (Option.some.inj q).symm]
        exact q
      have new : ObjOk P w (upd H a (.frz o (.lst (ns.map V.int)))) s.heap a (.frz o (.lst (ns.map V.int))) := ⟨eo, x.stay (fun b v _ q => q) (fun b q => same q fun _ z => nomatch z) fun b xs q => same q fun _ z => nomatch z⟩
      have e' : Env0 P w K mg base A outer s (upd H a (.frz o (.lst (ns.map V.int)))) := ⟨e.frames, e.mod, fun b u hb => ⟨(e.bs b u hb).1, by rw [upd_ne (ne (e.bs b u hb).2)]; exact (e.bs b u hb).2⟩, e.bsz, e.funs, fun b hb => by rw [upd_ne (ne (e.frf b hb))]; exact e.frf b hb,
        e.hok.write mu (.inl rfl) (fun b u _ q => q) ⟨_, eo⟩ new, e.bare⟩
      refine codeAny_mono (go _ (.inl ⟨o, upd_same⟩) (fun p hp => same (hT p hp) fun _ z => nomatch z) e') fun r s' hq => ?_
      cases r with
      | error _ => exact hq
      | ok fl =>
        cases fl with
        | ret u =>
          obtain ⟨v, H2, a1, a2, un, a4, a5, a6⟩ := hq
          have up : ∀ {b}, H b = none → upd H a (.frz o (.lst (ns.map V.int))) b = none := fun n => by rw [upd_ne (ne n)]; exact n
          exact ⟨v, H2, a1, a2, ⟨fun b o g n => un.keep b o g (up n), fun b o g n => un.slot b o g (up n), fun b o g n => un.free b o g (up n), un.there, fun b xs q => un.tups b xs (same q fun _ z => nomatch z),
            fun b o u q => un.frzs b o u (same q fun _ z => nomatch z), fun b ps q => un.tbls b ps (same q fun _ z => nomatch z)⟩, a4, a5, a6⟩
        | next => exact hq
        | brk => exact hq
        | cont => exact hq
    · exact go H (.inl h) hT e
    · exact go H (.inr h) hT e
end Ll

namespace Ll
open PySem PySem.Spec PyProof.Rows L2 He Yd
theorem code_of {K : PySem.W.Frag} {p : Str × Option Str} {x q : Str} {a : Arguments} {b : List Stmt} {sc : Scope} {dvs : List V} {kws : List (Str × V)} {fd : FuncData} (F : FunD K x q a b sc dvs kws (fAd K p) fd) : fd.code = .ref (codeOf K p) := by
  obtain ⟨oc, od, dV, kV, doc, pm, an, cdv, ct, osl, rfl, lk, hcd, _, _⟩ := F.ex
  obtain ⟨c, rfl⟩ := codeIn_ref hcd
  show Value.ref c = .ref (codeOf K p)
  rw [codeOf_eq lk rfl]
end Ll

namespace Ll
open PySem PySem.Spec PyProof.Rows L2 He
theorem excB_okQ {K : PySem.W.Frag} {D : Addr} (h : excB K D = true) : ExcC K D := by
  unfold excB at h
  simp only [Bool.and_eq_true, decide_eq_true_eq] at h
  obtain ⟨h1, h2, h3, h4, h5, h6, h7, h8⟩ := h
  exact ⟨h1, h2, h3, h4, h5, h6, h7, h8⟩
theorem txQ_of {K : PySem.W.Frag} {mg : Str → Option Value} (hi : mg "isinstance" = none) (hv : mg "ValueError" = none) (hle : mg "LentError" = some (.ref (ga K "LentError")))
    (h0 : GlV mg "BadPool" (.ref (ga K "BadPool"))) (h1 : GlV mg "BadMoment" (.ref (ga K "BadMoment"))) (h2 : GlV mg "Stopped" (.ref (ga K "Stopped"))) (h3 : GlV mg "Waits" (.ref (ga K "Waits"))) (h4 : GlV mg "Full" (.ref (ga K "Full"))) (h5 : GlV mg "NotWaiting" (.ref (ga K "NotWaiting")))
    (h6 : GlV mg "NotOpening" (.ref (ga K "NotOpening"))) (h7 : GlV mg "NotLent" (.ref (ga K "NotLent"))) (h8 : GlV mg "BadCount" (.ref (ga K "BadCount"))) (h9 : GlV mg "BadWork" (.ref (ga K "BadWork"))) (e : errQ K = true) : TxQ K mg (errA K) (ga K "LentError") := by
  unfold errQ at e
  simp only [Bool.and_eq_true, decide_eq_true_eq, List.all_eq_true] at e
  obtain ⟨a, b1, b2, b3, b4⟩ := e
  exact { isinstance := hi, ValueError := hv, le0 := hle, c_BadPool := h0, c_BadMoment := h1, c_Stopped := h2, c_Waits := h3, c_Full := h4, c_NotWaiting := h5, c_NotOpening := h6, c_NotLent := h7, c_BadCount := h8, c_BadWork := h9, ec := (fun j hj => excB_okQ (a j (List.mem_range.mpr hj)).1), kit := (fun j i hj hi => (a j (List.mem_range.mpr hj)).2.1 i (List.mem_range.mpr hi)), kitV := (fun j hj => (a j (List.mem_range.mpr hj)).2.2.1), exm := (fun j hj => (a j (List.mem_range.mpr hj)).2.2.2), x_word := xfB_ok b1, n_word := b2, x_at := xfB_ok b3, n_at := b4 }
theorem leC_of {K : PySem.W.Frag} {mg : Str → Option Value} {D : Addr} (g : mg "LentError" = some (.ref D)) (h : leB K D = true) : LeC K mg D := by
  unfold leB at h
  simp only [Bool.and_eq_true, decide_eq_true_eq] at h
  refine ⟨g, h.1, h.2.1, h.2.2.1, ?_⟩
  have h4 := h.2.2.2
  split at h4
  · rename_i v e
    rw [e, of_decide_eq_true h4]
  · exact nomatch h4
theorem oexC_of {K : PySem.W.Frag} {C : Addr} (h : oexB K C = true) : OexC K C := by
  unfold oexB at h
  rw [Bool.and_eq_true] at h
  obtain ⟨h0, h1⟩ := h
  simp only [Bool.and_eq_true, decide_eq_true_eq] at h1
  refine ⟨?_, h1.1, h1.2.1, h1.2.2.1, h1.2.2.2⟩
  split at h0
  · rename_i dd nm bs C' bm ns qn hd sn sub ab col del k0 k1 k2 k3 n k5 e
    simp only [Bool.and_eq_true, decide_eq_true_eq, Bool.not_eq_true'] at h0
    obtain ⟨rfl, rfl, rfl, rfl, hr⟩ := h0
    exact ⟨nm, qn, ns, bs, bm, sn, sub, ab, col, dd, k0, k1, k2, k3, k5, e, hr⟩
  · exact nomatch h0
end Ll

namespace Ll
open PySem PySem.Spec PyProof.Rows L2 He Yd
/-! ### heads: lambdas in law alone -/
def TBs (K : PySem.W.Frag) : List (Addr × Str) := [((He.cT K ("law", none)).2, "law.<locals>.<lambda>")]
theorem tbs_memL (K : PySem.W.Frag) : ((He.cT K ("law", none)).2, ("law.<locals>.<lambda>" : Str)) ∈ TBs K := List.mem_singleton.mpr rfl
theorem tbs_unL (K : PySem.W.Frag) : ∀ p ∈ TBs K, p.1 = (He.cT K ("law", none)).2 → p.2 = ("law.<locals>.<lambda>" : Str) := fun p hp _ => by rw [List.mem_singleton.mp hp]
end Ll

end
namespace Hd
open PySem PySem.Spec PyProof.Rows L2 Ll
theorem facts {P : Program} {w : World} {K : PySem.W.Frag} {h : Heap} {mg : Str → Option Value} {f : Addr} (X : K.In h) (G : h.Ns mainGlobals mg) (hfa : mg ("law" : Str) = some (.ref f)) (c : He.SaysD fa fn K) (hx : (exL K).all id = true) :
    ∃ fd : FuncData, (∀ (s : Shared) (v : Value), BindsTo s fd ⟨[v], []⟩ [("_law_script", v)]) ∧ ∀ base : Heap, K.In base → base.Ns mainGlobals mg → LamX.TabB base mg (He.cT K ("law", none)).1 (He.cT K ("law", none)).2 → FnOk P w K mg base CX0 12 f fd ["_law_script"] (spLawS K (TBs K)) := by
  obtain ⟨fd0, F0⟩ := c.def_ 0 (d := d0) rfl
  obtain ⟨fd1, F1⟩ := c.def_ 1 (d := d1) rfl
  obtain ⟨fd2, F2⟩ := c.def_ 2 (d := d2) rfl
  obtain ⟨fd3, F3⟩ := c.def_ 3 (d := d3) rfl
  obtain ⟨fd4, F4⟩ := c.def_ 4 (d := d4) rfl
  obtain ⟨fd5, F5⟩ := c.def_ 5 (d := d5) rfl
  obtain ⟨fd6, F6⟩ := c.def_ 6 (d := d6) rfl
  obtain ⟨fd7, F7⟩ := c.def_ 7 (d := d7) rfl
  obtain ⟨fd8, F8⟩ := c.def_ 8 (d := d8) rfl
  obtain ⟨fd9, F9⟩ := c.def_ 9 (d := d9) rfl
  obtain ⟨fd10, F10⟩ := c.def_ 10 (d := d10) rfl
  obtain ⟨fdT, FT⟩ := c.def_ 11 (d := d11) rfl
  have e := hfa.symm.trans (He.glo_ok X G (c.fact 37 (f := .glo "law") rfl))
  cases e
  let C := clOf K
  have TD : TxDice K mg := ⟨He.free_ok X G (c.fact 11 (f := .free "len") rfl), He.free_ok X G (c.fact 12 (f := .free "int") rfl)⟩
  have TI : TxI K mg := { isinstance := He.free_ok X G (c.fact 13 (f := .free "isinstance") rfl), tuple := He.free_ok X G (c.fact 14 (f := .free "tuple") rfl), list := He.free_ok X G (c.fact 15 (f := .free "list") rfl), bool := He.free_ok X G (c.fact 16 (f := .free "bool") rfl), int := He.free_ok X G (c.fact 12 (f := .free "int") rfl), str := He.free_ok X G (c.fact 17 (f := .free "str") rfl), len := He.free_ok X G (c.fact 11 (f := .free "len") rfl), range := He.free_ok X G (c.fact 18 (f := .free "range") rfl) }
  have TS : TxS K mg := { min := He.free_ok X G (c.fact 19 (f := .free "min") rfl), max := He.free_ok X G (c.fact 20 (f := .free "max") rfl), range := He.free_ok X G (c.fact 18 (f := .free "range") rfl), zip := He.free_ok X G (c.fact 21 (f := .free "zip") rfl), enumerate := He.free_ok X G (c.fact 22 (f := .free "enumerate") rfl), c_LATEST := glV_int X G (c.fact 23 (f := .int "LATEST" 9999) rfl), c_MOST_LINES := glV_int X G (c.fact 24 (f := .int "MOST_LINES" 8) rfl), c_MOST_HOLD := glV_int X G (c.fact 25 (f := .int "MOST_HOLD" 99) rfl) }
  have TU : TxU K mg := { len := He.free_ok X G (c.fact 11 (f := .free "len") rfl), max := He.free_ok X G (c.fact 20 (f := .free "max") rfl), range := He.free_ok X G (c.fact 18 (f := .free "range") rfl), list := He.free_ok X G (c.fact 15 (f := .free "list") rfl) }
  have TL : TxL K mg := { range := He.free_ok X G (c.fact 18 (f := .free "range") rfl), len := He.free_ok X G (c.fact 11 (f := .free "len") rfl), list := He.free_ok X G (c.fact 15 (f := .free "list") rfl) }
  have TE := txQ_of (K := K) (mg := mg) (He.free_ok X G (c.fact 13 (f := .free "isinstance") rfl)) (He.free_ok X G (c.fact 26 (f := .free "ValueError") rfl)) (He.glo_ok X G (c.fact 27 (f := .glo "LentError") rfl)) (glV_ref X G (c.fact 28 (f := .glo "BadPool") rfl)) (glV_ref X G (c.fact 29 (f := .glo "BadMoment") rfl)) (glV_ref X G (c.fact 30 (f := .glo "Stopped") rfl)) (glV_ref X G (c.fact 31 (f := .glo "Waits") rfl)) (glV_ref X G (c.fact 32 (f := .glo "Full") rfl)) (glV_ref X G (c.fact 33 (f := .glo "NotWaiting") rfl)) (glV_ref X G (c.fact 34 (f := .glo "NotOpening") rfl)) (glV_ref X G (c.fact 35 (f := .glo "NotLent") rfl)) (glV_ref X G (c.fact 3 (f := .glo "BadCount") rfl)) (glV_ref X G (c.fact 36 (f := .glo "BadWork") rfl)) (allAt hx 0 rfl)
  have b := FunD.bindsA (ps := ["_law_script"]) F10 fun _ _ _ _ _ _ us hl => match us, hl with | [_], _ => rfl
  refine ⟨fd10, fun s v => b s [v] rfl, fun base _ _ tbL => ?_⟩
  have X_BadWork : OxG P w K mg base "BadWork" (errA K 9) "at" "at" := ⟨He.glo_ok X G (c.fact 36 (f := .glo "BadWork") rfl), oexC_of (allAt hx 2 rfl), _, fd9, of_decide_eq_true (allAt hx 3 rfl), of_decide_eq_true (allAt hx 4 rfl), ok_badWork F9 (leC_of (He.glo_ok X G (c.fact 27 (f := .glo "LentError") rfl)) (allAt hx 1 rfl)) (oexC_of (allAt hx 2 rfl)) (of_decide_eq_true (allAt hx 5 rfl)), FunD.bindsN F9 fun _ _ _ _ _ _ us hl => match us, hl with | [_, _], _ => rfl⟩
  have G__law_dice : FnG P w K mg base CX0 1 "_law_dice" ["_law_script"] [] (spDice K) := ⟨_, fd0, [], ok_dice F0 TD, He.glo_ok X G (c.fact 0 (f := .glo "_law_dice") rfl), F0.kp, FunD.bindsN F0 fun _ _ _ _ _ _ us hl => match us, hl with | [_], _ => rfl, .nil⟩
  have G_need_work : FnG P w K mg base (L2.CX P w) 3 "need_work" ["work"] [] (spNeedN K (errA K 9)) := ⟨_, fd1, [], ok_needN F1 TS X_BadWork, He.glo_ok X G (c.fact 1 (f := .glo "need_work") rfl), F1.kp, FunD.bindsN F1 fun _ _ _ _ _ _ us hl => match us, hl with | [_], _ => rfl, .nil⟩
  have G_starts : FnG P w K mg base CX0 1 "starts" ["work", "count"] [] (spStartsN K) := ⟨_, fd2, [], ok_startsN F2 TS, He.glo_ok X G (c.fact 2 (f := .glo "starts") rfl), F2.kp, FunD.bindsN F2 fun _ _ _ _ _ _ us hl => match us, hl with | [_, _], _ => rfl, .nil⟩
  have G_served : FnG P w K mg base (L2.CX P w) 4 "served" ["work", "count"] [] (spServedN K ((errA K) 9) ((errA K) 8)) := ⟨_, fd3, [], ok_servedN F3 TS (exG_of X G (c.fact 3 (f := .glo "BadCount") rfl) (c.fact 4 (f := .exc "BadCount") rfl)) G_need_work G_starts, He.glo_ok X G (c.fact 5 (f := .glo "served") rfl), F3.kp, FunD.bindsN F3 fun _ _ _ _ _ _ us hl => match us, hl with | [_, _], _ => rfl, .nil⟩
  have G_fewest : FnG P w K mg base (L2.CX P w) 4 "fewest" ["work", "longest"] [] (spFewestN K ((errA K) 9)) := ⟨_, fd4, [], ok_fewestN F4 TS G_need_work G_starts, He.glo_ok X G (c.fact 6 (f := .glo "fewest") rfl), F4.kp, FunD.bindsN F4 fun _ _ _ _ _ _ us hl => match us, hl with | [_, _], _ => rfl, .nil⟩
  have LK0 : FnG P w K mg base CX0 1 "_law_like" ["_law_found", "_law_due"] [] (spLike K 0) := ⟨_, fd5, [], like_zero (k := 0) F5, He.glo_ok X G (c.fact 7 (f := .glo "_law_like") rfl), F5.kp, FunD.bindsN F5 fun _ _ _ _ _ _ us hl => match us, hl with | [_, _], _ => rfl, .nil⟩
  have LK1 : FnG P w K mg base CX0 2 "_law_like" ["_law_found", "_law_due"] [] (spLike K 1) := ⟨_, fd5, [], ok_like F5 TI LK0, He.glo_ok X G (c.fact 7 (f := .glo "_law_like") rfl), F5.kp, FunD.bindsN F5 fun _ _ _ _ _ _ us hl => match us, hl with | [_, _], _ => rfl, .nil⟩
  have LK2 : FnG P w K mg base CX0 3 "_law_like" ["_law_found", "_law_due"] [] (spLike K 2) := ⟨_, fd5, [], ok_like F5 TI LK1, He.glo_ok X G (c.fact 7 (f := .glo "_law_like") rfl), F5.kp, FunD.bindsN F5 fun _ _ _ _ _ _ us hl => match us, hl with | [_, _], _ => rfl, .nil⟩
  have LK3 : FnG P w K mg base CX0 4 "_law_like" ["_law_found", "_law_due"] [] (spLike K 3) := ⟨_, fd5, [], ok_like F5 TI LK2, He.glo_ok X G (c.fact 7 (f := .glo "_law_like") rfl), F5.kp, FunD.bindsN F5 fun _ _ _ _ _ _ us hl => match us, hl with | [_, _], _ => rfl, .nil⟩
  have G__law_like : FnG P w K mg base CX0 5 "_law_like" ["_law_found", "_law_due"] [] (spLike K 4) := ⟨_, fd5, [], ok_like F5 TI LK3, He.glo_ok X G (c.fact 7 (f := .glo "_law_like") rfl), F5.kp, FunD.bindsN F5 fun _ _ _ _ _ _ us hl => match us, hl with | [_, _], _ => rfl, .nil⟩
  have G__law_longest : FnG P w K mg base CX0 1 "_law_longest" ["_law_work", "_law_found"] [] (spLongN K) := ⟨_, fd6, [], ok_longN F6 TU, He.glo_ok X G (c.fact 8 (f := .glo "_law_longest") rfl), F6.kp, FunD.bindsN F6 fun _ _ _ _ _ _ us hl => match us, hl with | [_, _], _ => rfl, .nil⟩
  have G__law_starts : FnG P w K mg base CX0 1 "_law_starts" ["_law_work", "_law_count"] [] (spStartsL K) := ⟨_, fd7, [], ok_startsL F7 TU, He.glo_ok X G (c.fact 9 (f := .glo "_law_starts") rfl), F7.kp, FunD.bindsN F7 fun _ _ _ _ _ _ us hl => match us, hl with | [_, _], _ => rfl, .nil⟩
  have G__law_next : FnG P w K mg base CX0 1 "_law_next" ["_law_dice_here", "_law_many"] [] (spNext K) := ⟨_, fd8, [], ok_next F8 TD, He.glo_ok X G (c.fact 10 (f := .glo "_law_next") rfl), F8.kp, FunD.bindsN F8 fun _ _ _ _ _ _ us hl => match us, hl with | [_, _], _ => rfl, .nil⟩
  exact law_to_S (TB := TBs K) (ok_law F10 (code_of F10) TL TE FT (He.glo_ok X G (c.fact 38 (f := .glo "_law_told") rfl)) (FunD.bindsN FT fun _ _ _ _ _ _ us hl => match us, hl with | [_], _ => rfl) tbL (tbs_memL K) (tbs_unL K) G__law_dice G_served G_fewest G__law_like G__law_longest G__law_starts G__law_next)
end Hd
open PySem PySem.W PySem.Calls PyProof.Rows
set_option maxRecDepth 100000 in
set_option maxHeartbeats 0 in
theorem PySem.Challenge.cw_lentlines_k10_served_by_so_many_holds : PySem.Challenge.rw_lentlines_k10_served_by_so_many.Holds := by
  w_on; o_law
  refine HandSHeadRun.head_any (r := OpenLaw.row PySem.Challenge.rw_lentlines_k10_served_by_so_many) (q := view (OpenLaw.row PySem.Challenge.rw_lentlines_k10_served_by_so_many).prog [27]) (H := Hd.hk) (ob := Hd.ob) (M := 6000) (loose := Hd.loose) (d := HandSHeadRun.topDef (OpenLaw.row PySem.Challenge.rw_lentlines_k10_served_by_so_many).prog 27) (kwd := []) Hd.ob_eq
    (by kernel_rfl) (fun s => by kernel_rfl) Hd.run (by kernel_rfl) (by kernel_rfl) (by kernel_rfl) (by rfl) (by first | assumption | decide +kernel) (by decide +kernel) ⟨rfl, rfl, rfl, rfl, rfl, by decide +kernel⟩ ?hw ?hc
  case hw => w_witness2
  case hc =>
    refine LamX.walk_ofTsE (l := PySem.Challenge.rw_lentlines_k10_served_by_so_many) (n := 63) (k := 12) (x := "_law_script") (CX := fun _ => L2.CX0) rfl (by decide) (by kernel_rfl) ⟨rfl, by decide, by decide⟩ ?F (fun _ _ _ _ _ z => z)
    intro w mg fa h Y G hmg0
    obtain ⟨K, KX, c⟩ := Y
    have hmg : mg ("law" : PySem.Str) = some (.ref fa) := by
      have e : (HandSHeadRun.topDef (OpenLaw.row PySem.Challenge.rw_lentlines_k10_served_by_so_many).prog 27).name = ("law" : PySem.Str) := by kernel_rfl
      rw [← e]
      exact hmg0
    obtain ⟨fd, hb, hF⟩ := Hd.facts (P := (PySem.Challenge.rw_lentlines_k10_served_by_so_many).prog) (w := w) KX G hmg c.t.d c.more
    have m1 : (("law", none) : He.Defn) ∈ [(("law", none) : He.Defn)] := List.mem_singleton.mpr rfl
    refine ⟨K, KX, fd, [He.cT K ("law", none)], Ll.spLawS K (Ll.TBs K), fun p hp => ?_, fun p hp => ?_, fun p hp => ?_, hb, fun H a ns hl hO hT hS => ⟨a, ns, rfl, hS, hl, fun p hp => ?_, fun _ => rfl⟩, fun base b1 b2 b3 => hF base b1 b2 (b3 _ (List.mem_singleton.mpr rfl))⟩
    · rw [List.mem_singleton.mp hp]; exact c.empty _ m1
    · rw [List.mem_singleton.mp hp]; exact c.out _ m1
    · rw [List.mem_singleton.mp hp]; exact PySem.W.codeHd_of_K KX (c.hd _ m1)
    · rw [List.mem_singleton.mp hp]; exact hT _ (List.mem_singleton.mpr rfl)
#print axioms PySem.Challenge.cw_lentlines_k10_served_by_so_many_holds
