import PyProof.Rows.All
import Wide.All
import OpenK.AllK
import Wide.FinOn
import HandS.ForMost
import HandS.ForExc
import HandS.Walk
import HandS.Style
import HandS.More
import HandS.TupAny
import HandS.IsInst
import HandS.Text
import PyProof.ReprRoads
import HandS.Wide
import HandS.Words
import HandS.Steps
import HandS.RaiseMore
import KE.SortData
import KE.DataCmp
import KE.DataMinMax
import KE.GoesMore
import KE.GoesEnum
import HandS.Ends
import HandS.HeadEnd
import HandS.Defaults
import HandS.Head0
import HandS.Head1
import HandS.Head2
import HandS.HeadHook1
import HandS.HeadHook2
import PySem.Challenge.RW_boundorvoid_k67_what_is_known_at_counter
set_option Elab.async false
set_option linter.all false
set_option maxRecDepth 100000
/-! DL, part a: data, what stands for data in a heap, frozen heaps, slots. -/
namespace DL
open PySem PySem.Spec PyProof.Rows L2

/-- data: what a value means, without addresses -/
inductive D where
  | non | bl (b : Bool) | int (i : Int) | str (s : Str)
  | lst (xs : List D) | tup (xs : List D)
  | dK (kvs : List (Key × D)) | dT (kvs : List (List Key × D))
  | obj (C : Addr) (fs : List (Str × D))
  | scr (ns : List Int)
  | ty (n : String)
  | txt (s : Str)

/-- a text without strange code points -/
abbrev strOk (x : Str) : Bool := PySem.PyData.strOk x
def kOk : Key → Bool
  | .inl _ => true
  | .inr s => strOk s
mutual
/-- a value stands for data in a frozen heap -/
inductive Rep (K : PySem.W.Frag) (F : Hp) : V → D → Prop
  | non : Rep K F .non .non
  | bl (b : Bool) : Rep K F (.bl b) (.bl b)
  | int (i : Int) : Rep K F (.int i) (.int i)
  | str {s : Str} : strOk s = true → Rep K F (.str s) (.str s)
  | lst {a : Addr} {vs : List V} {ds : List D} : F a = some (.lst vs) → RepL K F vs ds → Rep K F (.ref a) (.lst ds)
  | tup {a : Addr} {vs : List V} {ds : List D} : SqT K F a vs → RepL K F vs ds → Rep K F (.ref a) (.tup ds)
  | dK {a : Addr} {ks : List (Key × V)} {ds : List (Key × D)} : F a = some (.dK ks) → ks.map (·.1) = ds.map (·.1) → (∀ k ∈ ds.map (·.1), kOk k = true) → RepL K F (ks.map (·.2)) (ds.map (·.2)) → Rep K F (.ref a) (.dK ds)
  | dT {a : Addr} {ks : List (List Key × V)} {ds : List (List Key × D)} : F a = some (.dT ks) → ks.map (·.1) = ds.map (·.1) → (∀ l ∈ ds.map (·.1), ∀ k ∈ l, kOk k = true) → RepL K F (ks.map (·.2)) (ds.map (·.2)) → Rep K F (.ref a) (.dT ds)
  | obj {a C dx : Addr} {gs : List (Str × V)} {fs : List (Str × D)} : F a = some (.ins C dx gs) → gs.map (·.1) = fs.map (·.1) → RepL K F (gs.map (·.2)) (fs.map (·.2)) → Rep K F (.ref a) (.obj C fs)
  | scr {a : Addr} {ns : List Int} : SqL K F a (ns.map V.int) → Rep K F (.ref a) (.scr ns)
  | ty (n : String) : Rep K F (.ty n) (.ty n)
  | txt (s : Str) : Rep K F (.str s) (.txt s)
inductive RepL (K : PySem.W.Frag) (F : Hp) : List V → List D → Prop
  | nil : RepL K F [] []
  | cons {v : V} {vs : List V} {d : D} {ds : List D} : Rep K F v d → RepL K F vs ds → RepL K F (v :: vs) (d :: ds)
end

theorem seqL_same {K : PySem.W.Frag} {F F' : Hp} {a : Addr} {vs : List V} (s : Same F F') (h : SqL K F a vs) : SqL K F' a vs := s.seq h
theorem seqT_same {K : PySem.W.Frag} {F F' : Hp} {a : Addr} {vs : List V} (s : Same F F') (h : SqT K F a vs) : SqT K F' a vs := by
  rcases h with h | h
  · rcases h with h | h
    · exact Or.inl (Or.inl (s _ _ h))
    · obtain ⟨o, h⟩ := h
      exact Or.inl (Or.inr ⟨o, s _ _ h⟩)
  · exact Or.inr h
section
variable {K : PySem.W.Frag} {F F' : Hp}
mutual
theorem Rep.same (s : Same F F') : ∀ {v : V} {d : D}, Rep K F v d → Rep K F' v d
  | _, _, .non => .non
  | _, _, .bl b => .bl b
  | _, _, .int i => .int i
  | _, _, .str x => .str x
  | _, _, .lst h r => .lst (s _ _ h) (RepL.same s r)
  | _, _, .tup h r => .tup (seqT_same s h) (RepL.same s r)
  | _, _, .dK h e k r => .dK (s _ _ h) e k (RepL.same s r)
  | _, _, .dT h e k r => .dT (s _ _ h) e k (RepL.same s r)
  | _, _, .obj h e r => .obj (s _ _ h) e (RepL.same s r)
  | _, _, .scr h => .scr (seqL_same s h)
  | _, _, .ty n => .ty n
  | _, _, .txt n => .txt n
theorem RepL.same (s : Same F F') : ∀ {vs : List V} {ds : List D}, RepL K F vs ds → RepL K F' vs ds
  | _, _, .nil => .nil
  | _, _, .cons h t => .cons (Rep.same s h) (RepL.same s t)
end
theorem RepL.length {vs : List V} {ds : List D} (h : RepL K F vs ds) : vs.length = ds.length := by
  induction vs generalizing ds with
  | nil => cases h; rfl
  | cons v vs ih =>
    cases h with
    | cons _ t => rw [List.length_cons, List.length_cons, ih t]
theorem RepL.get {vs : List V} {ds : List D} (h : RepL K F vs ds) {i : Nat} {d : D} (e : ds[i]? = some d) : ∃ v, vs[i]? = some v ∧ Rep K F v d := by
  induction vs generalizing ds i with
  | nil => cases h; cases e
  | cons v vs ih =>
    cases h with
    | cons r t =>
      cases i with
      | zero =>
        cases e
        exact ⟨v, rfl, r⟩
      | succ i => exact ih t e
theorem RepL.app {vs ws : List V} {ds es : List D} (h : RepL K F vs ds) (g : RepL K F ws es) : RepL K F (vs ++ ws) (ds ++ es) := by
  induction vs generalizing ds with
  | nil => cases h; exact g
  | cons v vs ih =>
    cases h with
    | cons r t => exact .cons r (ih t)
theorem RepL.take {vs : List V} {ds : List D} (h : RepL K F vs ds) (n : Nat) : RepL K F (vs.take n) (ds.take n) := by
  induction vs generalizing ds n with
  | nil => cases h; rw [List.take_nil, List.take_nil]; exact .nil
  | cons v vs ih =>
    cases h with
    | cons r t =>
      cases n with
      | zero => exact .nil
      | succ n => exact .cons r (ih t n)
theorem RepL.drop {vs : List V} {ds : List D} (h : RepL K F vs ds) (n : Nat) : RepL K F (vs.drop n) (ds.drop n) := by
  induction vs generalizing ds n with
  | nil => cases h; rw [List.drop_nil, List.drop_nil]; exact .nil
  | cons v vs ih =>
    cases h with
    | cons r t =>
      cases n with
      | zero => exact .cons r t
      | succ n => exact ih t n
theorem RepL.set {vs : List V} {ds : List D} {v : V} {d : D} (h : RepL K F vs ds) (r : Rep K F v d) (n : Nat) : RepL K F (vs.set n v) (ds.set n d) := by
  induction vs generalizing ds n with
  | nil => cases h; exact .nil
  | cons w vs ih =>
    cases h with
    | cons q t =>
      cases n with
      | zero => exact .cons r t
      | succ n => exact .cons q (ih t n)
theorem RepL.ints (ns : List Int) : RepL K F (ns.map V.int) (ns.map D.int) := by
  induction ns with
  | nil => exact .nil
  | cons n ns ih => exact .cons (.int n) ih
theorem RepL.intsInv {vs : List V} : ∀ {ns : List Int}, RepL K F vs (ns.map D.int) → vs = ns.map V.int := by
  induction vs with
  | nil =>
    intro ns h
    cases ns with
    | nil => rfl
    | cons n ns => cases h
  | cons v vs ih =>
    intro ns h
    cases ns with
    | nil => cases h
    | cons n ns =>
      cases h with
      | cons r t =>
        cases r
        rw [ih t]
        rfl
theorem RepL.strsInv {vs : List V} : ∀ {ns : List Str}, RepL K F vs (ns.map D.str) → vs = ns.map V.str := by
  induction vs with
  | nil =>
    intro ns h
    cases ns with
    | nil => rfl
    | cons n ns => cases h
  | cons v vs ih =>
    intro ns h
    cases ns with
    | nil => cases h
    | cons n ns =>
      cases h with
      | cons r t =>
        cases r
        rw [ih t]
        rfl
theorem RepL.strs (ns : List Str) (h : ∀ n ∈ ns, strOk n = true) : RepL K F (ns.map V.str) (ns.map D.str) := by
  induction ns with
  | nil => exact .nil
  | cons n ns ih => exact .cons (.str (h n List.mem_cons_self)) (ih fun m hm => h m (List.mem_cons_of_mem _ hm))
theorem RepL.bools {vs : List V} : ∀ {ns : List Bool}, RepL K F vs (ns.map D.bl) → vs = ns.map V.bl := by
  induction vs with
  | nil =>
    intro ns h
    cases ns with
    | nil => rfl
    | cons n ns => cases h
  | cons v vs ih =>
    intro ns h
    cases ns with
    | nil => cases h
    | cons n ns =>
      cases h with
      | cons r t =>
        cases r
        rw [ih t]
        rfl
end

/-! ### heaps -/
/-- the deal of draws: a list of a list and a number, and the inner list -/
abbrev Dl := Option (Addr × Addr)
def isDl (dl : Dl) (x : Addr) : Prop := match dl with
  | some (a, b) => x = a ∨ x = b
  | none => False
def DlOk (dl : Dl) (F H : Hp) : Prop := match dl with
  | some (a, b) => a ≠ b ∧ F a = none ∧ F b = none ∧ ∃ (m : Int) (ns : List Int), H a = some (.lst [.ref b, .int m]) ∧ H b = some (.lst (ns.map V.int)) ∧ 0 ≤ m ∧ m < 2147483647 ∧ (∀ n ∈ ns, 0 ≤ n) ∧ ns.length ≤ 63
  | none => True
/-- the heap has grown; what was there stands, but for what x tells; the frozen part has grown by new things alone -/
structure FStep (x : Addr → Prop) (F H F' H' : Hp) : Prop where
  ff : Same F F'
  fh : Same F' H'
  keep : ∀ b o, H b = some o → ¬ x b → H' b = some o
  new : ∀ b o, F' b = some o → F b = some o ∨ H b = none
  dom : ∀ b, H' b = none → H b = none
structure Step (dl : Dl) (F H F' H' : Hp) : Prop extends FStep (isDl dl) F H F' H' where
  deal : DlOk dl F' H'
theorem DlOk.dom {dl : Dl} {F H : Hp} {b : Addr} (h : DlOk dl F H) (d : isDl dl b) : ∃ o, H b = some o := by
  cases dl with
  | none => exact d.elim
  | some p =>
    obtain ⟨a, c⟩ := p
    obtain ⟨_, _, _, m, ns, h1, h2, _⟩ := h
    rcases d with d | d
    · exact ⟨_, by rw [d]; exact h1⟩
    · exact ⟨_, by rw [d]; exact h2⟩
theorem DlOk.off {dl : Dl} {F H : Hp} {b : Addr} (h : DlOk dl F H) (d : isDl dl b) : F b = none := by
  cases dl with
  | none => exact d.elim
  | some p =>
    obtain ⟨a, c⟩ := p
    obtain ⟨_, h1, h2, _⟩ := h
    rcases d with d | d
    · rw [d]; exact h1
    · rw [d]; exact h2
/-- the deal stands where its two objects do -/
theorem DlOk.move {dl : Dl} {F H F' H' : Hp} (h : DlOk dl F H) (f : ∀ b, isDl dl b → F' b = none) (k : ∀ b o, isDl dl b → H b = some o → H' b = some o) : DlOk dl F' H' := by
  cases dl with
  | none => trivial
  | some q =>
    obtain ⟨a, c⟩ := q
    obtain ⟨h0, h1, h2, m, ns, h3, h4, h5⟩ := h
    exact ⟨h0, f a (.inl rfl), f c (.inr rfl), m, ns, k a _ (.inl rfl) h3, k c _ (.inr rfl) h4, h5⟩
theorem FStep.trans {x : Addr → Prop} {F H F1 H1 F2 H2 : Hp} (s : FStep x F H F1 H1) (t : FStep x F1 H1 F2 H2) : FStep x F H F2 H2 :=
  ⟨s.ff.trans t.ff, t.fh, fun b o e n => t.keep b o (s.keep b o e n) n, fun b o e => (t.new b o e).elim (fun z => s.new b o z) fun z => .inr (s.dom b z), fun b e => s.dom b (t.dom b e)⟩
theorem FStep.trans2 {x y : Addr → Prop} {F H F1 H1 F2 H2 : Hp} (s : FStep x F H F1 H1) (t : FStep y F1 H1 F2 H2) (c : ∀ b, y b → x b ∨ H b = none) : FStep x F H F2 H2 :=
  ⟨s.ff.trans t.ff, t.fh, fun b o e n => t.keep b o (s.keep b o e n) (fun z => (c b z).elim n fun q => by rw [e] at q; cases q), fun b o e => (t.new b o e).elim (fun z => s.new b o z) fun z => .inr (s.dom b z), fun b e => s.dom b (t.dom b e)⟩
theorem FStep.refl {x : Addr → Prop} {F H : Hp} (s : Same F H) : FStep x F H F H := ⟨Same.refl F, s, fun _ _ e _ => e, fun _ _ e => .inl e, fun _ e => e⟩
theorem FStep.off {x : Addr → Prop} {F H F' H' : Hp} (s : FStep x F H F' H') {p : Addr} {o : HO} (f : F p = none) (e : H p = some o) : F' p = none := by
  cases z : F' p with
  | none => rfl
  | some u =>
    rcases s.new p u z with y | y
    · rw [f] at y; cases y
    · rw [e] at y; cases y
theorem Step.refl {dl : Dl} {F H : Hp} (s : Same F H) (d : DlOk dl F H) : Step dl F H F H := ⟨FStep.refl s, d⟩
theorem Step.trans {dl : Dl} {F H F1 H1 F2 H2 : Hp} (s : Step dl F H F1 H1) (t : Step dl F1 H1 F2 H2) : Step dl F H F2 H2 := ⟨s.toFStep.trans t.toFStep, t.deal⟩
theorem Same.upd_new {H : Hp} {p : Addr} {o : HO} (h : H p = none) : Same H (upd H p o) := fun b u e => by
  rw [upd_ne (ne_of_none e h)]
  exact e
theorem Same.none {F H : Hp} (s : Same F H) {p : Addr} (h : H p = none) : F p = none := s.free h
theorem Same.upd2 {F H : Hp} {p : Addr} {o : HO} (s : Same F H) : Same (upd F p o) (upd H p o) := fun b u e => by
  by_cases hb : b = p
  · subst hb
    rw [upd_same] at e ⊢
    exact e
  · rw [upd_ne hb] at e ⊢
    exact s b u e
theorem upd_none {H : Hp} {p b : Addr} {o : HO} (e : upd H p o b = none) : H b = none := by
  by_cases hb : b = p
  · subst hb
    rw [upd_same] at e
    cases e
  · rw [upd_ne hb] at e
    exact e
/-- a new frozen object -/
theorem FStep.fresh {x : Addr → Prop} {F H : Hp} {p : Addr} {o : HO} (s : Same F H) (h : H p = none) : FStep x F H (upd F p o) (upd H p o) := by
  refine ⟨Same.upd_new (Same.none s h), Same.upd2 s, fun b u e _ => ?_, fun b u e => ?_, fun b e => upd_none e⟩
  · rw [upd_ne (ne_of_none e h)]
    exact e
  · by_cases hb : b = p
    · subst hb
      exact .inr h
    · rw [upd_ne hb] at e
      exact .inl e
theorem Step.fresh {dl : Dl} {F H : Hp} {p : Addr} {o : HO} (s : Same F H) (d : DlOk dl F H) (h : H p = none) : Step dl F H (upd F p o) (upd H p o) :=
  ⟨FStep.fresh s h, d.move (fun b hb => by
    obtain ⟨u, z⟩ := d.dom hb
    rw [upd_ne (ne_of_none z h)]
    exact d.off hb) fun b u _ e => by rw [upd_ne (ne_of_none e h)]; exact e⟩
/-- a new object that is not frozen -/
theorem Step.freshM {dl : Dl} {F H : Hp} {p : Addr} {o : HO} (s : Same F H) (d : DlOk dl F H) (h : H p = none) : Step dl F H F (upd H p o) :=
  ⟨⟨Same.refl F, s.trans (Same.upd_new h), fun b u e _ => by rw [upd_ne (ne_of_none e h)]; exact e, fun b u e => .inl e, fun b e => upd_none e⟩,
    d.move (fun b hb => d.off hb) fun b u _ e => by rw [upd_ne (ne_of_none e h)]; exact e⟩
/-- a step in which the deal is not known is one in which it stands -/
theorem Step.lift {dl : Dl} {F H F' H' : Hp} (s : Step none F H F' H') (d : DlOk dl F H) : Step dl F H F' H' :=
  ⟨⟨s.ff, s.fh, fun b o e _ => s.keep b o e (fun z => z), s.new, s.dom⟩, d.move (fun b hb => by
    obtain ⟨u, z⟩ := d.dom hb
    exact s.toFStep.off (d.off hb) z) fun b o _ e => s.keep b o e (fun z => z)⟩
/-- an object of ours is written -/
theorem FStep.write {x : Addr → Prop} {F H F' H' : Hp} {p : Addr} {o : HO} (s : FStep x F H F' H') (f : F' p = none) (n : x p ∨ H p = none) : FStep x F H F' (upd H' p o) :=
  ⟨s.ff, fun b u e => by rw [upd_ne (ne_of_none e f)]; exact s.fh b u e, fun b u e hx => by
    have hb : b ≠ p := fun z => by
      subst z
      rcases n with n | n
      · exact hx n
      · rw [n] at e; cases e
    rw [upd_ne hb]
    exact s.keep b u e hx, s.new, fun b e => s.dom b (upd_none e)⟩
/-- an object of ours is frozen -/
theorem FStep.freeze {x : Addr → Prop} {F H F' H' : Hp} {p : Addr} {o : HO} (s : FStep x F H F' H') (e : H' p = some o) (n : H p = none) : FStep x F H (upd F' p o) H' := by
  have f : ∀ b u, F b = some u → b ≠ p → True := fun _ _ _ _ => trivial
  refine ⟨fun b u q => ?_, fun b u q => ?_, s.keep, fun b u q => ?_, s.dom⟩
  · by_cases hb : b = p
    · subst hb
      have := s.fh b u (s.ff b u q)
      rw [e] at this
      cases this
      rw [upd_same]
    · rw [upd_ne hb]
      exact s.ff b u q
  · by_cases hb : b = p
    · subst hb
      rw [upd_same] at q
      cases q
      exact e
    · rw [upd_ne hb] at q
      exact s.fh b u q
  · by_cases hb : b = p
    · subst hb
      exact .inr n
    · rw [upd_ne hb] at q
      exact s.new b u q

/-! ### slots -/
inductive Sl where
  | no | val (d : D) | mu (d : D) | deal | ins (C : Addr) (fs : List (Str × D))
structure DSt where
  sl : List Sl
  dl : Dl := none
def DSt.set (st : DSt) (i : Nat) (s : Sl) : DSt := { st with sl := st.sl.set i s }
def MutRep (K : PySem.W.Frag) (F H : Hp) (p : Addr) : D → Prop
  | .lst ds => ∃ vs, H p = some (.lst vs) ∧ RepL K F vs ds
  | .dK ds => ∃ ks : List (Key × V), H p = some (.dK ks) ∧ ks.map (·.1) = ds.map (·.1) ∧ (∀ k ∈ ds.map (·.1), kOk k = true) ∧ RepL K F (ks.map (·.2)) (ds.map (·.2))
  | .dT ds => ∃ ks : List (List Key × V), H p = some (.dT ks) ∧ ks.map (·.1) = ds.map (·.1) ∧ (∀ l ∈ ds.map (·.1), ∀ k ∈ l, kOk k = true) ∧ RepL K F (ks.map (·.2)) (ds.map (·.2))
  | _ => False
def InsRep (K : PySem.W.Frag) (F H : Hp) (p C : Addr) (fs : List (Str × D)) : Prop :=
  ∃ dx gs, H p = some (.ins C dx gs) ∧ gs.map (·.1) = fs.map (·.1) ∧ RepL K F (gs.map (·.2)) (fs.map (·.2))
/-- an object of ours: not frozen, not the deal, younger than the entry -/
structure Own (H0 F : Hp) (dl : Dl) (p : Addr) : Prop where
  f : F p = none
  h0 : H0 p = none
  d : ¬ isDl dl p
def SlOk (K : PySem.W.Frag) (H0 F H : Hp) (dl : Dl) (o : Option (Option V)) : Sl → Prop
  | .no => True
  | .val d => ∃ v, o = some (some v) ∧ Rep K F v d
  | .mu d => ∃ p, o = some (some (.ref p)) ∧ Own H0 F dl p ∧ MutRep K F H p d
  | .deal => ∃ a b, dl = some (a, b) ∧ o = some (some (.ref a))
  | .ins C fs => ∃ p, o = some (some (.ref p)) ∧ F p = none ∧ ¬ isDl dl p ∧ InsRep K F H p C fs
def Sl.own : Sl → Bool
  | .mu _ => true
  | .ins _ _ => true
  | _ => false
structure SOk (K : PySem.W.Frag) (H0 F H : Hp) (σ : L2.St) (st : DSt) : Prop where
  fh : Same F H
  dl : DlOk st.dl F H
  len : σ.length = st.sl.length
  sl : ∀ (i : Nat) (s : Sl), st.sl[i]? = some s → SlOk K H0 F H st.dl (σ[i]?) s
  sep : ∀ (i j : Nat) (s t : Sl) (p : Addr), i ≠ j → st.sl[i]? = some s → st.sl[j]? = some t → s.own = true → t.own = true → σ[i]? = some (some (.ref p)) → σ[j]? = some (some (.ref p)) → False
section
variable {K : PySem.W.Frag} {H0 F H F' H' : Hp} {σ : L2.St} {st : DSt}
theorem MutRep.step {dl : Dl} {p : Addr} {d : D} (s : Step dl F H F' H') (n : ¬ isDl dl p) (h : MutRep K F H p d) : MutRep K F' H' p d := by
  cases d with
  | lst ds => obtain ⟨vs, e, r⟩ := h; exact ⟨vs, s.keep _ _ e n, r.same s.ff⟩
  | dK ds => obtain ⟨ks, e, q, z, r⟩ := h; exact ⟨ks, s.keep _ _ e n, q, z, r.same s.ff⟩
  | dT ds => obtain ⟨ks, e, q, z, r⟩ := h; exact ⟨ks, s.keep _ _ e n, q, z, r.same s.ff⟩
  | _ => exact h.elim
theorem MutRep.dom {p : Addr} {d : D} (h : MutRep K F H p d) : ∃ o, H p = some o := by
  cases d with
  | lst ds => obtain ⟨vs, e, r⟩ := h; exact ⟨_, e⟩
  | dK ds => obtain ⟨ks, e, q, r⟩ := h; exact ⟨_, e⟩
  | dT ds => obtain ⟨ks, e, q, r⟩ := h; exact ⟨_, e⟩
  | _ => exact h.elim
theorem SlOk.step {dl : Dl} {o : Option (Option V)} {s : Sl} (t : Step dl F H F' H') (h : SlOk K H0 F H dl o s) : SlOk K H0 F' H' dl o s := by
  cases s with
  | no => trivial
  | val d => obtain ⟨v, e, r⟩ := h; exact ⟨v, e, r.same t.ff⟩
  | mu d =>
    obtain ⟨p, e, ow, r⟩ := h
    obtain ⟨u, z⟩ := r.dom
    exact ⟨p, e, ⟨t.toFStep.off ow.f z, ow.h0, ow.d⟩, r.step t ow.d⟩
  | deal => exact h
  | ins C fs =>
    obtain ⟨p, e, f, nd, dx, gs, z, q, r⟩ := h
    exact ⟨p, e, t.toFStep.off f z, nd, dx, gs, t.keep _ _ z nd, q, r.same t.ff⟩
/-- behind an expression -/
theorem SOk.step (h : SOk K H0 F H σ st) (t : Step st.dl F H F' H') : SOk K H0 F' H' σ st :=
  ⟨t.fh, t.deal, h.len, fun i s e => (h.sl i s e).step t, h.sep⟩
theorem SOk.rf (h : SOk K H0 F H σ st) : Step st.dl F H F H := Step.refl h.fh h.dl
/-- a slot stores data -/
theorem SOk.setVal {v : V} {d : D} (h : SOk K H0 F H σ st) (r : Rep K F v d) (i : Nat) : SOk K H0 F H (σ.set i (some v)) (st.set i (.val d)) := by
  refine ⟨h.fh, h.dl, by show (σ.set i _).length = (st.sl.set i _).length; rw [List.length_set, List.length_set]; exact h.len, fun j s e => ?_, fun j l s t p hjl e1 e2 o1 o2 q1 q2 => ?_⟩
  · have e' : (st.sl.set i (.val d))[j]? = some s := e
    by_cases hj : i = j
    · subst hj
      by_cases hi : i < st.sl.length
      · rw [List.getElem?_set_self hi] at e'
        cases e'
        have hi' : i < σ.length := by rw [h.len]; exact hi
        exact ⟨v, by rw [List.getElem?_set_self hi'], r⟩
      · rw [List.getElem?_eq_none (by rw [List.length_set]; omega)] at e'
        cases e'
    · rw [List.getElem?_set_ne hj] at e'
      have := h.sl j s e'
      show SlOk K H0 F H st.dl ((σ.set i (some v))[j]?) s
      rw [List.getElem?_set_ne hj]
      exact this
  · have e1' : (st.sl.set i (.val d))[j]? = some s := e1
    have e2' : (st.sl.set i (.val d))[l]? = some t := e2
    have hj : i ≠ j := fun z => by
      subst z
      by_cases hi : i < st.sl.length
      · rw [List.getElem?_set_self hi] at e1'
        cases e1'
        cases o1
      · rw [List.getElem?_eq_none (by rw [List.length_set]; omega)] at e1'
        cases e1'
    have hl : i ≠ l := fun z => by
      subst z
      by_cases hi : i < st.sl.length
      · rw [List.getElem?_set_self hi] at e2'
        cases e2'
        cases o2
      · rw [List.getElem?_eq_none (by rw [List.length_set]; omega)] at e2'
        cases e2'
    rw [List.getElem?_set_ne hj] at e1' q1
    rw [List.getElem?_set_ne hl] at e2' q2
    exact h.sep j l s t p hjl e1' e2' o1 o2 q1 q2
end
end DL

/-! DL, part b: what an expression does to data; names, constants, operators, displays, arguments. -/
namespace DL
open PySem PySem.Spec PyProof.Rows L2

/-- an own exception as data: its class, what it keeps -/
structure XD where
  C : Addr
  fs : List (Str × D)
abbrev FE := DSt → (D → Prop) → (XD → Prop) → Prop
abbrev FA := DSt → (List D → Prop) → (XD → Prop) → Prop
abbrev FT := DSt → (Bool → Prop) → (XD → Prop) → Prop
def RepX (K : PySem.W.Frag) (F : Hp) (c : Value) (da : Option Addr) (x : XD) : Prop :=
  c = .ref x.C ∧ ∃ d gs, da = some d ∧ F d = some (.xd gs) ∧ gs.map (·.1) = x.fs.map (·.1) ∧ RepL K F (gs.map (·.2)) (x.fs.map (·.2))
/-- what is wanted of exceptions -/
def XO (K : PySem.W.Frag) (dl : Dl) (E : XK) (F H : Hp) (Ed : XD → Prop) : Prop :=
  ∀ F' H' c da x, Step dl F H F' H' → RepX K F' c da x → Ed x → E c da H'
theorem XO.step {K : PySem.W.Frag} {dl : Dl} {E : XK} {F H F' H' : Hp} {Ed : XD → Prop} (h : XO K dl E F H Ed) (s : Step dl F H F' H') : XO K dl E F' H' Ed :=
  fun _ _ c da x t r q => h _ _ c da x (s.trans t) r q
theorem XO.none {K : PySem.W.Frag} {dl : Dl} {E : XK} {F H : Hp} : XO K dl E F H fun _ => False := fun _ _ _ _ _ _ _ q => q.elim
/-- data that may stand in a slot's own list or dict -/
def RB (K : PySem.W.Frag) (F : Hp) (σ : L2.St) (st : DSt) (v : V) (d : D) : Prop := Rep K F v d ∨ ∃ i : Nat, st.sl[i]? = some (.mu d) ∧ σ[i]? = some (some v)
theorem RB.same {K : PySem.W.Frag} {F F' : Hp} {σ : L2.St} {st : DSt} {v : V} {d : D} (s : Same F F') (h : RB K F σ st v d) : RB K F' σ st v d := h.imp (fun r => r.same s) fun r => r
/-- data as it stands now -/
def RS (K : PySem.W.Frag) (F H : Hp) (v : V) (d : D) : Prop := Rep K F v d ∨ ∃ p, v = .ref p ∧ MutRep K F H p d
theorem RB.rs {K : PySem.W.Frag} {H0 F H : Hp} {σ : L2.St} {st : DSt} {v : V} {d : D} (s : SOk K H0 F H σ st) (h : RB K F σ st v d) : RS K F H v d := by
  rcases h with h | ⟨i, e, q⟩
  · exact .inl h
  · obtain ⟨p, z, _, r⟩ := s.sl i _ e
    rw [q] at z
    exact .inr ⟨p, Option.some.inj (Option.some.inj z), r⟩
inductive All2 {α β : Type} (R : α → β → Prop) : List α → List β → Prop
  | nil : All2 R [] []
  | cons {a : α} {b : β} {as : List α} {bs : List β} : R a b → All2 R as bs → All2 R (a :: as) (b :: bs)
theorem All2.mono {α β : Type} {R S : α → β → Prop} (f : ∀ a b, R a b → S a b) : ∀ {as : List α} {bs : List β}, All2 R as bs → All2 S as bs
  | _, _, .nil => .nil
  | _, _, .cons h t => .cons (f _ _ h) (t.mono f)
theorem All2.repL {K : PySem.W.Frag} {F : Hp} : ∀ {vs : List V} {ds : List D}, All2 (Rep K F) vs ds → RepL K F vs ds
  | _, _, .nil => .nil
  | _, _, .cons h t => .cons h t.repL
abbrev RSL (K : PySem.W.Frag) (F H : Hp) := All2 (RS K F H)
section
variable {K : PySem.W.Frag} {F H : Hp} {v : V}
theorem RS.lst {ds : List D} (s : Same F H) (h : RS K F H v (.lst ds)) : ∃ p vs, v = .ref p ∧ H p = some (.lst vs) ∧ RepL K F vs ds := by
  rcases h with h | ⟨p, e, vs, h, r⟩
  · cases h with
    | lst h r => exact ⟨_, _, rfl, s _ _ h, r⟩
  · exact ⟨p, vs, e, h, r⟩
theorem RS.scr {ns : List Int} (s : Same F H) (h : RS K F H v (.scr ns)) : ∃ p, v = .ref p ∧ SqL K H p (ns.map V.int) := by
  rcases h with h | ⟨p, e, h⟩
  · cases h with
    | scr h => exact ⟨_, rfl, seqL_same s h⟩
  · exact h.elim
theorem RS.obj {C : Addr} {fs : List (Str × D)} (s : Same F H) (h : RS K F H v (.obj C fs)) : ∃ a dx gs, v = .ref a ∧ H a = some (.ins C dx gs) ∧ gs.map (·.1) = fs.map (·.1) ∧ RepL K F (gs.map (·.2)) (fs.map (·.2)) := by
  rcases h with h | ⟨p, e, h⟩
  · cases h with
    | obj h e r => exact ⟨_, _, _, rfl, s _ _ h, e, r⟩
  · exact h.elim
theorem RS.tup {ds : List D} (s : Same F H) (h : RS K F H v (.tup ds)) : ∃ p vs, v = .ref p ∧ SqT K H p vs ∧ RepL K F vs ds := by
  rcases h with h | ⟨p, e, h⟩
  · cases h with
    | tup h r => exact ⟨_, _, rfl, seqT_same s h, r⟩
  · exact h.elim
theorem RS.int {i : Int} (h : RS K F H v (.int i)) : v = .int i := by
  rcases h with h | ⟨p, e, h⟩
  · cases h; rfl
  · exact h.elim
theorem RS.str {i : Str} (h : RS K F H v (.str i)) : v = .str i := by
  rcases h with h | ⟨p, e, h⟩
  · cases h; rfl
  · exact h.elim
theorem RS.bl {i : Bool} (h : RS K F H v (.bl i)) : v = .bl i := by
  rcases h with h | ⟨p, e, h⟩
  · cases h; rfl
  · exact h.elim
theorem RS.non (h : RS K F H v .non) : v = .non := by
  rcases h with h | ⟨p, e, h⟩
  · cases h; rfl
  · exact h.elim
theorem Rep.blI {b : Bool} (h : Rep K F v (.bl b)) : v = .bl b := by cases h; rfl
theorem Rep.intI {b : Int} (h : Rep K F v (.int b)) : v = .int b := by cases h; rfl
theorem Rep.strI {b : Str} (h : Rep K F v (.str b)) : v = .str b := by cases h; rfl
end

/-- what a reading does to data: it yields data that stands still -/
def SemE (K : PySem.W.Frag) (E : XK) (t : TE) (f : FE) : Prop := ∀ (H0 F H : Hp) (σ : L2.St) (st : DSt) (Q : VK) (Qd : D → Prop) (Ed : XD → Prop),
  SOk K H0 F H σ st → XO K st.dl E F H Ed → f st Qd Ed → (∀ F' H' v d, Step st.dl F H F' H' → Rep K F' v d → Qd d → Q v H') → t σ H Q
/-- .. data that is looked at -/
def SemB (K : PySem.W.Frag) (E : XK) (t : TE) (f : FE) : Prop := ∀ (H0 F H : Hp) (σ : L2.St) (st : DSt) (Q : VK) (Qd : D → Prop) (Ed : XD → Prop),
  SOk K H0 F H σ st → XO K st.dl E F H Ed → f st Qd Ed → (∀ F' H' v d, Step st.dl F H F' H' → RB K F' σ st v d → Qd d → Q v H') → t σ H Q
/-- .. a new list or dict, nobody else's -/
def SemF (K : PySem.W.Frag) (E : XK) (t : TE) (f : FE) : Prop := ∀ (H0 F H : Hp) (σ : L2.St) (st : DSt) (Q : VK) (Qd : D → Prop) (Ed : XD → Prop),
  SOk K H0 F H σ st → XO K st.dl E F H Ed → f st Qd Ed → (∀ F' H' p d, Step st.dl F H F' H' → F' p = none → H p = none → MutRep K F' H' p d → Qd d → Q (.ref p) H') → t σ H Q
def SemA (K : PySem.W.Frag) (E : XK) (t : TA) (f : FA) : Prop := ∀ (H0 F H : Hp) (σ : L2.St) (st : DSt) (Q : List V → Hp → Prop) (Qd : List D → Prop) (Ed : XD → Prop),
  SOk K H0 F H σ st → XO K st.dl E F H Ed → f st Qd Ed → (∀ F' H' vs ds, Step st.dl F H F' H' → All2 (Rep K F') vs ds → Qd ds → Q vs H') → t σ H Q
def SemAB (K : PySem.W.Frag) (E : XK) (t : TA) (f : FA) : Prop := ∀ (H0 F H : Hp) (σ : L2.St) (st : DSt) (Q : List V → Hp → Prop) (Qd : List D → Prop) (Ed : XD → Prop),
  SOk K H0 F H σ st → XO K st.dl E F H Ed → f st Qd Ed → (∀ F' H' vs ds, Step st.dl F H F' H' → All2 (RB K F' σ st) vs ds → Qd ds → Q vs H') → t σ H Q
def SemT (K : PySem.W.Frag) (E : XK) (t : TT) (f : FT) : Prop := ∀ (H0 F H : Hp) (σ : L2.St) (st : DSt) (Q : Bool → Hp → Prop) (Qd : Bool → Prop) (Ed : XD → Prop),
  SOk K H0 F H σ st → XO K st.dl E F H Ed → f st Qd Ed → (∀ F' H' b, Step st.dl F H F' H' → Qd b → Q b H') → t σ H Q
/-- the same over a family of contexts, by one reading -/
def ME {ι : Type} (X : ι → Cx) (E : XK) (e : Expr) (f : FE) : Prop := ∃ t, ∀ i, PE (X i) e t ∧ SemE (X i).K E t f
def MB {ι : Type} (X : ι → Cx) (E : XK) (e : Expr) (f : FE) : Prop := ∃ t, ∀ i, PE (X i) e t ∧ SemB (X i).K E t f
def MF {ι : Type} (X : ι → Cx) (E : XK) (e : Expr) (f : FE) : Prop := ∃ t, ∀ i, PE (X i) e t ∧ SemF (X i).K E t f
def MA {ι : Type} (X : ι → Cx) (E : XK) (es : List Expr) (f : FA) : Prop := ∃ t, ∀ i, PA (X i) es t ∧ SemA (X i).K E t f
def MAB {ι : Type} (X : ι → Cx) (E : XK) (es : List Expr) (f : FA) : Prop := ∃ t, ∀ i, PA (X i) es t ∧ SemAB (X i).K E t f
def MT {ι : Type} (X : ι → Cx) (E : XK) (e : Expr) (f : FT) : Prop := ∃ t, ∀ i, PT (X i) e t ∧ SemT (X i).K E t f
def MW {ι : Type} (X : ι → Cx) (E : XK) (e : Expr) (f : FT) : Prop := ∃ t, ∀ i, PW (X i) e t ∧ SemT (X i).K E t f

section
variable {ι : Type} {X : ι → Cx} {K : PySem.W.Frag} {E : XK} {e a b c : Expr} {es : List Expr} {f g fa fb fc : FE} {ff : FA} {pos : Pos} {ta tb tc te : TE} {tt t2 : TT} {tr : TA}
theorem SemE.toB (q : SemE K E te f) : SemB K E te f := fun H0 F H σ st Q Qd Ed s x h k => q H0 F H σ st Q Qd Ed s x h fun F' H' v d a r z => k F' H' v d a (.inl r) z
theorem ME.toB (h : ME X E e f) : MB X E e f := by
  obtain ⟨t, h⟩ := h
  exact ⟨t, fun i => ⟨(h i).1, (h i).2.toB⟩⟩
/-- the new object is frozen -/
theorem SemF.toE (q : SemF K E te f) : SemE K E te f := fun H0 F H σ st Q Qd Ed s x h k => q H0 F H σ st Q Qd Ed s x h fun F' H' p d a fp hp r z => by
  have fr : ∀ o, H' p = some o → Step st.dl F H (upd F' p o) H' := fun o e => ⟨a.toFStep.freeze e hp, a.deal.move (fun b hb => by
    have hbp : b ≠ p := fun z => by
      subst z
      obtain ⟨u, w⟩ := s.dl.dom hb
      rw [hp] at w
      cases w
    rw [upd_ne hbp]
    exact a.deal.off hb) fun b o _ e => e⟩
  have ff : ∀ o, Same F' (upd F' p o) := fun o => Same.upd_new fp
  cases d with
  | lst ds => obtain ⟨vs, e, r⟩ := r; exact k _ _ _ _ (fr _ e) (.lst upd_same (r.same (ff _))) z
  | dK ds => obtain ⟨ks, e, q, y, r⟩ := r; exact k _ _ _ _ (fr _ e) (.dK upd_same q y (r.same (ff _))) z
  | dT ds => obtain ⟨ks, e, q, y, r⟩ := r; exact k _ _ _ _ (fr _ e) (.dT upd_same q y (r.same (ff _))) z
  | _ => exact r.elim
theorem MF.toE (h : MF X E e f) : ME X E e f := by
  obtain ⟨t, h⟩ := h
  exact ⟨t, fun i => ⟨(h i).1, (h i).2.toE⟩⟩

/-! ### names, constants -/
def dVar (i : Nat) : FE := fun st Q _ => match st.sl[i]? with
  | some (.val d) => Q d
  | _ => False
/-- a slot whose own list or dict is looked at -/
def dVarB (i : Nat) : FE := fun st Q _ => match st.sl[i]? with
  | some (.val d) => Q d
  | some (.mu d) => Q d
  | _ => False
def dLit (d : D) : FE := fun _ Q _ => Q d
theorem SemE.var (i : Nat) : SemE K E (tVar i) (dVar i) := fun H0 F H σ st Q Qd Ed s _ h k => by
  unfold dVar at h
  cases q : st.sl[i]? with
  | none => rw [q] at h; exact h.elim
  | some z =>
    rw [q] at h
    cases z with
    | val d =>
      obtain ⟨v, e, r⟩ := s.sl i _ q
      exact ⟨v, e, k F H v d s.rf r h⟩
    | _ => exact h.elim
theorem SemB.var (i : Nat) : SemB K E (tVar i) (dVarB i) := fun H0 F H σ st Q Qd Ed s _ h k => by
  unfold dVarB at h
  cases q : st.sl[i]? with
  | none => rw [q] at h; exact h.elim
  | some z =>
    rw [q] at h
    cases z with
    | val d =>
      obtain ⟨v, e, r⟩ := s.sl i _ q
      exact ⟨v, e, k F H v d s.rf (.inl r) h⟩
    | mu d =>
      obtain ⟨p, e, ow, r⟩ := s.sl i _ q
      exact ⟨_, e, k F H _ d s.rf (.inr ⟨i, q, e⟩) h⟩
    | _ => exact h.elim
theorem me_v (i : Nat) {x : Str} {pos : Pos} (hN : ∀ j, (X j).N[i]? = some x := by intro _; rfl) (hv : ∀ j, Vis (X j).env.scope x := by intro _; first | exact Or.inl rfl | exact Or.inr (Or.inl rfl) | exact Or.inr (Or.inr rfl)) (hd : (x == ("__debug__" : Str)) = false := by decide)
    (hcd : (x == ("__classdict__" : Str)) = false := by decide) : ME X E (.Name x pos) (dVar i) := ⟨_, fun j => ⟨pe_var (hN j) (hv j) hd hcd, SemE.var i⟩⟩
theorem mb_v (i : Nat) {x : Str} {pos : Pos} (hN : ∀ j, (X j).N[i]? = some x := by intro _; rfl) (hv : ∀ j, Vis (X j).env.scope x := by intro _; first | exact Or.inl rfl | exact Or.inr (Or.inl rfl) | exact Or.inr (Or.inr rfl)) (hd : (x == ("__debug__" : Str)) = false := by decide)
    (hcd : (x == ("__classdict__" : Str)) = false := by decide) : MB X E (.Name x pos) (dVarB i) := ⟨_, fun j => ⟨pe_var (hN j) (hv j) hd hcd, SemB.var i⟩⟩
theorem SemE.lit {v : V} {d : D} (r : ∀ F, Rep K F v d) : SemE K E (tC v) (dLit d) := fun H0 F H σ st Q Qd Ed s _ h k => k F H v d s.rf (r F) h
theorem me_int {i : Int} {j pos} : ME X E (.Constant (.int i) j pos) (dLit (.int i)) := ⟨_, fun _ => ⟨pe_int, SemE.lit fun _ => .int i⟩⟩
theorem me_bl {i : Bool} {j pos} : ME X E (.Constant (.bool i) j pos) (dLit (.bl i)) := ⟨_, fun _ => ⟨pe_bl, SemE.lit fun _ => .bl i⟩⟩
theorem me_non {j pos} : ME X E (.Constant .none j pos) (dLit .non) := ⟨_, fun _ => ⟨pe_non, SemE.lit fun _ => .non⟩⟩
theorem me_str {i : Str} {j pos} (h : strOk i = true := by decide +kernel) : ME X E (.Constant (.str i) j pos) (dLit (.str i)) := ⟨_, fun _ => ⟨pe_str, SemE.lit fun _ => .str h⟩⟩
/-- a module's constant -/
theorem me_gint {x : Str} {i : Int} (hm : ∀ j, ∃ t, (X j).mg x = some (.int i t)) (hg : ∀ j, Gl (X j) x := by intro _; rfl) (hdb : (x == ("__debug__" : Str)) = false := by decide) : ME X E (.Name x pos) (dLit (.int i)) :=
  ⟨_, fun j => let ⟨t, q⟩ := hm j; ⟨pe_glob (v := .int i) (hg j) q ⟨t, rfl⟩ hdb, SemE.lit fun _ => .int i⟩⟩
theorem me_gstr {x : Str} {i : Str} (hm : ∀ j, ∃ t, (X j).mg x = some (.str i t)) (h : strOk i = true := by decide +kernel) (hg : ∀ j, Gl (X j) x := by intro _; rfl) (hdb : (x == ("__debug__" : Str)) = false := by decide) : ME X E (.Name x pos) (dLit (.str i)) :=
  ⟨_, fun j => let ⟨t, q⟩ := hm j; ⟨pe_glob (v := .str i) (hg j) q ⟨t, rfl⟩ hdb, SemE.lit fun _ => .str h⟩⟩

/-! ### operators -/
/-- an operator on data: what its reading asks is there -/
def OpD (K : PySem.W.Frag) (r : R2) (g : D → D → (D → Prop) → Prop) : Prop := ∀ (dl : Dl) (F H : Hp) (x y : V) (dx dy : D) (Q : VK) (Qd : D → Prop), Same F H → DlOk dl F H → RS K F H x dx → RS K F H y dy → g dx dy Qd →
  (∀ F' H' v d, Step dl F H F' H' → Rep K F' v d → Qd d → Q v H') → r x y H Q
def UnD (K : PySem.W.Frag) (r : V → Hp → VK → Prop) (g : D → (D → Prop) → Prop) : Prop := ∀ (dl : Dl) (F H : Hp) (x : V) (dx : D) (Q : VK) (Qd : D → Prop), Same F H → DlOk dl F H → RS K F H x dx → g dx Qd →
  (∀ F' H' v d, Step dl F H F' H' → Rep K F' v d → Qd d → Q v H') → r x H Q
def CallD (K : PySem.W.Frag) (r : List V → Hp → VK → Prop) (g : List D → (D → Prop) → Prop) : Prop := ∀ (dl : Dl) (F H : Hp) (xs : List V) (ds : List D) (Q : VK) (Qd : D → Prop), Same F H → DlOk dl F H → RSL K F H xs ds → g ds Qd →
  (∀ F' H' v d, Step dl F H F' H' → Rep K F' v d → Qd d → Q v H') → r xs H Q
/-- .. that make a new list -/
def OpF (K : PySem.W.Frag) (r : R2) (g : D → D → (D → Prop) → Prop) : Prop := ∀ (dl : Dl) (F H : Hp) (x y : V) (dx dy : D) (Q : VK) (Qd : D → Prop), Same F H → DlOk dl F H → RS K F H x dx → RS K F H y dy → g dx dy Qd →
  (∀ F' H' p d, Step dl F H F' H' → F' p = none → H p = none → MutRep K F' H' p d → Qd d → Q (.ref p) H') → r x y H Q
def CallF (K : PySem.W.Frag) (r : List V → Hp → VK → Prop) (g : List D → (D → Prop) → Prop) : Prop := ∀ (dl : Dl) (F H : Hp) (xs : List V) (ds : List D) (Q : VK) (Qd : D → Prop), Same F H → DlOk dl F H → RSL K F H xs ds → g ds Qd →
  (∀ F' H' p d, Step dl F H F' H' → F' p = none → H p = none → MutRep K F' H' p d → Qd d → Q (.ref p) H') → r xs H Q
def dOp (g : D → D → (D → Prop) → Prop) (fa fb : FE) : FE := fun st Q E => fa st (fun x => fb st (fun y => g x y Q) E) E
def dUn (g : D → (D → Prop) → Prop) (fa : FE) : FE := fun st Q E => fa st (fun x => g x Q) E
def dCB (g : List D → (D → Prop) → Prop) (ff : FA) : FE := fun st Q E => ff st (fun xs => g xs Q) E
theorem SemE.op {r : R2} {g : D → D → (D → Prop) → Prop} (hg : OpD K r g) (qa : SemB K E ta fa) (qb : SemB K E tb fb) : SemE K E (tOp r ta tb) (dOp g fa fb) := by
  intro H0 F H σ st Q Qd Ed s x h k
  refine qa H0 F H σ st _ _ Ed s x h fun F1 H1 v1 d1 s1 r1 h1 => ?_
  refine qb H0 F1 H1 σ st _ _ Ed (s.step s1) (x.step s1) h1 fun F2 H2 v2 d2 s2 r2 h2 => ?_
  have k2 := (s.step s1).step s2
  exact hg st.dl F2 H2 v1 v2 d1 d2 Q Qd k2.fh k2.dl ((r1.same s2.ff).rs k2) (r2.rs k2) h2 fun F3 H3 v d s3 r3 h3 => k F3 H3 v d ((s1.trans s2).trans s3) r3 h3
theorem Step.hn {dl : Dl} {F H F' H' : Hp} (s : Step dl F H F' H') {p : Addr} (e : H' p = none) : H p = none := s.dom p e
theorem SemF.op {r : R2} {g : D → D → (D → Prop) → Prop} (hg : OpF K r g) (qa : SemB K E ta fa) (qb : SemB K E tb fb) : SemF K E (tOp r ta tb) (dOp g fa fb) := by
  intro H0 F H σ st Q Qd Ed s x h k
  refine qa H0 F H σ st _ _ Ed s x h fun F1 H1 v1 d1 s1 r1 h1 => ?_
  refine qb H0 F1 H1 σ st _ _ Ed (s.step s1) (x.step s1) h1 fun F2 H2 v2 d2 s2 r2 h2 => ?_
  have k2 := (s.step s1).step s2
  exact hg st.dl F2 H2 v1 v2 d1 d2 Q Qd k2.fh k2.dl ((r1.same s2.ff).rs k2) (r2.rs k2) h2 fun F3 H3 p d s3 fp hp r3 h3 => k F3 H3 p d ((s1.trans s2).trans s3) fp ((s1.trans s2).hn hp) r3 h3
theorem me_op {op : Operator} {r : R2} {g : D → D → (D → Prop) → Prop} (ho : ∀ i, OpR (X i) (binaryOp op) r) (hg : ∀ i, OpD (X i).K r g) (ha : MB X E a fa) (hb : MB X E b fb) : ME X E (.BinOp a op b pos) (dOp g fa fb) := by
  obtain ⟨ta, ha⟩ := ha
  obtain ⟨tb, hb⟩ := hb
  exact ⟨_, fun i => ⟨pe_op (ho i) (ha i).1 (hb i).1, SemE.op (hg i) (ha i).2 (hb i).2⟩⟩
theorem mf_op {op : Operator} {r : R2} {g : D → D → (D → Prop) → Prop} (ho : ∀ i, OpR (X i) (binaryOp op) r) (hg : ∀ i, OpF (X i).K r g) (ha : MB X E a fa) (hb : MB X E b fb) : MF X E (.BinOp a op b pos) (dOp g fa fb) := by
  obtain ⟨ta, ha⟩ := ha
  obtain ⟨tb, hb⟩ := hb
  exact ⟨_, fun i => ⟨pe_op (ho i) (ha i).1 (hb i).1, SemF.op (hg i) (ha i).2 (hb i).2⟩⟩
theorem me_cmp {op : CmpOp} {r : R2} {g : D → D → (D → Prop) → Prop} (ho : ∀ i, OpR (X i) (compareOp op) r) (hg : ∀ i, OpD (X i).K r g) (ha : MB X E a fa) (hb : MB X E b fb) (hm : behindInMarks op b = false := by rfl) : ME X E (.Compare a [op] [b] pos) (dOp g fa fb) := by
  obtain ⟨ta, ha⟩ := ha
  obtain ⟨tb, hb⟩ := hb
  exact ⟨_, fun i => ⟨pe_cmpR (ho i) (ha i).1 (hb i).1 hm, SemE.op (hg i) (ha i).2 (hb i).2⟩⟩
/-- a < b < c -/
def dChain (g g' : D → D → (D → Prop) → Prop) (fa fb fc : FE) : FE := fun st Q E => fa st (fun x => fb st (fun y => g x y fun z => match z with
  | .bl k => if k = true then fc st (fun w => g' y w Q) E else Q (.bl false)
  | _ => False) E) E
theorem SemE.chain {r r' : R2} {g g' : D → D → (D → Prop) → Prop} (hg : OpD K r g) (hg' : OpD K r' g') (qa : SemB K E ta fa) (qb : SemB K E tb fb) (qc : SemB K E tc fc) : SemE K E (tChain r r' ta tb tc) (dChain g g' fa fb fc) := by
  intro H0 F H σ st Q Qd Ed s x h k
  refine qa H0 F H σ st _ _ Ed s x h fun F1 H1 v1 d1 s1 r1 h1 => ?_
  refine qb H0 F1 H1 σ st _ _ Ed (s.step s1) (x.step s1) h1 fun F2 H2 v2 d2 s2 r2 h2 => ?_
  have k2 := (s.step s1).step s2
  refine hg st.dl F2 H2 v1 v2 d1 d2 _ _ k2.fh k2.dl ((r1.same s2.ff).rs k2) (r2.rs k2) h2 fun F3 H3 v d s3 r3 h3 => ?_
  cases d with
  | bl q =>
    have e := r3.blI
    subst e
    refine ⟨q, rfl, ?_⟩
    have k3 := k2.step s3
    have s03 := (s1.trans s2).trans s3
    cases q with
    | true =>
      refine iteT (qc H0 F3 H3 σ st _ _ Ed k3 (x.step s03) h3 fun F4 H4 v4 d4 s4 r4 h4 => ?_)
      have k4 := k3.step s4
      exact hg' st.dl F4 H4 v2 v4 d2 d4 Q Qd k4.fh k4.dl ((r2.same (s3.trans s4).ff).rs k4) (r4.rs k4) h4 fun F5 H5 v5 d5 s5 r5 h5 => k F5 H5 v5 d5 ((s03.trans s4).trans s5) r5 h5
    | false =>
      exact iteF (k F3 H3 _ _ s03 (.bl false) h3)
  | _ => exact h3.elim
theorem me_chain {op op' : CmpOp} {r r' : R2} {g g' : D → D → (D → Prop) → Prop} (ho : ∀ i, OpR (X i) (compareOp op) r) (hg : ∀ i, OpD (X i).K r g) (ho' : ∀ i, OpR (X i) (compareOp op') r') (hg' : ∀ i, OpD (X i).K r' g') (ha : MB X E a fa) (hb : MB X E b fb) (hc : MB X E c fc)
    (hm : lastMarks [op, op'] [b, c] = false := by with_unfolding_all rfl) : ME X E (.Compare a [op, op'] [b, c] pos) (dChain g g' fa fb fc) := by
  obtain ⟨ta, ha⟩ := ha
  obtain ⟨tb, hb⟩ := hb
  obtain ⟨tc, hc⟩ := hc
  exact ⟨_, fun i => ⟨pe_chain (ho i) (ho' i) (ha i).1 (hb i).1 (hc i).1 hm, SemE.chain (hg i) (hg' i) (ha i).2 (hb i).2 (hc i).2⟩⟩
theorem SemE.un {r : V → Hp → VK → Prop} {g : D → (D → Prop) → Prop} (hg : UnD K r g) (qa : SemB K E ta fa) : SemE K E (tUn r ta) (dUn g fa) := by
  intro H0 F H σ st Q Qd Ed s x h k
  refine qa H0 F H σ st _ _ Ed s x h fun F1 H1 v1 d1 s1 r1 h1 => ?_
  have k1 := s.step s1
  exact hg st.dl F1 H1 v1 d1 Q Qd k1.fh k1.dl (r1.rs k1) h1 fun F3 H3 v d s3 r3 h3 => k F3 H3 v d (s1.trans s3) r3 h3
theorem me_un {op : UnaryOp} {r : V → Hp → VK → Prop} {g : D → (D → Prop) → Prop} (ho : ∀ i, UnR (X i) (unaryOp op) r) (hg : ∀ i, UnD (X i).K r g) (ha : MB X E a fa) : ME X E (.UnaryOp op a pos) (dUn g fa) := by
  obtain ⟨ta, ha⟩ := ha
  exact ⟨_, fun i => ⟨pe_un (ho i) (ha i).1, SemE.un (hg i) (ha i).2⟩⟩
theorem me_ix {r : R2} {g : D → D → (D → Prop) → Prop} (ho : ∀ i, IxR (X i) r) (hg : ∀ i, OpD (X i).K r g) (ha : MB X E a fa) (hb : MB X E b fb) (hs : PlainIx b := by intro _ _; rfl) : ME X E (.Subscript a b pos) (dOp g fa fb) := by
  obtain ⟨ta, ha⟩ := ha
  obtain ⟨tb, hb⟩ := hb
  exact ⟨_, fun i => ⟨pe_ix (ho i) (ha i).1 (hb i).1 hs, SemE.op (hg i) (ha i).2 (hb i).2⟩⟩

/-! ### arguments, displays -/
def dNil : FA := fun _ Q _ => Q []
def dCons (fa : FE) (ff : FA) : FA := fun st Q E => fa st (fun x => ff st (fun xs => Q (x :: xs)) E) E
theorem ma_nil : MA X E [] dNil := ⟨_, fun i => ⟨pa_nil, fun H0 F H σ st Q Qd Ed s _ h k => k F H [] [] s.rf .nil h⟩⟩
theorem mab_nil : MAB X E [] dNil := ⟨_, fun i => ⟨pa_nil, fun H0 F H σ st Q Qd Ed s _ h k => k F H [] [] s.rf .nil h⟩⟩
theorem ma_cons (ha : ME X E e f) (hr : MA X E es ff) (hs : ∀ i, starEach (e :: es) (X i).env = (false, eval e (X i).env) :: starEach es (X i).env := by intro _; rfl) : MA X E (e :: es) (dCons f ff) := by
  obtain ⟨ta, ha⟩ := ha
  obtain ⟨tb, hb⟩ := hr
  refine ⟨_, fun i => ⟨pa_cons (ha i).1 (hb i).1 (hs i), fun H0 F H σ st Q Qd Ed s x h k => ?_⟩⟩
  refine (ha i).2 H0 F H σ st _ _ Ed s x h fun F1 H1 v1 d1 s1 r1 h1 => ?_
  refine (hb i).2 H0 F1 H1 σ st _ _ Ed (s.step s1) (x.step s1) h1 fun F2 H2 v2 d2 s2 r2 h2 => ?_
  exact k F2 H2 _ _ (s1.trans s2) (.cons (r1.same s2.ff) r2) h2
theorem mab_cons (ha : MB X E e f) (hr : MAB X E es ff) (hs : ∀ i, starEach (e :: es) (X i).env = (false, eval e (X i).env) :: starEach es (X i).env := by intro _; rfl) : MAB X E (e :: es) (dCons f ff) := by
  obtain ⟨ta, ha⟩ := ha
  obtain ⟨tb, hb⟩ := hr
  refine ⟨_, fun i => ⟨pa_cons (ha i).1 (hb i).1 (hs i), fun H0 F H σ st Q Qd Ed s x h k => ?_⟩⟩
  refine (ha i).2 H0 F H σ st _ _ Ed s x h fun F1 H1 v1 d1 s1 r1 h1 => ?_
  refine (hb i).2 H0 F1 H1 σ st _ _ Ed (s.step s1) (x.step s1) h1 fun F2 H2 v2 d2 s2 r2 h2 => ?_
  exact k F2 H2 _ _ (s1.trans s2) (.cons (r1.same s2.ff) r2) h2
def dTup (ff : FA) : FE := fun st Q E => ff st (fun xs => xs.length ≤ sizeLine ∧ Q (.tup xs)) E
def dLst (ff : FA) : FE := fun st Q E => ff st (fun xs => xs.length ≤ sizeLine ∧ Q (.lst xs)) E
theorem me_tup {x1} (h : MA X E es ff) : ME X E (.Tuple es x1 pos) (dTup ff) := by
  obtain ⟨t, h⟩ := h
  refine ⟨_, fun i => ⟨pe_tup (h i).1, fun H0 F H σ st Q Qd Ed s x hh k => ?_⟩⟩
  refine (h i).2 H0 F H σ st _ _ Ed s x hh fun F1 H1 vs ds s1 r1 h1 => ?_
  have k1 := s.step s1
  refine ⟨by rw [r1.repL.length]; exact h1.1, fun a na => ?_⟩
  have s2 : Step st.dl F1 H1 (upd F1 a (.tup vs)) (upd H1 a (.tup vs)) := Step.fresh k1.fh k1.dl na
  exact k _ _ _ _ (s1.trans s2) (.tup (SqT.of upd_same) (r1.repL.same s2.ff)) h1.2
theorem mf_lst (h : MA X E es ff) : MF X E (.List es pos) (dLst ff) := by
  obtain ⟨t, h⟩ := h
  refine ⟨_, fun i => ⟨pe_lst (h i).1, fun H0 F H σ st Q Qd Ed s x hh k => ?_⟩⟩
  refine (h i).2 H0 F H σ st _ _ Ed s x hh fun F1 H1 vs ds s1 r1 h1 => ?_
  have k1 := s.step s1
  refine ⟨by rw [r1.repL.length]; exact h1.1, fun a na => ?_⟩
  have s2 : Step st.dl F1 H1 F1 (upd H1 a (.lst vs)) := Step.freshM k1.fh k1.dl na
  exact k _ _ _ (.lst ds) (s1.trans s2) (Same.none k1.fh na) (s1.hn na) ⟨vs, upd_same, r1.repL⟩ h1.2
theorem all2_rs {H0 F H : Hp} {σ : L2.St} {st : DSt} {vs : List V} {ds : List D} (s : SOk K H0 F H σ st) (h : All2 (RB K F σ st) vs ds) : RSL K F H vs ds := h.mono fun _ _ r => r.rs s
theorem SemE.cb {r : List V → Hp → VK → Prop} {g : List D → (D → Prop) → Prop} (hd : CallD K r g) (q : SemAB K E tr ff) : SemE K E (tCB r tr) (dCB g ff) := by
  intro H0 F H σ st Q Qd Ed s x h k
  refine q H0 F H σ st _ _ Ed s x h fun F1 H1 vs ds s1 r1 h1 => ?_
  have k1 := s.step s1
  exact hd st.dl F1 H1 vs ds Q Qd k1.fh k1.dl (all2_rs k1 r1) h1 fun F3 H3 v d s3 r3 h3 => k F3 H3 v d (s1.trans s3) r3 h3
theorem SemF.cb {r : List V → Hp → VK → Prop} {g : List D → (D → Prop) → Prop} (hd : CallF K r g) (q : SemAB K E tr ff) : SemF K E (tCB r tr) (dCB g ff) := by
  intro H0 F H σ st Q Qd Ed s x h k
  refine q H0 F H σ st _ _ Ed s x h fun F1 H1 vs ds s1 r1 h1 => ?_
  have k1 := s.step s1
  exact hd st.dl F1 H1 vs ds Q Qd k1.fh k1.dl (all2_rs k1 r1) h1 fun F3 H3 p d s3 fp hp r3 h3 => k F3 H3 p d (s1.trans s3) fp (s1.hn hp) r3 h3
/-- a built-in function of looked-at arguments -/
theorem me_callB {id : String} {r : List V → Hp → VK → Prop} {g : List D → (D → Prop) → Prop} {x : Str} {p : Pos} (hc : ∀ i, CallR (X i) (.builtin id) r) (hm : ∀ i, (X i).mg x = none) (hv : bootBuiltins x = some (.builtin id)) (hd : ∀ i, CallD (X i).K r g) (ha : MAB X E (e :: es) ff)
    (hg : ∀ i, Gl (X i) x := by intro _; rfl) (hn : x ≠ "__name__" := by decide) (hdb : (x == ("__debug__" : Str)) = false := by decide) (he : ∀ i, starEach (e :: es) (X i).env = (false, eval e (X i).env) :: starEach es (X i).env := by intro _; rfl) (hpl : ∀ i, (backTo pos (starEach es (X i).env)).any (·.1) = false := by intro _; rfl) :
    ME X E (.Call (.Name x p) (e :: es) [] pos) (dCB g ff) := by
  obtain ⟨t, h⟩ := ha
  exact ⟨_, fun i => ⟨pe_callB (hc i) (hg i) (hm i) hv (h i).1 hn hdb (he i) (hpl i), SemE.cb (hd i) (h i).2⟩⟩
theorem mf_callB {id : String} {r : List V → Hp → VK → Prop} {g : List D → (D → Prop) → Prop} {x : Str} {p : Pos} (hc : ∀ i, CallR (X i) (.builtin id) r) (hm : ∀ i, (X i).mg x = none) (hv : bootBuiltins x = some (.builtin id)) (hd : ∀ i, CallF (X i).K r g) (ha : MAB X E (e :: es) ff)
    (hg : ∀ i, Gl (X i) x := by intro _; rfl) (hn : x ≠ "__name__" := by decide) (hdb : (x == ("__debug__" : Str)) = false := by decide) (he : ∀ i, starEach (e :: es) (X i).env = (false, eval e (X i).env) :: starEach es (X i).env := by intro _; rfl) (hpl : ∀ i, (backTo pos (starEach es (X i).env)).any (·.1) = false := by intro _; rfl) :
    MF X E (.Call (.Name x p) (e :: es) [] pos) (dCB g ff) := by
  obtain ⟨t, h⟩ := ha
  exact ⟨_, fun i => ⟨pe_callB (hc i) (hg i) (hm i) hv (h i).1 hn hdb (he i) (hpl i), SemF.cb (hd i) (h i).2⟩⟩
theorem me_callTy {T : String} {r : List V → Hp → VK → Prop} {g : List D → (D → Prop) → Prop} {x : Str} {p : Pos} (hc : ∀ i, CallR (X i) (.type T) r) (hm : ∀ i, (X i).mg x = none) (hv : bootBuiltins x = some (.type T)) (hd : ∀ i, CallD (X i).K r g) (ha : MAB X E (e :: es) ff)
    (hg : ∀ i, Gl (X i) x := by intro _; rfl) (hn : x ≠ "__name__" := by decide) (hdb : (x == ("__debug__" : Str)) = false := by decide) (he : ∀ i, starEach (e :: es) (X i).env = (false, eval e (X i).env) :: starEach es (X i).env := by intro _; rfl) (hpl : ∀ i, (backTo pos (starEach es (X i).env)).any (·.1) = false := by intro _; rfl) :
    ME X E (.Call (.Name x p) (e :: es) [] pos) (dCB g ff) := by
  obtain ⟨t, h⟩ := ha
  exact ⟨_, fun i => ⟨pe_callTy (hc i) (hg i) (hm i) hv (h i).1 hn hdb (he i) (hpl i), SemE.cb (hd i) (h i).2⟩⟩
theorem mf_callTy {T : String} {r : List V → Hp → VK → Prop} {g : List D → (D → Prop) → Prop} {x : Str} {p : Pos} (hc : ∀ i, CallR (X i) (.type T) r) (hm : ∀ i, (X i).mg x = none) (hv : bootBuiltins x = some (.type T)) (hd : ∀ i, CallF (X i).K r g) (ha : MAB X E (e :: es) ff)
    (hg : ∀ i, Gl (X i) x := by intro _; rfl) (hn : x ≠ "__name__" := by decide) (hdb : (x == ("__debug__" : Str)) = false := by decide) (he : ∀ i, starEach (e :: es) (X i).env = (false, eval e (X i).env) :: starEach es (X i).env := by intro _; rfl) (hpl : ∀ i, (backTo pos (starEach es (X i).env)).any (·.1) = false := by intro _; rfl) :
    MF X E (.Call (.Name x p) (e :: es) [] pos) (dCB g ff) := by
  obtain ⟨t, h⟩ := ha
  exact ⟨_, fun i => ⟨pe_callTy (hc i) (hg i) (hm i) hv (h i).1 hn hdb (he i) (hpl i), SemF.cb (hd i) (h i).2⟩⟩

/-! ### tests -/
def dB (f : FE) : FT := fun st Q E => f st (fun d => match d with
  | .bl b => Q b
  | _ => False) E
theorem mt_e (h : ME X E e f) (he : ∀ i, ∀ whole : Sem Value, PySem.isTrue e (X i).env whole = (do
    let v ← whole
    standAt e.pos
    holding [v] (truthy v)) := by intro _ _; rfl) : MT X E e (dB f) := by
  obtain ⟨t, h⟩ := h
  refine ⟨_, fun i => ⟨pt_val (h i).1 (he i), fun H0 F H σ st Q Qd Ed s x hh k => ?_⟩⟩
  refine (h i).2 H0 F H σ st _ _ Ed s x hh fun F1 H1 v d s1 r1 h1 => ?_
  cases d with
  | bl b =>
    have e := r1.blI
    subst e
    exact ⟨b, rfl, k F1 H1 b s1 h1⟩
  | _ => exact h1.elim
def dNotT (f : FT) : FT := fun st Q E => f st (fun b => Q (!b)) E
theorem mt_not {f : FT} (h : MT X E e f) : MT X E (.UnaryOp .Not e pos) (dNotT f) := by
  obtain ⟨t, h⟩ := h
  exact ⟨_, fun i => ⟨pt_not (h i).1, fun H0 F H σ st Q Qd Ed s x hh k => (h i).2 H0 F H σ st _ _ Ed s x hh fun F1 H1 b s1 h1 => k F1 H1 (!b) s1 h1⟩⟩
def dAndT (f g : FT) : FT := fun st Q E => f st (fun b => if b = true then g st Q E else Q false) E
def dOrT (f g : FT) : FT := fun st Q E => f st (fun b => if b = true then Q true else g st Q E) E
theorem mw_and1 {f : FT} {pos : Pos} (h : MT X E e f) : MW X E (.BoolOp .And [e] pos) f := by
  obtain ⟨t, h⟩ := h
  exact ⟨_, fun i => ⟨pw_and1 (h i).1, (h i).2⟩⟩
theorem mw_or1 {f : FT} {pos : Pos} (h : MT X E e f) : MW X E (.BoolOp .Or [e] pos) f := by
  obtain ⟨t, h⟩ := h
  exact ⟨_, fun i => ⟨pw_or1 (h i).1, (h i).2⟩⟩
theorem mw_and {f g : FT} {rest : List Expr} (h : MT X E a f) (h2 : MW X E (.BoolOp .And (b :: rest) pos) g) : MW X E (.BoolOp .And (a :: b :: rest) pos) (dAndT f g) := by
  obtain ⟨t, h⟩ := h
  obtain ⟨t2, h2⟩ := h2
  refine ⟨_, fun i => ⟨pw_and (h i).1 (h2 i).1, fun H0 F H σ st Q Qd Ed s x hh k => ?_⟩⟩
  refine (h i).2 H0 F H σ st _ _ Ed s x hh fun F1 H1 b s1 h1 => ?_
  cases b with
  | true => exact iteT ((h2 i).2 H0 F1 H1 σ st _ _ Ed (s.step s1) (x.step s1) h1 fun F2 H2 b s2 h2 => k F2 H2 b (s1.trans s2) h2)
  | false => exact iteF (k F1 H1 false s1 h1)
theorem mw_or {f g : FT} {rest : List Expr} (h : MT X E a f) (h2 : MW X E (.BoolOp .Or (b :: rest) pos) g) : MW X E (.BoolOp .Or (a :: b :: rest) pos) (dOrT f g) := by
  obtain ⟨t, h⟩ := h
  obtain ⟨t2, h2⟩ := h2
  refine ⟨_, fun i => ⟨pw_or (h i).1 (h2 i).1, fun H0 F H σ st Q Qd Ed s x hh k => ?_⟩⟩
  refine (h i).2 H0 F H σ st _ _ Ed s x hh fun F1 H1 b s1 h1 => ?_
  cases b with
  | true => exact iteT (k F1 H1 true s1 h1)
  | false => exact iteF ((h2 i).2 H0 F1 H1 σ st _ _ Ed (s.step s1) (x.step s1) h1 fun F2 H2 b s2 h2 => k F2 H2 b (s1.trans s2) h2)
theorem MW.mt {f : FT} (h : MW X E e f) : MT X E e f := by
  obtain ⟨t, h⟩ := h
  exact ⟨t, fun i => ⟨(h i).1.pt, (h i).2⟩⟩
/-- and, or, not as values -/
def dAndV (f g : FE) : FE := fun st Q E => f st (fun x => match x with
  | .bl k => if k = true then g st Q E else Q (.bl false)
  | _ => False) E
def dOrV (f g : FE) : FE := fun st Q E => f st (fun x => match x with
  | .bl k => if k = true then Q (.bl true) else g st Q E
  | _ => False) E
def dNotV (f : FE) : FE := fun st Q E => f st (fun x => match x with
  | .bl k => Q (.bl (!k))
  | _ => False) E
theorem me_one {op : BoolOp} (h : ME X E a f) : ME X E (.BoolOp op [a] pos) f := by
  obtain ⟨t, h⟩ := h
  exact ⟨_, fun i => ⟨pe_one (h i).1, (h i).2⟩⟩
theorem me_and {rest : List Expr} (h : ME X E a f) (h2 : ME X E (.BoolOp .And (b :: rest) pos) g) : ME X E (.BoolOp .And (a :: b :: rest) pos) (dAndV f g) := by
  obtain ⟨t, h⟩ := h
  obtain ⟨t2, h2⟩ := h2
  refine ⟨_, fun i => ⟨pe_and (h i).1 (h2 i).1, fun H0 F H σ st Q Qd Ed s x hh k => ?_⟩⟩
  refine (h i).2 H0 F H σ st _ _ Ed s x hh fun F1 H1 v d s1 r1 h1 => ?_
  cases d with
  | bl b =>
    have e := r1.blI
    subst e
    refine ⟨b, rfl, ?_⟩
    cases b with
    | true => exact iteT ((h2 i).2 H0 F1 H1 σ st _ _ Ed (s.step s1) (x.step s1) h1 fun F2 H2 v d s2 r2 h2 => k F2 H2 v d (s1.trans s2) r2 h2)
    | false => exact iteF (k F1 H1 _ _ s1 (.bl false) h1)
  | _ => exact h1.elim
theorem me_or {rest : List Expr} (h : ME X E a f) (h2 : ME X E (.BoolOp .Or (b :: rest) pos) g) : ME X E (.BoolOp .Or (a :: b :: rest) pos) (dOrV f g) := by
  obtain ⟨t, h⟩ := h
  obtain ⟨t2, h2⟩ := h2
  refine ⟨_, fun i => ⟨pe_or (h i).1 (h2 i).1, fun H0 F H σ st Q Qd Ed s x hh k => ?_⟩⟩
  refine (h i).2 H0 F H σ st _ _ Ed s x hh fun F1 H1 v d s1 r1 h1 => ?_
  cases d with
  | bl b =>
    have e := r1.blI
    subst e
    refine ⟨b, rfl, ?_⟩
    cases b with
    | true => exact iteT (k F1 H1 _ _ s1 (.bl true) h1)
    | false => exact iteF ((h2 i).2 H0 F1 H1 σ st _ _ Ed (s.step s1) (x.step s1) h1 fun F2 H2 v d s2 r2 h2 => k F2 H2 v d (s1.trans s2) r2 h2)
  | _ => exact h1.elim
theorem me_not (h : ME X E a f) : ME X E (.UnaryOp .Not a pos) (dNotV f) := by
  obtain ⟨t, h⟩ := h
  refine ⟨_, fun i => ⟨pe_not (h i).1, fun H0 F H σ st Q Qd Ed s x hh k => ?_⟩⟩
  refine (h i).2 H0 F H σ st _ _ Ed s x hh fun F1 H1 v d s1 r1 h1 => ?_
  cases d with
  | bl b =>
    have e := r1.blI
    subst e
    exact ⟨b, rfl, k F1 H1 _ _ s1 (.bl (!b)) h1⟩
  | _ => exact h1.elim
def dIf (t : FT) (f g : FE) : FE := fun st Q E => t st (fun b => if b = true then f st Q E else g st Q E) E
theorem me_if {t : FT} (h : MT X E c t) (ha : ME X E a fa) (hb : ME X E b fb) : ME X E (.IfExp c a b pos) (dIf t fa fb) := by
  obtain ⟨tt, h⟩ := h
  obtain ⟨ta, ha⟩ := ha
  obtain ⟨tb, hb⟩ := hb
  refine ⟨_, fun i => ⟨pe_ifExp (h i).1 (ha i).1 (hb i).1, fun H0 F H σ st Q Qd Ed s x hh k => ?_⟩⟩
  refine (h i).2 H0 F H σ st _ _ Ed s x hh fun F1 H1 b s1 h1 => ?_
  cases b with
  | true => exact iteT ((ha i).2 H0 F1 H1 σ st _ _ Ed (s.step s1) (x.step s1) h1 fun F2 H2 v d s2 r2 h2 => k F2 H2 v d (s1.trans s2) r2 h2)
  | false => exact iteF ((hb i).2 H0 F1 H1 σ st _ _ Ed (s.step s1) (x.step s1) h1 fun F2 H2 v d s2 r2 h2 => k F2 H2 v d (s1.trans s2) r2 h2)
theorem mb_if {t : FT} (h : MT X E c t) (ha : MB X E a fa) (hb : MB X E b fb) : MB X E (.IfExp c a b pos) (dIf t fa fb) := by
  obtain ⟨tt, h⟩ := h
  obtain ⟨ta, ha⟩ := ha
  obtain ⟨tb, hb⟩ := hb
  refine ⟨_, fun i => ⟨pe_ifExp (h i).1 (ha i).1 (hb i).1, fun H0 F H σ st Q Qd Ed s x hh k => ?_⟩⟩
  refine (h i).2 H0 F H σ st _ _ Ed s x hh fun F1 H1 b s1 h1 => ?_
  cases b with
  | true => exact iteT ((ha i).2 H0 F1 H1 σ st _ _ Ed (s.step s1) (x.step s1) h1 fun F2 H2 v d s2 r2 h2 => k F2 H2 v d (s1.trans s2) r2 h2)
  | false => exact iteF ((hb i).2 H0 F1 H1 σ st _ _ Ed (s.step s1) (x.step s1) h1 fun F2 H2 v d s2 r2 h2 => k F2 H2 v d (s1.trans s2) r2 h2)
theorem rep_lookup {K : PySem.W.Frag} {F : Hp} {n : Str} : ∀ {gs : List (Str × V)} {fs : List (Str × D)} {d : D}, gs.map (·.1) = fs.map (·.1) → RepL K F (gs.map (·.2)) (fs.map (·.2)) → fs.lookup n = some d → ∃ v, gs.lookup n = some v ∧ Rep K F v d
  | [], [], _, _, _, h => by cases h
  | [], _ :: _, _, e, _, _ => by cases e
  | _ :: _, [], _, e, _, _ => by cases e
  | (x, v) :: gs, (y, z) :: fs, d, e, r, h => by
    rw [List.map_cons, List.map_cons] at e
    injection e with e1 e2
    have e1' : x = y := e1
    subst e1'
    cases r with
    | cons r1 r2 =>
      rw [List.lookup_cons] at h ⊢
      cases q : (n == x) with
      | true =>
        rw [q] at h
        cases h
        exact ⟨v, rfl, r1⟩
      | false =>
        rw [q] at h
        exact rep_lookup e2 r2 h
/-- an attribute of an object -/
def dFldC (C : Addr) (n : Str) (f : FE) : FE := fun st Q E => f st (fun d => match d with
  | .obj C' fs => C' = C ∧ (match fs.lookup n with
    | some z => Q z
    | none => False)
  | _ => False) E
theorem me_fld {C : Addr} {n : Str} {K : PySem.W.Frag} (h : ME X E e f) (hc : Cls K C) (hn : NoAttr K C n) (hK : ∀ i, (X i).K = K := by intro _; rfl) (hb : ∀ i, attributeBase e n (X i).env (eval e (X i).env) = eval e (X i).env := by intro _; rfl) :
    ME X E (.Attribute e n pos) (dFldC C n f) := by
  obtain ⟨t, h⟩ := h
  refine ⟨tFld K t n, fun i => ?_⟩
  have hi := hK i
  subst hi
  refine ⟨pe_fld (h i).1 (hb i), fun H0 F H σ st Q Qd Ed s x hh k => ?_⟩
  refine (h i).2 H0 F H σ st _ _ Ed s x hh fun F1 H1 v d s1 r1 h1 => ?_
  cases d with
  | obj C' fs =>
    obtain ⟨e, h1⟩ := h1
    subst e
    cases r1 with
    | obj ha hm hr =>
      cases q : fs.lookup n with
      | none => rw [q] at h1; exact h1.elim
      | some z =>
        rw [q] at h1
        obtain ⟨v, hv, rv⟩ := rep_lookup hm hr q
        exact ⟨_, _, _, _, v, rfl, s1.fh _ _ ha, hc, hn, hv, k F1 H1 v z s1 rv h1⟩
  | _ => exact h1.elim
end
end DL

/-! DL, part c: targets, what is walked, comprehensions. -/
namespace DL
open PySem PySem.Spec PyProof.Rows L2

/-! ### targets -/
abbrev FG := D → DSt → (DSt → Prop) → Prop
abbrev FGs := List D → DSt → (DSt → Prop) → Prop
/-- only these slots were stored -/
structure Off (ts : List Nat) (σ σ' : L2.St) (st st' : DSt) : Prop where
  s : ∀ j, j ∉ ts → σ'[j]? = σ[j]?
  d : ∀ j, j ∉ ts → st'.sl[j]? = st.sl[j]?
  l : σ'.length = σ.length
  dl : st'.dl = st.dl
  nv : ∀ j ∈ ts, ∀ C fs, st'.sl[j]? ≠ some (.ins C fs)
theorem Off.refl {σ : L2.St} {st : DSt} : Off [] σ σ st st := ⟨fun _ _ => rfl, fun _ _ => rfl, rfl, rfl, fun _ h => nomatch h⟩
theorem Off.trans {ts us : List Nat} {σ σ' σ'' : L2.St} {st st' st'' : DSt} (a : Off ts σ σ' st st') (b : Off us σ' σ'' st' st'') : Off (ts ++ us) σ σ'' st st'' :=
  ⟨fun j h => (b.s j fun z => h (List.mem_append_right _ z)).trans (a.s j fun z => h (List.mem_append_left _ z)), fun j h => (b.d j fun z => h (List.mem_append_right _ z)).trans (a.d j fun z => h (List.mem_append_left _ z)), b.l.trans a.l, b.dl.trans a.dl, fun j h => by
    by_cases hj : j ∈ us
    · exact b.nv j hj
    · intro C fs
      rw [b.d j hj]
      exact a.nv j ((List.mem_append.mp h).resolve_right hj) C fs⟩
def SemG (K : PySem.W.Frag) (ts : List Nat) (g : TG) (f : FG) : Prop := ∀ (H0 F H : Hp) (σ : L2.St) (st : DSt) (v : V) (d : D) (Q : L2.St → Hp → Prop) (Qd : DSt → Prop),
  SOk K H0 F H σ st → Rep K F v d → f d st Qd → (∀ σ' st', SOk K H0 F H σ' st' → Off ts σ σ' st st' → Qd st' → Q σ' H) → g v σ H Q
def SemGs (K : PySem.W.Frag) (ts : List Nat) (g : TGs) (f : FGs) : Prop := ∀ (H0 F H : Hp) (σ : L2.St) (st : DSt) (vs : List V) (ds : List D) (Q : L2.St → Hp → Prop) (Qd : DSt → Prop),
  SOk K H0 F H σ st → RepL K F vs ds → f ds st Qd → (∀ σ' st', SOk K H0 F H σ' st' → Off ts σ σ' st st' → Qd st' → Q σ' H) → g vs σ H Q
/-- a target: stores leave other slots as they are -/
def MG {ι : Type} (X : ι → Cx) (tg : Expr) (ts : List Nat) (f : FG) : Prop := ∃ g, ∀ i, PG (X i) tg g ∧ SemG (X i).K ts g f
def MGs {ι : Type} (X : ι → Cx) (tgs : List Expr) (ts : List Nat) (f : FGs) : Prop := ∃ g, ∀ i, PGs (X i) tgs g ∧ SemGs (X i).K ts g f
def gdName (i : Nat) : FG := fun d st Q => Q (st.set i (.val d))
def gdNil : FGs := fun ds st Q => match ds with
  | [] => Q st
  | _ => False
def gdCons (g : FG) (gs : FGs) : FGs := fun ds st Q => match ds with
  | d :: r => g d st fun st' => gs r st' Q
  | [] => False
def gdTup (g : FGs) : FG := fun d st Q => match d with
  | .tup ds => g ds st Q
  | _ => False
section
variable {ι : Type} {X : ι → Cx} {pos : Pos} {K : PySem.W.Frag}
theorem mg_name (i : Nat) {x : Str} (hi : ∀ j, (X j).N[i]? = some x := by intro _; rfl) (hN : ∀ j, (X j).N.Nodup) (hx : ∀ j, Loc (X j).env.scope x := by intro _; first | exact Or.inl rfl | exact Or.inr rfl)
    (hf : ∀ j, (X j).fn x = true ∨ (X j).env.scope.names.lookup x = some .local := by intro _; first | exact .inl rfl | exact .inr rfl) : MG X (.Name x pos) [i] (gdName i) :=
  ⟨_, fun j => ⟨pg_name (hN j) (hi j) (hx j) (hf j), fun H0 F H σ st v d Q Qd s r h k => k _ _ (s.setVal r i) ⟨fun l hl => by
    have hne : i ≠ l := fun z => hl (by simp [z])
    rw [List.getElem?_set_ne hne], fun l hl => by
    have hne : i ≠ l := fun z => hl (by simp [z])
    show (st.sl.set i _)[l]? = _
    rw [List.getElem?_set_ne hne], List.length_set, rfl, fun l hl C fs => by
    have e : l = i := by simpa using hl
    subst e
    show (st.sl.set l _)[l]? ≠ _
    by_cases hb : l < st.sl.length
    · rw [List.getElem?_set_self hb]
      intro z
      cases z
    · rw [List.getElem?_eq_none (by rw [List.length_set]; omega)]
      intro z
      cases z⟩ h⟩⟩
theorem mgs_nil : MGs X [] [] gdNil := ⟨_, fun j => ⟨pgs_nil, fun H0 F H σ st vs ds Q Qd s r h k => by
  cases r with
  | nil => exact ⟨rfl, k _ _ s Off.refl h⟩
  | cons _ _ => exact h.elim⟩⟩
theorem mgs_cons {e : Expr} {es : List Expr} {ts us : List Nat} {f : FG} {fs : FGs} (h1 : MG X e ts f) (h2 : MGs X es us fs) (hs : ∀ j, (assignEach (e :: es) (X j).env).map (·.2) = assign e (X j).env :: (assignEach es (X j).env).map (·.2) := by intro _; rfl) : MGs X (e :: es) (ts ++ us) (gdCons f fs) := by
  obtain ⟨g, h1⟩ := h1
  obtain ⟨gs, h2⟩ := h2
  refine ⟨_, fun j => ⟨pgs_cons (h1 j).1 (h2 j).1 (hs j), fun H0 F H σ st vs ds Q Qd s r h k => ?_⟩⟩
  cases r with
  | nil => exact h.elim
  | cons r1 r2 => exact ⟨_, _, rfl, (h1 j).2 H0 F H σ st _ _ _ _ s r1 h fun σ1 st1 s1 o1 h1 => (h2 j).2 H0 F H σ1 st1 _ _ _ _ s1 r2 h1 fun σ2 st2 s2 o2 h2 => k σ2 st2 s2 (o1.trans o2) h2⟩
theorem mg_tup {es : List Expr} {k : Nat} {ts : List Nat} {fs : FGs} {n : Nat} (h : MGs X es ts fs) (hlen : ∀ ds st Q, fs ds st Q → ds.length = n) (hK : ∀ i, (X i).K = K := by intro _; rfl) (hc : ∀ i, (X i).calm = true := by intro _; rfl)
    (hn : ∀ i, (assignEach es (X i).env).length = n := by intro _; rfl) (hst : ∀ i, (assignEach es (X i).env).findIdx? (·.1) = none := by intro _; rfl) : MG X (.Tuple es k pos) ts (gdTup fs) := by
  obtain ⟨g, h⟩ := h
  refine ⟨gTup K n g, fun j => ?_⟩
  have hi := hK j
  subst hi
  refine ⟨pg_tup (hc j) (h j).1 (hn j) (hst j), fun H0 F H σ st v d Q Qd s r hh k => ?_⟩
  cases d with
  | tup ds =>
    cases r with
    | tup ha hr => exact ⟨_, _, rfl, seqT_same s.fh ha, hr.length.trans (hlen _ _ _ hh), (h j).2 H0 F H σ st _ _ _ _ s hr hh k⟩
  | _ => exact hh.elim
theorem gd_len0 : ∀ ds st Q, gdNil ds st Q → ds.length = 0 := fun ds st Q h => by
  cases ds with
  | nil => rfl
  | cons _ _ => exact h.elim
theorem gd_lenS {g : FG} {gs : FGs} {n : Nat} (mono : ∀ d st Q, g d st Q → ∃ st', Q st') (h : ∀ ds st Q, gs ds st Q → ds.length = n) : ∀ ds st Q, gdCons g gs ds st Q → ds.length = n + 1 := fun ds st Q hh => by
  cases ds with
  | nil => exact hh.elim
  | cons d r =>
    obtain ⟨st', q⟩ := mono d st _ hh
    rw [List.length_cons, h r st' Q q]
theorem gd_monoN {i : Nat} : ∀ d st Q, gdName i d st Q → ∃ st', Q st' := fun d st Q h => ⟨_, h⟩
theorem gd_mono0 : ∀ ds st Q, gdNil ds st Q → ∃ st', Q st' := fun ds st Q h => by
  cases ds with
  | nil => exact ⟨st, h⟩
  | cons _ _ => exact h.elim
theorem gd_monoS {g : FG} {gs : FGs} (m1 : ∀ d st Q, g d st Q → ∃ st', Q st') (m2 : ∀ ds st Q, gs ds st Q → ∃ st', Q st') : ∀ ds st Q, gdCons g gs ds st Q → ∃ st', Q st' := fun ds st Q h => by
  cases ds with
  | nil => exact h.elim
  | cons d r =>
    obtain ⟨st', q⟩ := m1 d st _ h
    exact m2 r st' Q q
theorem gd_monoT {gs : FGs} (m2 : ∀ ds st Q, gs ds st Q → ∃ st', Q st') : ∀ d st Q, gdTup gs d st Q → ∃ st', Q st' := fun d st Q h => by
  cases d with
  | tup ds => exact m2 ds st Q h
  | _ => exact h.elim
end

/-! ### what is walked -/
/-- at each turn the next of ds comes, whatever was made meanwhile (dl: only the deal may change) -/
structure ItB (K : PySem.W.Frag) (J : It) (dl : Dl) (F H : Hp) (ds : List D) : Prop where
  go : ∀ i d F' H', Step dl F H F' H' → ds[i]? = some d → J.go i H' ∧ ∀ x H'', J.yld i H' x H'' → ∃ F'', Step dl F' H' F'' H'' ∧ Rep K F'' x d
  stop : ∀ F' H', Step dl F H F' H' → J.stop ds.length H'
/-- .. whatever was changed but what is frozen -/
structure ItS (K : PySem.W.Frag) (J : It) (F : Hp) (ds : List D) : Prop where
  go : ∀ (dl : Dl) i d F' H', Same F F' → Same F' H' → DlOk dl F' H' → ds[i]? = some d → J.go i H' ∧ ∀ x H'', J.yld i H' x H'' → ∃ F'', Step dl F' H' F'' H'' ∧ Rep K F'' x d
  stop : ∀ F' H', Same F F' → Same F' H' → J.stop ds.length H'
theorem ItS.toB {K : PySem.W.Frag} {J : It} {F : Hp} {ds : List D} (h : ItS K J F ds) (dl : Dl) (H : Hp) : ItB K J dl F H ds :=
  ⟨fun i d F' H' s e => h.go dl i d F' H' s.ff s.fh s.deal e, fun F' H' s => h.stop F' H' s.ff s.fh⟩
abbrev FI := DSt → (List D → Prop) → (XD → Prop) → Prop
def SemI (K : PySem.W.Frag) (E : XK) (wi : TI) (f : FI) : Prop := ∀ (H0 F H : Hp) (σ : L2.St) (st : DSt) (R : It → Hp → Prop) (Qd : List D → Prop) (Ed : XD → Prop),
  SOk K H0 F H σ st → XO K st.dl E F H Ed → f st Qd Ed → (∀ F' H' J ds, Step st.dl F H F' H' → ItS K J F' ds → ds.length ≤ sizeLine → Qd ds → R J H') → wi σ H R
def SemIB (K : PySem.W.Frag) (E : XK) (wi : TI) (f : FI) : Prop := ∀ (H0 F H : Hp) (σ : L2.St) (st : DSt) (R : It → Hp → Prop) (Qd : List D → Prop) (Ed : XD → Prop),
  SOk K H0 F H σ st → XO K st.dl E F H Ed → f st Qd Ed → (∀ F' H' J ds, Step st.dl F H F' H' → ItB K J st.dl F' H' ds → ds.length ≤ sizeLine → Qd ds → R J H') → wi σ H R
def MI {ι : Type} (X : ι → Cx) (E : XK) (tg iter : Expr) (f : FI) : Prop := ∃ wi, ∀ i, PI (X i) tg iter wi ∧ SemI (X i).K E wi f
def MIB {ι : Type} (X : ι → Cx) (E : XK) (tg iter : Expr) (f : FI) : Prop := ∃ wi, ∀ i, PI (X i) tg iter wi ∧ SemIB (X i).K E wi f
/-- lists and tuples have a largest size -/
def Sz (K : PySem.W.Frag) (H : Hp) : Prop := ∀ a xs, SqL K H a xs ∨ SqT K H a xs → xs.length ≤ sizeLine
theorem sz_of_inv {X : Cx} {pins : List (Addr × Obj)} {σ : L2.St} {H : Hp} {s : Shared} (I : Inv X pins σ H s) : Sz X.K H := fun a xs h => by
  rcases h with h | h
  · obtain ⟨_, _, _, z⟩ := I.list h
    exact z
  · obtain ⟨_, _, _, z⟩ := I.tuple h
    exact z
theorem pi_sz {X : Cx} {tg iter : Expr} {wi : TI} (h : PI X tg iter wi) : PI X tg iter (fun σ H R => wi σ H fun J H1 => Sz X.K H1 → R J H1) := by
  refine ⟨fun pins s σ H R I hw => thn (h.run pins s σ H _ I hw) fun v s1 q => thn q fun itv s2 q2 => ?_⟩
  obtain ⟨it, fp, tn, J, H', e, I2, T, t0, fo, r⟩ := q2
  exact ⟨it, fp, tn, J, H', e, I2, T, t0, fo, r (sz_of_inv I2)⟩
section
variable {ι : Type} {X : ι → Cx} {K : PySem.W.Frag} {E : XK} {tg e iter : Expr} {f : FE} {ff : FA} {pos p : Pos}
theorem SemI.toB {wi : TI} {f : FI} (q : SemI K E wi f) : SemIB K E wi f := fun H0 F H σ st R Qd Ed s x h k => q H0 F H σ st R Qd Ed s x h fun F' H' J ds s1 it z hq => k F' H' J ds s1 (it.toB _ _) z hq
theorem MI.toB {f : FI} (h : MI X E tg iter f) : MIB X E tg iter f := by
  obtain ⟨wi, h⟩ := h
  exact ⟨wi, fun i => ⟨(h i).1, (h i).2.toB⟩⟩
def iL (f : FE) : FI := fun st Q E => f st (fun d => match d with
  | .lst ds => Q ds
  | _ => False) E
def iT (f : FE) : FI := fun st Q E => f st (fun d => match d with
  | .tup ds => Q ds
  | _ => False) E
def sgn (c : Nat) : D := .str ⟨#[c]⟩
def iS (f : FE) : FI := fun st Q E => f st (fun d => match d with
  | .str x => x.length ≤ sizeLine ∧ Q (x.cps.toList.map sgn)
  | _ => False) E
theorem its_list {a : Addr} {vs : List V} {F : Hp} {ds : List D} (h : SqL K F a vs) (r : RepL K F vs ds) : ItS K (Itl K a) F ds := by
  refine ⟨fun dl i d F' H' s1 s2 dk e => ?_, fun F' H' s1 s2 => ⟨vs, seqL_same (s1.trans s2) h, Nat.le_of_eq r.length⟩⟩
  obtain ⟨v, ev, rv⟩ := r.get e
  refine ⟨⟨vs, v, seqL_same (s1.trans s2) h, ev⟩, fun x H'' y => ?_⟩
  obtain ⟨e1, y⟩ := y
  subst e1
  have e2 := y vs (seqL_same (s1.trans s2) h)
  rw [ev] at e2
  cases e2
  exact ⟨F', Step.refl s2 dk, rv.same s1⟩
theorem its_tup {a : Addr} {vs : List V} {F : Hp} {ds : List D} (h : SqT K F a vs) (r : RepL K F vs ds) : ItS K (Itt K a) F ds := by
  refine ⟨fun dl i d F' H' s1 s2 dk e => ?_, fun F' H' s1 s2 => ⟨vs, seqT_same (s1.trans s2) h, Nat.le_of_eq r.length⟩⟩
  obtain ⟨v, ev, rv⟩ := r.get e
  refine ⟨⟨vs, v, seqT_same (s1.trans s2) h, ev⟩, fun x H'' y => ?_⟩
  obtain ⟨e1, y⟩ := y
  subst e1
  have e2 := y vs (seqT_same (s1.trans s2) h)
  rw [ev] at e2
  cases e2
  exact ⟨F', Step.refl s2 dk, rv.same s1⟩
theorem sgn_ok {z : Str} (h : strOk z = true) {c : Nat} (hc : c ∈ z.cps.toList) : strOk ⟨#[c]⟩ = true := by
  have h' : z.cps.all (· < 0x110000) = true := h
  rw [Array.all_eq_true'] at h'
  have q := h' c (by simpa using hc)
  show (#[c] : Array Nat).all (· < 0x110000) = true
  simpa using q
theorem its_str {z : Str} {F : Hp} (hz : strOk z = true) : ItS K (Its z) F (z.cps.toList.map sgn) := by
  refine ⟨fun dl i d F' H' s1 s2 dk e => ?_, fun F' H' s1 s2 => by show z.cps.size ≤ _; rw [List.length_map, Array.length_toList]; exact Nat.le_refl _⟩
  rw [List.getElem?_map] at e
  have hi : i < z.cps.size := by
    cases q : z.cps.toList[i]? with
    | none => rw [q] at e; cases e
    | some c => have := (List.getElem?_eq_some_iff.mp q).1; rwa [Array.length_toList] at this
  refine ⟨hi, fun x H'' y => ?_⟩
  obtain ⟨e1, c, hc, ex⟩ := y
  subst e1 ex
  have hm : c ∈ z.cps.toList := by rw [← Array.getElem?_toList] at hc; exact List.mem_of_getElem? hc
  rw [Array.getElem?_toList, hc] at e
  cases e
  exact ⟨F', Step.refl s2 dk, .str (sgn_ok hz hm)⟩
def rngD (lo : Int) (n : Nat) : List D := (List.range n).map fun (i : Nat) => .int (lo + (i : Int))
theorem its_range {lo : Int} {n : Nat} {F : Hp} : ItS K (Itr lo n) F (rngD lo n) := by
  refine ⟨fun dl i d F' H' s1 s2 dk e => ?_, fun F' H' s1 s2 => by show n ≤ _; unfold rngD; rw [List.length_map, List.length_range]; exact Nat.le_refl _⟩
  unfold rngD at e
  rw [List.getElem?_map] at e
  have hi : i < n := by
    cases q : (List.range n)[i]? with
    | none => rw [q] at e; cases e
    | some c => have := (List.getElem?_eq_some_iff.mp q).1; rwa [List.length_range] at this
  rw [List.getElem?_range hi] at e
  cases e
  refine ⟨hi, fun x H'' y => ?_⟩
  obtain ⟨e1, ex⟩ := y
  subst e1 ex
  exact ⟨F', Step.refl s2 dk, .int _⟩
theorem mi_list (h : ME X E iter f) (hK : ∀ i, (X i).K = K := by intro _; rfl) : MI X E tg iter (iL f) := by
  obtain ⟨t, h⟩ := h
  refine ⟨fun σ H R => iList K t σ H fun J H1 => Sz K H1 → R J H1, fun i => ?_⟩
  have hi := hK i
  subst hi
  refine ⟨pi_sz (pi_list (h i).1), fun H0 F H σ st R Qd Ed s x hh k => ?_⟩
  refine (h i).2 H0 F H σ st _ _ Ed s x hh fun F1 H1 v d s1 r1 h1 => ?_
  cases d with
  | lst ds =>
    cases r1 with
    | lst ha hr => exact ⟨_, rfl, ⟨_, SqL.of (s1.fh _ _ ha)⟩, fun z => k F1 H1 _ ds s1 (its_list (SqL.of ha) hr) (by rw [← hr.length]; exact z _ _ (.inl (SqL.of (s1.fh _ _ ha)))) h1⟩
  | _ => exact h1.elim
theorem mi_tup (h : ME X E iter f) (hK : ∀ i, (X i).K = K := by intro _; rfl) : MI X E tg iter (iT f) := by
  obtain ⟨t, h⟩ := h
  refine ⟨fun σ H R => iTup K t σ H fun J H1 => Sz K H1 → R J H1, fun i => ?_⟩
  have hi := hK i
  subst hi
  refine ⟨pi_sz (pi_tup (h i).1), fun H0 F H σ st R Qd Ed s x hh k => ?_⟩
  refine (h i).2 H0 F H σ st _ _ Ed s x hh fun F1 H1 v d s1 r1 h1 => ?_
  cases d with
  | tup ds =>
    cases r1 with
    | tup ha hr => exact ⟨_, rfl, ⟨_, seqT_same s1.fh ha⟩, fun z => k F1 H1 _ ds s1 (its_tup ha hr) (by rw [← hr.length]; exact z _ _ (.inr (seqT_same s1.fh ha))) h1⟩
  | _ => exact h1.elim
/-- a list that may be a slot's own -/
theorem mib_list (h : MB X E iter f) (hK : ∀ i, (X i).K = K := by intro _; rfl) : MIB X E tg iter (iL f) := by
  obtain ⟨t, h⟩ := h
  refine ⟨fun σ H R => iList K t σ H fun J H1 => Sz K H1 → R J H1, fun i => ?_⟩
  have hi := hK i
  subst hi
  refine ⟨pi_sz (pi_list (h i).1), fun H0 F H σ st R Qd Ed s x hh k => ?_⟩
  refine (h i).2 H0 F H σ st _ _ Ed s x hh fun F1 H1 v d s1 r1 h1 => ?_
  have k1 := s.step s1
  cases d with
  | lst ds =>
    rcases r1 with r1 | ⟨j, ej, qj⟩
    · cases r1 with
      | lst ha hr => exact ⟨_, rfl, ⟨_, SqL.of (s1.fh _ _ ha)⟩, fun z => k F1 H1 _ ds s1 ((its_list (SqL.of ha) hr).toB _ _) (by rw [← hr.length]; exact z _ _ (.inl (SqL.of (s1.fh _ _ ha)))) h1⟩
    · obtain ⟨a, eo, ow, vs, ha, hr⟩ := k1.sl j _ ej
      rw [qj] at eo
      cases eo
      refine ⟨a, rfl, ⟨vs, SqL.of ha⟩, fun z => k F1 H1 _ ds s1 ⟨fun i' d F' H' s2 e => ?_, fun F' H' s2 => ⟨vs, SqL.of (s2.keep _ _ ha ow.d), Nat.le_of_eq hr.length⟩⟩ (by rw [← hr.length]; exact z _ _ (.inl (SqL.of ha))) h1⟩
      obtain ⟨v, ev, rv⟩ := hr.get e
      have hq : SqL (X i).K H' a vs := SqL.of (s2.keep _ _ ha ow.d)
      refine ⟨⟨vs, v, hq, ev⟩, fun x H'' y => ?_⟩
      obtain ⟨e1, y⟩ := y
      subst e1
      have e2 := y vs hq
      rw [ev] at e2
      cases e2
      exact ⟨F', Step.refl s2.fh s2.deal, rv.same s2.ff⟩
  | _ => exact h1.elim
theorem mi_str (h : ME X E iter f) : MI X E tg iter (iS f) := by
  obtain ⟨t, h⟩ := h
  refine ⟨iStr t, fun i => ⟨pi_str (h i).1, fun H0 F H σ st R Qd Ed s x hh k => ?_⟩⟩
  refine (h i).2 H0 F H σ st _ _ Ed s x hh fun F1 H1 v d s1 r1 h1 => ?_
  cases d with
  | str z =>
    obtain ⟨hz, h1⟩ := h1
    cases r1
    rename_i hok
    exact ⟨z, rfl, k F1 H1 _ _ s1 (its_str hok) (by rw [List.length_map, Array.length_toList]; exact hz) h1⟩
  | _ => exact h1.elim
def iR1 (ff : FA) : FI := fun st Q E => ff st (fun ds => match ds with
  | [.int n] => n ≤ 16777216 ∧ -16777216 ≤ n ∧ Q (rngD 0 n.toNat)
  | _ => False) E
def iR2 (ff : FA) : FI := fun st Q E => ff st (fun ds => match ds with
  | [.int m, .int n] => n ≤ 8388608 ∧ -8388608 ≤ n ∧ m ≤ 8388608 ∧ -8388608 ≤ m ∧ Q (rngD m (n - m).toNat)
  | _ => False) E
theorem mi_range1 {a : Expr} (h : MAB X E [a] ff) (hm : ∀ i, (X i).mg "range" = none) (hg : ∀ i, Gl (X i) "range" := by intro _; rfl)
    (hs : ∀ i, starEach [a] (X i).env = [(false, eval a (X i).env)] := by intro _; rfl) : MI X E tg (.Call (.Name "range" p) [a] [] pos) (iR1 ff) := by
  obtain ⟨t, h⟩ := h
  refine ⟨_, fun i => ⟨pi_range1 (hg i) (hm i) (h i).1 (hs i), fun H0 F H σ st R Qd Ed s x hh k => ?_⟩⟩
  refine (h i).2 H0 F H σ st _ _ Ed s x hh fun F1 H1 vs ds s1 r1 h1 => ?_
  have k1 := s.step s1
  have r2 := all2_rs k1 r1
  match ds, r2, h1 with
  | [.int n], .cons q .nil, h1 =>
    have e1 := q.int
    subst e1
    exact ⟨n, rfl, by omega, by omega, k F1 H1 _ _ s1 its_range (by unfold rngD sizeLine; rw [List.length_map, List.length_range]; omega) h1.2.2⟩
theorem mi_range2 {a b : Expr} (h : MAB X E [a, b] ff) (hm : ∀ i, (X i).mg "range" = none) (hg : ∀ i, Gl (X i) "range" := by intro _; rfl)
    (hs : ∀ i, starEach [a, b] (X i).env = [(false, eval a (X i).env), (false, eval b (X i).env)] := by intro _; rfl) (hs2 : ∀ i, starEach [b] (X i).env = [(false, eval b (X i).env)] := by intro _; rfl) : MI X E tg (.Call (.Name "range" p) [a, b] [] pos) (iR2 ff) := by
  obtain ⟨t, h⟩ := h
  refine ⟨_, fun i => ⟨pi_range2 (hg i) (hm i) (h i).1 (hs i) (hs2 i), fun H0 F H σ st R Qd Ed s x hh k => ?_⟩⟩
  refine (h i).2 H0 F H σ st _ _ Ed s x hh fun F1 H1 vs ds s1 r1 h1 => ?_
  have k1 := s.step s1
  have r2 := all2_rs k1 r1
  match ds, r2, h1 with
  | [.int m, .int n], .cons q (.cons q' .nil), h1 =>
    have e1 := q.int
    have e2 := q'.int
    subst e1 e2
    exact ⟨m, n, rfl, ⟨by omega, by omega, by omega, by omega⟩, k F1 H1 _ _ s1 its_range (by unfold rngD sizeLine; rw [List.length_map, List.length_range]; omega) h1.2.2.2.2⟩
end

/-! ### comprehensions -/
structure BlkI where
  s : Shared
  H : Hp
  C : Addr
  cl : List (Str × Addr)
  fp : List Addr
def blk0 : BlkI := ⟨{}, fun _ => none, 0, [], []⟩
/-- the family of a comprehension's blocks -/
def blkX {ι : Type} (X : ι → Cx) (scope : Scope) : ι × BlkI → Cx := fun q => (X q.1).blk q.2.s q.2.H scope (compEnvC scope q.2.cl q.2.C (X q.1).env) q.2.fp
def wipeD (st : DSt) : List Nat → DSt
  | [] => st
  | v :: vs => (wipeD st vs).set v .no
/-- none of these slots holds an object of its own -/
def okw (st : DSt) (vs : List Nat) : Bool := vs.all fun v => match st.sl[v]? with
  | some s => !s.own
  | none => true
theorem wipe_out {σ : L2.St} {j : Nat} : ∀ {vs : List Nat}, j ∉ vs → (wipe σ vs)[j]? = σ[j]?
  | [], _ => rfl
  | v :: vs, h => by
    unfold wipe
    have hne : v ≠ j := fun z => h (by simp [z])
    rw [List.getElem?_set_ne hne]
    exact wipe_out fun z => h (List.mem_cons_of_mem _ z)
theorem wipe_at {σ : L2.St} {j : Nat} : ∀ {vs : List Nat}, j ∈ vs → j < σ.length → (wipe σ vs)[j]? = some none
  | [], h, _ => by cases h
  | v :: vs, h, hl => by
    unfold wipe
    by_cases hv : v = j
    · subst hv
      rw [List.getElem?_set_self (by rw [wipe_length]; exact hl)]
    · rw [List.getElem?_set_ne hv]
      exact wipe_at ((List.mem_cons.mp h).resolve_left fun z => hv z.symm) hl
theorem wipeD_dl {st : DSt} : ∀ {vs : List Nat}, (wipeD st vs).dl = st.dl
  | [] => rfl
  | v :: vs => by
    show (wipeD st vs).dl = _
    exact wipeD_dl
theorem wipeD_len {st : DSt} : ∀ {vs : List Nat}, (wipeD st vs).sl.length = st.sl.length
  | [] => rfl
  | v :: vs => by
    show ((wipeD st vs).sl.set v .no).length = _
    rw [List.length_set]
    exact wipeD_len
theorem wipeD_out {st : DSt} {j : Nat} : ∀ {vs : List Nat}, j ∉ vs → (wipeD st vs).sl[j]? = st.sl[j]?
  | [], _ => rfl
  | v :: vs, h => by
    show ((wipeD st vs).sl.set v .no)[j]? = _
    have hne : v ≠ j := fun z => h (by simp [z])
    rw [List.getElem?_set_ne hne]
    exact wipeD_out fun z => h (List.mem_cons_of_mem _ z)
theorem wipeD_at {st : DSt} {j : Nat} : ∀ {vs : List Nat}, j ∈ vs → j < st.sl.length → (wipeD st vs).sl[j]? = some .no
  | [], h, _ => by cases h
  | v :: vs, h, hl => by
    show ((wipeD st vs).sl.set v .no)[j]? = _
    by_cases hv : v = j
    · subst hv
      rw [List.getElem?_set_self (by rw [wipeD_len]; exact hl)]
    · rw [List.getElem?_set_ne hv]
      exact wipeD_at ((List.mem_cons.mp h).resolve_left fun z => hv z.symm) hl
theorem wipe_eq {σ σ2 : L2.St} {vs : List Nat} (hl : σ2.length = σ.length) (h : ∀ j, j ∉ vs → σ2[j]? = σ[j]?) : wipe σ2 vs = wipe σ vs := by
  apply List.ext_getElem?
  intro j
  by_cases hj : j ∈ vs
  · by_cases hlt : j < σ.length
    · rw [wipe_at hj hlt, wipe_at hj (by rw [hl]; exact hlt)]
    · rw [List.getElem?_eq_none (by rw [wipe_length]; omega), List.getElem?_eq_none (by rw [wipe_length]; omega)]
  · rw [wipe_out hj, wipe_out hj, h j hj]
theorem SOk.wipe {K : PySem.W.Frag} {H0 F H : Hp} {σ : L2.St} {st : DSt} (s : SOk K H0 F H σ st) (vs : List Nat) : SOk K H0 F H (L2.wipe σ vs) (wipeD st vs) := by
  have lk : ∀ (j : Nat) (z : Sl), (wipeD st vs).sl[j]? = some z → z = .no ∨ (j ∉ vs ∧ st.sl[j]? = some z) := fun j z e => by
    by_cases hj : j ∈ vs
    · by_cases hl : j < st.sl.length
      · rw [wipeD_at hj hl] at e
        cases e
        exact .inl rfl
      · rw [List.getElem?_eq_none (by rw [wipeD_len]; omega)] at e
        cases e
    · rw [wipeD_out hj] at e
      exact .inr ⟨hj, e⟩
  refine ⟨s.fh, by rw [wipeD_dl]; exact s.dl, by rw [wipe_length, wipeD_len]; exact s.len, fun j z e => ?_, fun i j y z p hij e1 e2 o1 o2 q1 q2 => ?_⟩
  · rcases lk j z e with h | ⟨hj, h⟩
    · subst h
      trivial
    · rw [wipeD_dl, wipe_out hj]
      exact s.sl j z h
  · rcases lk i y e1 with h | ⟨hi, h⟩
    · subst h
      cases o1
    · rcases lk j z e2 with h' | ⟨hj, h'⟩
      · subst h'
        cases o2
      · rw [wipe_out hi] at q1
        rw [wipe_out hj] at q2
        exact s.sep i j y z p hij h h' o1 o2 q1 q2
def SemTs (K : PySem.W.Frag) (E : XK) (t : TT) (f : FT) : Prop := SemT K E t f
def MTs {ι : Type} (X : ι → Cx) (E : XK) (ifs : List Expr) (f : FT) : Prop := ∃ t, ∀ i, PTs (X i) ifs t ∧ SemT (X i).K E t f
def dYes : FT := fun _ Q _ => Q true
theorem mts_nil {ι : Type} {X : ι → Cx} {E : XK} : MTs X E [] dYes := ⟨_, fun i => ⟨pts_nil, fun H0 F H σ st Q Qd Ed s x h k => k F H true s.rf h⟩⟩
theorem mts_one {ι : Type} {X : ι → Cx} {E : XK} {c : Expr} {f : FT} (h : MT X E c f) : MTs X E [c] f := by
  obtain ⟨t, h⟩ := h
  exact ⟨t, fun i => ⟨pts_one (h i).1, (h i).2⟩⟩
def lcGo (g : FG) (ft : FT) (fe : FE) (st : DSt) : List D → (List D → Prop) → Prop
  | [], Q => Q []
  | d :: ds, Q => g d st fun st1 => ft st1 (fun b => if b = true then fe st1 (fun y => lcGo g ft fe st ds fun ys => Q (y :: ys)) (fun _ => False) else lcGo g ft fe st ds Q) fun _ => False
def dLc (fi : FI) (g : FG) (ft : FT) (fe : FE) (vs : List Nat) : FE := fun st Q E => fi st (fun ds => lcGo g ft fe (wipeD st vs) ds fun ys => Q (.lst ys)) E
theorem SemF.lc {K : PySem.W.Frag} {E : XK} {wi : TI} {fi : FI} {gg : TG} {g : FG} {tt : TT} {ft : FT} {te : TE} {fe : FE} {vs ts : List Nat} (qi : SemIB K E wi fi) (qg : SemG K ts gg g) (qt : SemT K E0 tt ft) (qe : SemE K E0 te fe) (hts : ∀ j ∈ ts, j ∈ vs) :
    SemF K E (tLc wi gg tt te vs) (dLc fi g ft fe vs) := by
  intro H0 F H σ st Q Qd Ed s x h k
  refine qi H0 F H σ st _ _ Ed s x h fun F1 H1 J ds s1 it hz h1 => ?_
  intro A hA
  have k1 := s.step s1
  refine ⟨fun i m H => m = ds.length - i ∧ i ≤ ds.length ∧ ∃ F' acc accD, Step st.dl F1 H1 F' H ∧ F' A = none ∧ H A = some (.lst acc) ∧ RepL K F' acc accD ∧ accD.length ≤ i ∧ lcGo g ft fe (wipeD st vs) (ds.drop i) (fun ys => Qd (.lst (accD ++ ys))),
    ⟨ds.length, rfl, Nat.zero_le _, F1, [], [], Step.freshM k1.fh k1.dl hA, Same.none k1.fh hA, upd_same, .nil, Nat.le_refl _, h1⟩, ?_⟩
  rintro i m H2 ⟨rfl, hi, F2, acc, accD, s2, fA, eA, rA, lA, h2⟩
  by_cases hlt : i < ds.length
  · right
    have ed : ds[i]? = some ds[i] := List.getElem?_eq_getElem hlt
    have dd : ds.drop i = ds[i] :: ds.drop (i + 1) := List.drop_eq_getElem_cons hlt
    rw [dd] at h2
    obtain ⟨go, yl⟩ := it.go i _ F2 H2 s2 ed
    refine ⟨go, fun H' => i + 1 ≤ ds.length ∧ ∃ F' acc accD, Step st.dl F1 H1 F' H' ∧ F' A = none ∧ H' A = some (.lst acc) ∧ RepL K F' acc accD ∧ accD.length ≤ i + 1 ∧ lcGo g ft fe (wipeD st vs) (ds.drop (i + 1)) (fun ys => Qd (.lst (accD ++ ys))),
      fun H' hN => ⟨ds.length - (i + 1), by omega, rfl, hN.1, hN.2⟩, fun y H3 hy => ?_⟩
    obtain ⟨F3, s3, r3⟩ := yl y H3 hy
    have s13 := s2.trans s3
    have nA : ¬ isDl st.dl A := fun z => by
      obtain ⟨o, q⟩ := k1.dl.dom z
      rw [hA] at q
      cases q
    have k3 := (k1.step s13).wipe vs
    refine qg H0 F3 H3 _ _ _ _ _ _ k3 r3 h2 fun σ4 st4 k4 o4 h4 => ?_
    have dl4 : st4.dl = st.dl := o4.dl.trans wipeD_dl
    refine ⟨?_, ?_⟩
    · have e1 : L2.wipe σ4 vs = L2.wipe (L2.wipe σ vs) vs := wipe_eq o4.l fun j hj => o4.s j fun z => hj (hts j z)
      rw [e1]
      exact wipe_eq (by rw [wipe_length]) fun j hj => wipe_out hj
    refine qt H0 F3 H3 σ4 st4 _ _ _ k4 XO.none h4 fun F5 H5 b s5 h5 => ?_
    rw [dl4] at s5
    have k5 : SOk K H0 F5 H5 σ4 st4 := k4.step (by rw [dl4]; exact s5)
    have e5 : ∀ {H' : Hp} {F' : Hp}, Step st.dl F2 H2 F' H' → H' A = some (.lst acc) ∧ F' A = none := fun {H' F'} z => ⟨z.keep _ _ eA nA, z.toFStep.off fA eA⟩
    cases b with
    | false =>
      have s15 := s3.trans s5
      refine iteF ⟨hlt, F5, acc, accD, s2.trans s15, (e5 s15).2, (e5 s15).1, rA.same s15.ff, by omega, h5⟩
    | true =>
      refine iteT (qe H0 F5 H5 σ4 st4 _ _ _ k5 XO.none h5 fun F6 H6 v d s6 r6 h6 => ?_)
      rw [dl4] at s6
      have s16 := (s3.trans s5).trans s6
      have q6 := e5 s16
      refine ⟨acc, q6.1, by rw [rA.length]; omega, hlt, F6, acc ++ [v], accD ++ [d], ?_, q6.2, upd_same, (rA.same s16.ff).app (.cons r6 .nil), by rw [List.length_append]; simp; omega, ?_⟩
      · have z := s2.trans s16
        refine ⟨z.toFStep.write q6.2 (.inr hA), z.deal.move (fun b hb => z.deal.off hb) fun b o hb e => ?_⟩
        have hne : b ≠ A := fun w => by
          subst w
          exact nA hb
        rw [upd_ne hne]
        exact e
      · have ea : (fun ys => Qd (.lst (accD ++ [d] ++ ys))) = fun ys => Qd (.lst (accD ++ (d :: ys))) := by
          funext ys
          rw [List.append_assoc]
          rfl
        rw [ea]
        exact h6
  · left
    have e : i = ds.length := by omega
    subst e
    refine ⟨it.stop F2 H2 s2, ?_⟩
    rw [List.drop_length] at h2
    have h2' : Qd (.lst (accD ++ [])) := h2
    rw [List.append_nil] at h2'
    exact k F2 H2 A (.lst accD) (s1.trans s2) fA (s1.hn hA) ⟨acc, eA, rA⟩ h2'
section
variable {ι : Type} {X : ι → Cx} {E : XK} {tg iter elt : Expr} {ifs : List Expr} {scope : Scope} {own : List (Str × Nat)} {pos : Pos} {fi : FI} {g : FG} {ft : FT} {fe : FE} {ts : List Nat}
theorem mf_lc (own : List (Str × Nat)) (hi : MIB X E tg iter fi) (hg : MG (blkX X scope) tg ts g) (ht : MTs (blkX X scope) E0 ifs ft) (he : ME (blkX X scope) E0 elt fe) (ok : ∀ i, blkC (X i).N (X i).env.scope scope own = true) (hN : ∀ i, (X i).N.Nodup)
    (hts : ∀ j ∈ ts, j ∈ own.map (·.2) := by decide) (hc : ∀ i, (X i).calm = true := by intro _; rfl) (hs : ∀ i, ∀ x, foldedSetIterable iter (X i).env x = pure x := by intro _ _; rfl) :
    MF X E (.ListComp elt [⟨tg, iter, ifs, 0⟩] scope pos) (dLc fi g ft fe (own.map (·.2))) := by
  obtain ⟨wi, hi⟩ := hi
  obtain ⟨gg, hg⟩ := hg
  obtain ⟨tt, ht⟩ := ht
  obtain ⟨te, he⟩ := he
  refine ⟨_, fun i => ⟨pe_lc (own := own) (hc i) (hN i) (hi i).1 (blkOk_by (ok i)) (fun s H C cl fp => (hg (i, ⟨s, H, C, cl, fp⟩)).1) (fun s H C cl fp => (ht (i, ⟨s, H, C, cl, fp⟩)).1) (fun s H C cl fp => (he (i, ⟨s, H, C, cl, fp⟩)).1) (hs i), ?_⟩⟩
  exact SemF.lc (hi i).2 (hg (i, blk0)).2 (ht (i, blk0)).2 (he (i, blk0)).2 hts
end
end DL

/-! DL, part d: statements. -/
namespace DL
open PySem PySem.Spec PyProof.Rows L2

structure DEnds where
  nx : DSt → Prop
  rt : D → Prop
  ex : XD → Prop
  bk : DSt → Prop := fun _ => False
  ct : DSt → Prop := fun _ => False
  rm : Prop := False
abbrev FS := DEnds → DSt → Prop
/-- a frame: what may change (x), the deal that was handed in, the entry -/
structure Fm where
  x : Addr → Prop
  dl0 : Dl
  F0 : Hp
  H0 : Hp
structure FOk (K : PySem.W.Frag) (φ : Fm) (F H : Hp) (σ : L2.St) (st : DSt) : Prop where
  so : SOk K φ.H0 F H σ st
  fs : FStep φ.x φ.F0 φ.H0 F H
  dlk : st.dl = φ.dl0 ∨ φ.dl0 = none
  dlc : ∀ b, isDl st.dl b → φ.x b ∨ φ.H0 b = none
  insc : ∀ (i : Nat) (C : Addr) (fs : List (Str × D)) (p : Addr), st.sl[i]? = some (.ins C fs) → σ[i]? = some (some (.ref p)) → φ.x p
/-- what is wanted of an exception that leaves -/
def XF (K : PySem.W.Frag) (φ : Fm) (E : XK) (Ed : XD → Prop) : Prop := ∀ F' H' c da x, FStep φ.x φ.F0 φ.H0 F' H' → DlOk φ.dl0 F' H' → RepX K F' c da x → Ed x → E c da H'
section
variable {K : PySem.W.Frag} {φ : Fm} {F H F' H' : Hp} {σ σ' : L2.St} {st st' : DSt} {E : XK} {Ed : XD → Prop}
theorem FOk.dl0 (h : FOk K φ F H σ st) (s : Step st.dl F H F' H') : DlOk φ.dl0 F' H' := by
  rcases h.dlk with e | e
  · rw [← e]; exact s.deal
  · rw [e]; trivial
theorem FOk.fst (h : FOk K φ F H σ st) (s : Step st.dl F H F' H') : FStep φ.x φ.F0 φ.H0 F' H' := h.fs.trans2 s.toFStep h.dlc
theorem XF.xo (x : XF K φ E Ed) (h : FOk K φ F H σ st) : XO K st.dl E F H Ed := fun F' H' c da z s r q => x F' H' c da z (h.fst s) (h.dl0 s) r q
/-- behind an expression -/
theorem FOk.step (h : FOk K φ F H σ st) (s : Step st.dl F H F' H') : FOk K φ F' H' σ st := ⟨h.so.step s, h.fst s, h.dlk, h.dlc, h.insc⟩
/-- behind stores to slots -/
theorem FOk.off {ts : List Nat} (h : FOk K φ F H σ st) (s : SOk K φ.H0 F H σ' st') (o : Off ts σ σ' st st') : FOk K φ F H σ' st' :=
  ⟨s, h.fs, by rw [o.dl]; exact h.dlk, by rw [o.dl]; exact h.dlc, fun i C fs p e q => by
    by_cases hi : i ∈ ts
    · exact absurd e (o.nv i hi C fs)
    · rw [o.d i hi] at e
      rw [o.s i hi] at q
      exact h.insc i C fs p e q⟩
theorem FOk.setVal {v : V} {d : D} (h : FOk K φ F H σ st) (r : Rep K F v d) (i : Nat) : FOk K φ F H (σ.set i (some v)) (st.set i (.val d)) := by
  refine ⟨h.so.setVal r i, h.fs, h.dlk, h.dlc, fun j C fs p e q => ?_⟩
  have e' : (st.sl.set i (.val d))[j]? = some (.ins C fs) := e
  by_cases hj : i = j
  · subst hj
    by_cases hi : i < st.sl.length
    · rw [List.getElem?_set_self hi] at e'
      cases e'
    · rw [List.getElem?_eq_none (by rw [List.length_set]; omega)] at e'
      cases e'
  · rw [List.getElem?_set_ne hj] at e' q
    exact h.insc j C fs p e' q
/-- a slot takes a new object of its own -/
theorem FOk.setMu {p : Addr} {d : D} (h : FOk K φ F H σ st) (f : F p = none) (n : φ.H0 p = none) (nd : ¬ isDl st.dl p) (r : MutRep K F H p d) (hn : ∀ (j : Nat), σ[j]? = some (some (.ref p)) → ∀ s, st.sl[j]? = some s → s.own = false) (i : Nat) :
    FOk K φ F H (σ.set i (some (.ref p))) (st.set i (.mu d)) := by
  have lk : ∀ (j : Nat) (s : Sl), (st.sl.set i (.mu d))[j]? = some s → (i = j ∧ s = .mu d ∧ i < st.sl.length) ∨ (i ≠ j ∧ st.sl[j]? = some s) := fun j s e => by
    by_cases hj : i = j
    · subst hj
      by_cases hi : i < st.sl.length
      · rw [List.getElem?_set_self hi] at e
        cases e
        exact .inl ⟨rfl, rfl, hi⟩
      · rw [List.getElem?_eq_none (by rw [List.length_set]; omega)] at e
        cases e
    · rw [List.getElem?_set_ne hj] at e
      exact .inr ⟨hj, e⟩
  refine ⟨⟨h.so.fh, h.so.dl, by show (σ.set i _).length = (st.sl.set i _).length; rw [List.length_set, List.length_set]; exact h.so.len, fun j s e => ?_, fun j l s t q hjl e1 e2 o1 o2 q1 q2 => ?_⟩, h.fs, h.dlk, h.dlc, fun j C fs q e eq => ?_⟩
  · rcases lk j s e with ⟨e1, e2, hi⟩ | ⟨hj, e⟩
    · subst e1 e2
      have hi' : i < σ.length := by rw [h.so.len]; exact hi
      exact ⟨p, by rw [List.getElem?_set_self hi'], ⟨f, n, nd⟩, r⟩
    · show SlOk K φ.H0 F H st.dl ((σ.set i _)[j]?) s
      rw [List.getElem?_set_ne hj]
      exact h.so.sl j s e
  · rcases lk j s e1 with ⟨a1, a2, hi⟩ | ⟨hj, b1⟩
    · subst a1 a2
      rcases lk l t e2 with ⟨a3, _, _⟩ | ⟨hl, b2⟩
      · exact hjl a3
      · have hi' : i < σ.length := by rw [h.so.len]; exact hi
        rw [List.getElem?_set_self hi'] at q1
        rw [List.getElem?_set_ne hl] at q2
        cases q1
        have := hn l q2 t b2
        rw [o2] at this
        cases this
    · rw [List.getElem?_set_ne hj] at q1
      rcases lk l t e2 with ⟨a3, a4, hi⟩ | ⟨hl, b2⟩
      · subst a3 a4
        have hi' : i < σ.length := by rw [h.so.len]; exact hi
        rw [List.getElem?_set_self hi'] at q2
        cases q2
        have := hn j q1 s b1
        rw [o1] at this
        cases this
      · rw [List.getElem?_set_ne hl] at q2
        exact h.so.sep j l s t q hjl b1 b2 o1 o2 q1 q2
  · rcases lk j _ e with ⟨e1, e2, hi⟩ | ⟨hj, e⟩
    · cases e2
    · rw [List.getElem?_set_ne hj] at eq
      exact h.insc j C fs q e eq
/-- a new address stands at no slot's own object -/
theorem SOk.newAt {H0 : Hp} (h : SOk K H0 F H σ st) {p : Addr} (hp : H p = none) : ∀ (j : Nat), σ[j]? = some (some (.ref p)) → ∀ s, st.sl[j]? = some s → s.own = false := fun j q s e => by
  cases s with
  | mu d =>
    obtain ⟨a, e1, ow, r⟩ := h.sl j _ e
    rw [q] at e1
    cases e1
    obtain ⟨o, z⟩ := r.dom
    rw [hp] at z
    cases z
  | ins C fs =>
    obtain ⟨a, e1, _, _, dx, gs, z, _⟩ := h.sl j _ e
    rw [q] at e1
    cases e1
    rw [hp] at z
    cases z
  | _ => rfl
/-- a slot's own object is written -/
theorem FOk.write {p : Addr} {d0 d : D} {o : HO} {i : Nat} (h : FOk K φ F H σ st) (e0 : st.sl[i]? = some (.mu d0)) (q0 : σ[i]? = some (some (.ref p))) (r : MutRep K F (upd H p o) p d) : FOk K φ F (upd H p o) σ (st.set i (.mu d)) := by
  obtain ⟨p', e1, ow, r0⟩ := h.so.sl i _ e0
  rw [q0] at e1
  cases e1
  have hi : i < st.sl.length := (List.getElem?_eq_some_iff.mp e0).1
  have lk : ∀ (j : Nat) (s : Sl), (st.sl.set i (.mu d))[j]? = some s → (i = j ∧ s = .mu d) ∨ (i ≠ j ∧ st.sl[j]? = some s) := fun j s e => by
    by_cases hj : i = j
    · subst hj
      rw [List.getElem?_set_self hi] at e
      cases e
      exact .inl ⟨rfl, rfl⟩
    · rw [List.getElem?_set_ne hj] at e
      exact .inr ⟨hj, e⟩
  have dlm : DlOk st.dl F (upd H p o) := h.so.dl.move (fun b hb => h.so.dl.off hb) fun b u hb e => by
    have hne : b ≠ p := fun z => by
      subst z
      exact ow.d hb
    rw [upd_ne hne]
    exact e
  have fs := h.fs.write (o := o) ow.f (.inr ow.h0)
  refine ⟨⟨fs.fh, dlm, by show σ.length = (st.sl.set i _).length; rw [List.length_set]; exact h.so.len, fun j s e => ?_, fun j l s t q hjl e1 e2 o1 o2 q1 q2 => ?_⟩, fs, h.dlk, h.dlc, fun j C gs q e eq => ?_⟩
  · rcases lk j s e with ⟨e1, e2⟩ | ⟨hj, e⟩
    · subst e1 e2
      exact ⟨p, q0, ow, r⟩
    · have old := h.so.sl j s e
      have ap : ∀ q, s.own = true → σ[j]? = some (some (.ref q)) → q ≠ p := fun q os eq z => by
        subst z
        exact h.so.sep i j _ s q hj e0 e rfl os q0 eq
      show SlOk K φ.H0 F (upd H p o) st.dl (σ[j]?) s
      cases s with
      | mu d1 =>
        obtain ⟨q, eq, ow1, r1⟩ := old
        have hne := ap q rfl eq
        refine ⟨q, eq, ow1, ?_⟩
        cases d1 with
        | lst ds => obtain ⟨vs, z, w⟩ := r1; exact ⟨vs, by rw [upd_ne hne]; exact z, w⟩
        | dK ds => obtain ⟨vs, z, w⟩ := r1; exact ⟨vs, by rw [upd_ne hne]; exact z, w⟩
        | dT ds => obtain ⟨vs, z, w⟩ := r1; exact ⟨vs, by rw [upd_ne hne]; exact z, w⟩
        | _ => exact r1.elim
      | ins C gs =>
        obtain ⟨q, eq, f1, nd, dx, gs', z, w⟩ := old
        have hne := ap q rfl eq
        exact ⟨q, eq, f1, nd, dx, gs', by rw [upd_ne hne]; exact z, w⟩
      | no => trivial
      | val d1 => exact old
      | deal => exact old
  · have b1 : ∃ s', st.sl[j]? = some s' ∧ s'.own = true := by
      rcases lk j s e1 with ⟨a1, a2⟩ | ⟨_, b⟩
      · subst a1
        exact ⟨_, e0, rfl⟩
      · exact ⟨s, b, o1⟩
    have b2 : ∃ s', st.sl[l]? = some s' ∧ s'.own = true := by
      rcases lk l t e2 with ⟨a1, a2⟩ | ⟨_, b⟩
      · subst a1
        exact ⟨_, e0, rfl⟩
      · exact ⟨t, b, o2⟩
    obtain ⟨s1, x1, y1⟩ := b1
    obtain ⟨s2, x2, y2⟩ := b2
    exact h.so.sep j l s1 s2 q hjl x1 x2 y1 y2 q1 q2
  · rcases lk j _ e with ⟨_, e2⟩ | ⟨_, e⟩
    · cases e2
    · exact h.insc j C gs q e eq
/-- a slot's own object is frozen -/
theorem FOk.freeze {d : D} {i : Nat} (h : FOk K φ F H σ st) (e0 : st.sl[i]? = some (.mu d)) : ∃ F', Same F F' ∧ FOk K φ F' H σ (st.set i (.val d)) := by
  obtain ⟨p, q0, ow, r0⟩ := h.so.sl i _ e0
  have hi : i < st.sl.length := (List.getElem?_eq_some_iff.mp e0).1
  obtain ⟨o, eo⟩ := r0.dom
  have sf : Same F (upd F p o) := Same.upd_new ow.f
  have rp : Rep K (upd F p o) (.ref p) d := by
    cases d with
    | lst ds => obtain ⟨vs, e, r⟩ := r0; rw [eo] at e; cases e; exact .lst upd_same (r.same sf)
    | dK ds => obtain ⟨ks, e, q, y, r⟩ := r0; rw [eo] at e; cases e; exact .dK upd_same q y (r.same sf)
    | dT ds => obtain ⟨ks, e, q, y, r⟩ := r0; rw [eo] at e; cases e; exact .dT upd_same q y (r.same sf)
    | _ => exact r0.elim
  have fs := h.fs.freeze eo ow.h0
  have dlm : DlOk st.dl (upd F p o) H := h.so.dl.move (fun b hb => by
    have hne : b ≠ p := fun z => by
      subst z
      exact ow.d hb
    rw [upd_ne hne]
    exact h.so.dl.off hb) fun b u hb e => e
  have lk : ∀ (j : Nat) (s : Sl), (st.sl.set i (.val d))[j]? = some s → (i = j ∧ s = .val d) ∨ (i ≠ j ∧ st.sl[j]? = some s) := fun j s e => by
    by_cases hj : i = j
    · subst hj
      rw [List.getElem?_set_self hi] at e
      cases e
      exact .inl ⟨rfl, rfl⟩
    · rw [List.getElem?_set_ne hj] at e
      exact .inr ⟨hj, e⟩
  refine ⟨upd F p o, sf, ⟨fs.fh, dlm, by show σ.length = (st.sl.set i _).length; rw [List.length_set]; exact h.so.len, fun j s e => ?_, fun j l s t q hjl e1 e2 o1 o2 q1 q2 => ?_⟩, fs, h.dlk, h.dlc, fun j C gs q e eq => ?_⟩
  · rcases lk j s e with ⟨e1, e2⟩ | ⟨hj, e⟩
    · subst e1 e2
      exact ⟨_, q0, rp⟩
    · have old := h.so.sl j s e
      have ap : ∀ q, s.own = true → σ[j]? = some (some (.ref q)) → q ≠ p := fun q os eq z => by
        subst z
        exact h.so.sep i j _ s q hj e0 e rfl os q0 eq
      show SlOk K φ.H0 (upd F p o) H st.dl (σ[j]?) s
      cases s with
      | mu d1 =>
        obtain ⟨q, eq, ow1, r1⟩ := old
        have hne := ap q rfl eq
        refine ⟨q, eq, ⟨by rw [upd_ne hne]; exact ow1.f, ow1.h0, ow1.d⟩, ?_⟩
        cases d1 with
        | lst ds => obtain ⟨vs, z, w⟩ := r1; exact ⟨vs, z, w.same sf⟩
        | dK ds => obtain ⟨vs, z, y, u, w⟩ := r1; exact ⟨vs, z, y, u, w.same sf⟩
        | dT ds => obtain ⟨vs, z, y, u, w⟩ := r1; exact ⟨vs, z, y, u, w.same sf⟩
        | _ => exact r1.elim
      | ins C gs =>
        obtain ⟨q, eq, f1, nd, dx, gs', z, y, w⟩ := old
        have hne := ap q rfl eq
        exact ⟨q, eq, by rw [upd_ne hne]; exact f1, nd, dx, gs', z, y, w.same sf⟩
      | no => trivial
      | val d1 => obtain ⟨v, z, w⟩ := old; exact ⟨v, z, w.same sf⟩
      | deal => exact old
  · rcases lk j s e1 with ⟨_, a2⟩ | ⟨hj, b1⟩
    · subst a2
      cases o1
    · rcases lk l t e2 with ⟨_, a2⟩ | ⟨hl, b2⟩
      · subst a2
        cases o2
      · exact h.so.sep j l s t q hjl b1 b2 o1 o2 q1 q2
  · rcases lk j _ e with ⟨_, e2⟩ | ⟨_, e⟩
    · cases e2
    · exact h.insc j C gs q e eq
end

/-- from what is wanted of data to what is wanted of the heap -/
structure SB (K : PySem.W.Frag) (φ : Fm) (D : Ends) (Dd : DEnds) : Prop where
  nx : ∀ F' H' σ' st', FOk K φ F' H' σ' st' → Dd.nx st' → D.nx σ' H'
  bk : ∀ F' H' σ' st', FOk K φ F' H' σ' st' → Dd.bk st' → D.bk σ' H'
  ct : ∀ F' H' σ' st', FOk K φ F' H' σ' st' → Dd.ct st' → D.ct σ' H'
  rt : ∀ F' H' v d, FStep φ.x φ.F0 φ.H0 F' H' → DlOk φ.dl0 F' H' → Rep K F' v d → Dd.rt d → D.rt v H'
  rm : ∀ F' H' a b, FStep φ.x φ.F0 φ.H0 F' H' → φ.H0 a = none → φ.H0 b = none → DlOk (some (a, b)) F' H' → Dd.rm → D.rt (.ref a) H'
def SemS (K : PySem.W.Frag) (E : XK) (t : TS) (f : FS) : Prop := ∀ (φ : Fm) (F H : Hp) (σ : L2.St) (st : DSt) (D : Ends) (Dd : DEnds),
  FOk K φ F H σ st → XF K φ E Dd.ex → f Dd st → SB K φ D Dd → t D σ H
def MS {ι : Type} (X : ι → Cx) (E : XK) (s : Stmt) (f : FS) : Prop := ∃ t, ∀ i, PS (X i) s t ∧ SemS (X i).K E t f
def MSs {ι : Type} (X : ι → Cx) (E : XK) (s : List Stmt) (f : FS) : Prop := ∃ t, ∀ i, PSs (X i) s t ∧ SemS (X i).K E t f
section
variable {ι : Type} {X : ι → Cx} {K : PySem.W.Frag} {E : XK} {s : Stmt} {ss : List Stmt} {e c : Expr} {f : FE} {ft : FT} {fs gs : FS} {pos pos' : Pos} {ta te : TE} {tt : TT} {t u : TS}
def sNext : FS := fun D st => D.nx st
def sSeq (f g : FS) : FS := fun D st => f { D with nx := g D } st
theorem mss_nil : MSs X E [] sNext := ⟨_, fun i => ⟨pss_nil, fun φ F H σ st D Dd o x h b => b.nx F H σ st o h⟩⟩
theorem SemS.seq (q1 : SemS K E t fs) (q2 : SemS K E u gs) : SemS K E (tSeq t u) (sSeq fs gs) := fun φ F H σ st D Dd o x h b =>
  q1 φ F H σ st _ { Dd with nx := gs Dd } o x h ⟨fun F' H' σ' st' o' h' => q2 φ F' H' σ' st' D Dd o' x h' b, b.bk, b.ct, b.rt, b.rm⟩
theorem mss_cons (h1 : MS X E s fs) (h2 : MSs X E ss gs) : MSs X E (s :: ss) (sSeq fs gs) := by
  obtain ⟨t, h1⟩ := h1
  obtain ⟨u, h2⟩ := h2
  exact ⟨_, fun i => ⟨pss_cons (h1 i).1 (h2 i).1, SemS.seq (h1 i).2 (h2 i).2⟩⟩
theorem mss_one (h1 : MS X E s fs) : MSs X E [s] fs := by
  obtain ⟨t, h1⟩ := h1
  exact ⟨_, fun i => ⟨pss_one (h1 i).1, (h1 i).2⟩⟩
theorem ms_pass : MS X E (.Pass pos) sNext := ⟨_, fun i => ⟨ps_pass, fun φ F H σ st D Dd o x h b => b.nx F H σ st o h⟩⟩
def sBreak : FS := fun D st => D.bk st
def sCont : FS := fun D st => D.ct st
theorem ms_break : MS X E (.Break pos) sBreak := ⟨_, fun i => ⟨ps_break, fun φ F H σ st D Dd o x h b => b.bk F H σ st o h⟩⟩
theorem ms_continue : MS X E (.Continue pos) sCont := ⟨_, fun i => ⟨ps_continue, fun φ F H σ st D Dd o x h b => b.ct F H σ st o h⟩⟩
/-- code that the proof never comes to -/
def sNever : FS := fun _ _ => False
theorem ms_never : MS X E s sNever := ⟨_, fun i => ⟨ps_never, fun φ F H σ st D Dd o x h b => h.elim⟩⟩
theorem mss_never : MSs X E ss sNever := ⟨_, fun i => ⟨pss_never, fun φ F H σ st D Dd o x h b => h.elim⟩⟩
/-- ahead of a statement a slot's own object is frozen -/
def sFrz (i : Nat) (f : FS) : FS := fun D st => match st.sl[i]? with
  | some (.mu d) => f D (st.set i (.val d))
  | _ => False
theorem SemS.frz (i : Nat) (q : SemS K E t fs) : SemS K E t (sFrz i fs) := fun φ F H σ st D Dd o x h b => by
  unfold sFrz at h
  cases z : st.sl[i]? with
  | none => rw [z] at h; exact h.elim
  | some s =>
    rw [z] at h
    cases s with
    | mu d =>
      obtain ⟨F', sf, o'⟩ := o.freeze z
      exact q φ F' H σ _ D Dd o' x h b
    | _ => exact h.elim
theorem ms_frz (i : Nat) (h : MS X E s fs) : MS X E s (sFrz i fs) := by
  obtain ⟨t, h⟩ := h
  exact ⟨t, fun j => ⟨(h j).1, (h j).2.frz i⟩⟩
theorem mss_frz (i : Nat) (h : MSs X E ss fs) : MSs X E ss (sFrz i fs) := by
  obtain ⟨t, h⟩ := h
  exact ⟨t, fun j => ⟨(h j).1, (h j).2.frz i⟩⟩
/-- e -/
def sExpr (f : FE) : FS := fun D st => f st (fun _ => D.nx st) D.ex
theorem ms_expr (h : ME X E e f) (hs : ∀ i, swapsWith e none pos.line (X i).env = pure false := by intro _; rfl) : MS X E (.Expr e pos) (sExpr f) := by
  obtain ⟨t, h⟩ := h
  exact ⟨_, fun i => ⟨ps_expr (h i).1 (hs i), fun φ F H σ st D Dd o x hh b => (h i).2 φ.H0 F H σ st _ _ _ o.so (x.xo o) hh fun F' H' v d s1 r1 h1 => b.nx F' H' σ st (o.step s1) h1⟩⟩
/-- return e -/
def sRet (f : FE) : FS := fun D st => f st D.rt D.ex
theorem ms_ret (h : ME X E e f) : MS X E (.Return (some e) pos) (sRet f) := by
  obtain ⟨t, h⟩ := h
  exact ⟨_, fun i => ⟨ps_ret (h i).1, fun φ F H σ st D Dd o x hh b => (h i).2 φ.H0 F H σ st _ _ _ o.so (x.xo o) hh fun F' H' v d s1 r1 h1 => b.rt F' H' v d (o.fst s1) (o.dl0 s1) r1 h1⟩⟩
/-- return [a new list, x]: a deal -/
def sRetDeal (i : Nat) (f : FE) : FS := fun Dd st => f st (fun d => match d with
  | .lst xs => (match st.sl[i]? with
    | some (.val (.int m)) => 0 ≤ m ∧ m < 2147483647 ∧ xs.length ≤ 63 ∧ (∃ ns : List Int, xs = ns.map D.int ∧ ∀ n ∈ ns, 0 ≤ n) ∧ Dd.rm
    | _ => False)
  | _ => False) Dd.ex
def sRetN : FS := fun D _ => D.rt .non
theorem ms_retN : MS X E (.Return none pos) sRetN := ⟨_, fun i => ⟨ps_retN, fun φ F H σ st D Dd o x hh b => b.rt F H _ .non o.fs (o.dl0 o.so.rf) .non hh⟩⟩
/-- if -/
def sIf (c : FT) (f g : FS) : FS := fun D st => c st (fun b => if b = true then f D st else g D st) D.ex
theorem ms_if {a b : List Stmt} (hc : MT X E c ft) (ha : MSs X E a fs) (hb : MSs X E b gs) : MS X E (.If c a b pos) (sIf ft fs gs) := by
  obtain ⟨tc, hc⟩ := hc
  obtain ⟨ta, ha⟩ := ha
  obtain ⟨tb, hb⟩ := hb
  refine ⟨_, fun i => ⟨ps_if (hc i).1 (ha i).1 (hb i).1, fun φ F H σ st D Dd o x hh b => ?_⟩⟩
  refine (hc i).2 φ.H0 F H σ st _ _ _ o.so (x.xo o) hh fun F1 H1 q s1 h1 => ?_
  cases q with
  | true => exact iteT ((ha i).2 φ F1 H1 σ st D Dd (o.step s1) x h1 b)
  | false => exact iteF ((hb i).2 φ F1 H1 σ st D Dd (o.step s1) x h1 b)
/-- target = e -/
def sAsg (f : FE) (g : FG) : FS := fun D st => f st (fun d => g d st D.nx) D.ex
theorem ms_asg {tg : Expr} {ts : List Nat} {g : FG} (he : ME X E e f) (hg : MG X tg ts g)
    (hs : ∀ i, swapsWithSole [tg] e pos.line (X i).env = pure false := by intro _; rfl) (hw : ∀ i, swappedStores [tg] e (X i).env = pure none := by intro _; rfl)
    (h1 : ∀ i, (assignEach [tg] (X i).env).map (·.2) = [assign tg (X i).env] := by intro _; rfl) : MS X E (.Assign [tg] e pos) (sAsg f g) := by
  obtain ⟨t, he⟩ := he
  obtain ⟨gg, hg⟩ := hg
  refine ⟨_, fun i => ⟨ps_asg (he i).1 (hg i).1 (hs i) (hw i) (h1 i), fun φ F H σ st D Dd o x hh b => ?_⟩⟩
  refine (he i).2 φ.H0 F H σ st _ _ _ o.so (x.xo o) hh fun F1 H1 v d s1 r1 h1 => ?_
  have o1 := o.step s1
  exact (hg i).2 φ.H0 F1 H1 σ st v d _ _ o1.so r1 h1 fun σ2 st2 s2 of q => b.nx F1 H1 σ2 st2 (o1.off s2 of) q
/-- x = e -/
def sSet (i : Nat) (f : FE) : FS := fun D st => f st (fun d => D.nx (st.set i (.val d))) D.ex
theorem ms_set (i : Nat) {x : Str} (he : ME X E e f) (hN : ∀ j, (X j).N.Nodup) (hi : ∀ j, (X j).N[i]? = some x := by intro _; rfl) (hx : ∀ j, Loc (X j).env.scope x := by intro _; first | exact Or.inl rfl | exact Or.inr rfl)
    (hs : ∀ j, swapsWith e (some (.Name x pos')) pos.line (X j).env = pure false := by intro _; rfl) (hf : ∀ j, (X j).fn x = true ∨ (X j).env.scope.names.lookup x = some .local := by intro _; first | exact .inl rfl | exact .inr rfl) :
    MS X E (.Assign [.Name x pos'] e pos) (sSet i f) := by
  obtain ⟨t, he⟩ := he
  refine ⟨_, fun j => ⟨ps_set (hN j) (hi j) (hx j) (he j).1 (hs j) (hf j), fun φ F H σ st D Dd o x hh b => ?_⟩⟩
  exact (he j).2 φ.H0 F H σ st _ _ _ o.so (x.xo o) hh fun F1 H1 v d s1 r1 h1 => b.nx F1 H1 _ _ ((o.step s1).setVal r1 i) h1
/-- x = a new list or dict, which is x's own from here on -/
def sSetM (i : Nat) (f : FE) : FS := fun D st => f st (fun d => D.nx (st.set i (.mu d))) D.ex
theorem SemS.setM (i : Nat) (q : SemF K E te f) : SemS K E (tAsg te (gName i)) (sSetM i f) := fun φ F H σ st D Dd o x hh b =>
  q φ.H0 F H σ st _ _ _ o.so (x.xo o) hh fun F1 H1 p d s1 fp hp r1 h1 => by
    have o1 := o.step s1
    have nd : ¬ isDl st.dl p := fun z => by
      obtain ⟨u, w⟩ := o.so.dl.dom z
      rw [hp] at w
      cases w
    exact b.nx F1 H1 _ _ (o1.setMu fp (o.fs.dom p hp) nd r1 (o.so.newAt hp) i) h1
theorem ms_setM (i : Nat) {x : Str} (he : MF X E e f) (hN : ∀ j, (X j).N.Nodup) (hi : ∀ j, (X j).N[i]? = some x := by intro _; rfl) (hx : ∀ j, Loc (X j).env.scope x := by intro _; first | exact Or.inl rfl | exact Or.inr rfl)
    (hs : ∀ j, swapsWith e (some (.Name x pos')) pos.line (X j).env = pure false := by intro _; rfl) (hf : ∀ j, (X j).fn x = true ∨ (X j).env.scope.names.lookup x = some .local := by intro _; first | exact .inl rfl | exact .inr rfl) :
    MS X E (.Assign [.Name x pos'] e pos) (sSetM i f) := by
  obtain ⟨t, he⟩ := he
  exact ⟨_, fun j => ⟨ps_set (hN j) (hi j) (hx j) (he j).1 (hs j) (hf j), SemS.setM i (he j).2⟩⟩
end
end DL

/-! DL, part e: loops, stores, changes of a slot's own list. -/
namespace DL
open PySem PySem.Spec PyProof.Rows L2
section
variable {K : PySem.W.Frag} {φ : Fm} {F H F1 : Hp} {σ : L2.St} {st : DSt} {E : XK} {Ed : XD → Prop} {N : Ends} {Dd : DEnds}
/-- the frame seen from a later frozen heap -/
def Fm.at_ (φ : Fm) (F1 : Hp) : Fm := { φ with F0 := F1 }
theorem FStep.rebase {x : Addr → Prop} {F0 H0 F1 H1 F2 H2 : Hp} (s : FStep x F0 H0 F1 H1) (t : FStep x F1 H0 F2 H2) : FStep x F0 H0 F2 H2 :=
  ⟨s.ff.trans t.ff, t.fh, t.keep, fun b o e => (t.new b o e).elim (fun z => s.new b o z) .inr, t.dom⟩
theorem FOk.at_ (h : FOk K φ F H σ st) : FOk K (φ.at_ F) F H σ st := ⟨h.so, ⟨Same.refl F, h.fs.fh, h.fs.keep, fun _ _ e => .inl e, h.fs.dom⟩, h.dlk, h.dlc, h.insc⟩
theorem FOk.back {F2 H2 : Hp} {σ2 : L2.St} {st2 : DSt} (h : FOk K φ F H σ st) (g : FOk K (φ.at_ F) F2 H2 σ2 st2) : FOk K φ F2 H2 σ2 st2 := ⟨g.so, h.fs.rebase g.fs, g.dlk, g.dlc, g.insc⟩
theorem XF.at_ (x : XF K φ E Ed) (h : FOk K φ F H σ st) : XF K (φ.at_ F) E Ed := fun F' H' c da z s d r q => x F' H' c da z (h.fs.rebase s) d r q
end
def forGo (g : FG) (b : FS) (N : DEnds) : List D → DSt → Prop
  | [], st => N.nx st
  | d :: ds, st => g d st fun st1 => b { N with nx := forGo g b N ds, ct := forGo g b N ds, bk := N.nx } st1
def sFor (fi : FI) (g : FG) (b : FS) : FS := fun D st => fi st (fun ds => forGo g b D ds st) D.ex
theorem SemS.for {K : PySem.W.Frag} {E : XK} {wi : TI} {fi : FI} {gg : TG} {g : FG} {tb : TS} {b : FS} {ts : List Nat} (qi : SemI K E wi fi) (qg : SemG K ts gg g) (qb : SemS K E tb b) : SemS K E (tFor wi gg tb) (sFor fi g b) := by
  intro φ F H σ st D Dd o x h B
  refine qi φ.H0 F H σ st _ _ _ o.so (x.xo o) h fun F1 H1 J ds s1 it hz h1 => ?_
  have o1 := o.step s1
  refine ⟨fun i m σ H => m = ds.length - i ∧ i ≤ ds.length ∧ ∃ F' st', FOk K (φ.at_ F1) F' H σ st' ∧ forGo g b Dd (ds.drop i) st', ⟨ds.length, rfl, Nat.zero_le _, F1, st, o1.at_, h1⟩, ?_⟩
  rintro i m σ2 H2 ⟨rfl, hi, F2, st2, o2, h2⟩
  by_cases hlt : i < ds.length
  · right
    have ed : ds[i]? = some ds[i] := List.getElem?_eq_getElem hlt
    have dd : ds.drop i = ds[i] :: ds.drop (i + 1) := List.drop_eq_getElem_cons hlt
    rw [dd] at h2
    obtain ⟨go, yl⟩ := it.go st2.dl i _ F2 H2 o2.fs.ff o2.fs.fh o2.so.dl ed
    refine ⟨go, fun σ' H' => i + 1 ≤ ds.length ∧ ∃ F' st', FOk K (φ.at_ F1) F' H' σ' st' ∧ forGo g b Dd (ds.drop (i + 1)) st', fun σ' H' hN => ⟨ds.length - (i + 1), by omega, rfl, hN.1, hN.2⟩, fun y H3 hy => ?_⟩
    obtain ⟨F3, s3, r3⟩ := yl y H3 hy
    have o3 := o2.step s3
    refine qg φ.H0 F3 H3 σ2 st2 _ _ _ _ o3.so r3 h2 fun σ4 st4 k4 of4 h4 => ?_
    have o4 := o3.off k4 of4
    exact qb (φ.at_ F1) F3 H3 σ4 st4 _ { Dd with nx := forGo g b Dd (ds.drop (i + 1)), ct := forGo g b Dd (ds.drop (i + 1)), bk := Dd.nx } o4 (x.at_ o1) h4
      ⟨fun F' H' σ' st' o' h' => ⟨hlt, F', st', o', h'⟩, fun F' H' σ' st' o' h' => B.nx F' H' σ' st' (o1.back o') h', fun F' H' σ' st' o' h' => ⟨hlt, F', st', o', h'⟩,
        fun F' H' v d s dk r h' => B.rt F' H' v d (o1.fs.rebase s) dk r h', fun F' H' a b s na nb dk h' => B.rm F' H' a b (o1.fs.rebase s) na nb dk h'⟩
  · left
    have e : i = ds.length := by omega
    subst e
    rw [List.drop_length] at h2
    exact ⟨it.stop F2 H2 o2.fs.ff o2.fs.fh, B.nx F2 H2 σ2 st2 (o1.back o2) h2⟩
/-- while: by a word and a number that falls -/
def sWhile (c : FT) (b : FS) : FS := fun D st => ∃ W : Nat → DSt → Prop, (∃ m, W m st) ∧ ∀ m st, W m st →
  c st (fun k => if k = true then b { D with nx := fun st' => ∃ m', m' < m ∧ W m' st', ct := fun st' => ∃ m', m' < m ∧ W m' st', bk := D.nx } st else D.nx st) D.ex
theorem SemS.while {K : PySem.W.Frag} {E : XK} {tc : TT} {c : FT} {tb : TS} {b : FS} (qc : SemT K E tc c) (qb : SemS K E tb b) : SemS K E (tWhile tc tb) (sWhile c b) := by
  intro φ F H σ st D Dd o x h B
  obtain ⟨W, ⟨m0, w0⟩, turn⟩ := h
  refine ⟨fun m σ H => ∃ F' st', FOk K φ F' H σ st' ∧ W m st', ⟨m0, F, st, o, w0⟩, ?_⟩
  rintro m σ2 H2 ⟨F2, st2, o2, w2⟩
  refine qc φ.H0 F2 H2 σ2 st2 _ _ _ o2.so (x.xo o2) (turn m st2 w2) fun F3 H3 k s3 h3 => ?_
  have o3 := o2.step s3
  cases k with
  | true =>
    refine iteT ⟨fun σ' H' => ∃ m', m' < m ∧ ∃ F' st', FOk K φ F' H' σ' st' ∧ W m' st', fun σ' H' hN => hN, ?_⟩
    have h3' : b { Dd with nx := fun st' => ∃ m', m' < m ∧ W m' st', ct := fun st' => ∃ m', m' < m ∧ W m' st', bk := Dd.nx } st2 := h3
    exact qb φ F3 H3 σ2 st2 _ { Dd with nx := fun st' => ∃ m', m' < m ∧ W m' st', ct := fun st' => ∃ m', m' < m ∧ W m' st', bk := Dd.nx } o3 x h3'
      ⟨fun F' H' σ' st' o' ⟨m', hm, w'⟩ => ⟨m', hm, F', st', o', w'⟩, fun F' H' σ' st' o' h' => B.nx F' H' σ' st' o' h', fun F' H' σ' st' o' ⟨m', hm, w'⟩ => ⟨m', hm, F', st', o', w'⟩, B.rt, B.rm⟩
  | false => exact iteF (B.nx F3 H3 σ2 st2 o3 h3)
section
variable {ι : Type} {X : ι → Cx} {K : PySem.W.Frag} {E : XK} {s : Stmt} {ss : List Stmt} {e c tg iter : Expr} {f fi' : FE} {ft : FT} {fs gs : FS} {pos pos' : Pos} {ta te : TE} {tt : TT} {t u : TS}
theorem ms_for {fi : FI} {g : FG} {ts : List Nat} {body : List Stmt} {b : FS} (hi : MI X E tg iter fi) (hg : MG X tg ts g) (hb : MSs X E body b) (hp : ∀ i, PassesOwn (model (X i).prog (X i).w) (X i).A (X i).env (X i).xe) (hc : ∀ i, (X i).calm = true := by intro _; rfl)
    (hs : ∀ i, ∀ x, foldedSetIterable iter (X i).env x = pure x := by intro _ _; rfl) : MS X E (.For tg iter body [] pos) (sFor fi g b) := by
  obtain ⟨wi, hi⟩ := hi
  obtain ⟨gg, hg⟩ := hg
  obtain ⟨tb, hb⟩ := hb
  exact ⟨_, fun i => ⟨ps_for (hp i) (hc i) (hi i).1 (hg i).1 (hb i).1 (hs i), SemS.for (hi i).2 (hg i).2 (hb i).2⟩⟩
theorem ms_while {body : List Stmt} {b : FS} (hc : MT X E c ft) (hb : MSs X E body b) (hp : ∀ i, PassesOwn (model (X i).prog (X i).w) (X i).A (X i).env (X i).xe) : MS X E (.While c body [] pos) (sWhile ft b) := by
  obtain ⟨tc, hc⟩ := hc
  obtain ⟨tb, hb⟩ := hb
  exact ⟨_, fun i => ⟨ps_while (hp i) (hc i).1 (hb i).1, SemS.while (hc i).2 (hb i).2⟩⟩
/-- x op= e -/
def sAug (i : Nat) (g : D → D → (D → Prop) → Prop) (f : FE) : FS := fun D st => match st.sl[i]? with
  | some (.val d) => f st (fun y => g d y fun z => D.nx (st.set i (.val z))) D.ex
  | _ => False
theorem ms_aug (i : Nat) {x : Str} {op : Operator} {r : R2} {g : D → D → (D → Prop) → Prop} (he : MB X E e f) (ho : ∀ j, PIp (X j) op r) (hg : ∀ j, OpD (X j).K r g) (hN : ∀ j, (X j).N.Nodup) (hi : ∀ j, (X j).N[i]? = some x := by intro _; rfl) (hx : ∀ j, Loc (X j).env.scope x := by intro _; first | exact Or.inl rfl | exact Or.inr rfl)
    (hf : ∀ j, (X j).fn x = true ∨ (X j).env.scope.names.lookup x = some .local := by intro _; first | exact .inl rfl | exact .inr rfl) : MS X E (.AugAssign (.Name x pos') op e pos) (sAug i g f) := by
  obtain ⟨t, he⟩ := he
  refine ⟨_, fun j => ⟨ps_aug (hN j) (hi j) (hx j) (he j).1 (ho j) (hf j), fun φ F H σ st D Dd o x h b => ?_⟩⟩
  unfold sAug at h
  cases q : st.sl[i]? with
  | none => rw [q] at h; exact h.elim
  | some s =>
    rw [q] at h
    cases s with
    | val d =>
      obtain ⟨v, ev, rv⟩ := o.so.sl i _ q
      refine ⟨v, ev, (he j).2 φ.H0 F H σ st _ _ _ o.so (x.xo o) h fun F1 H1 y dy s1 ry h1 => ?_⟩
      have o1 := o.step s1
      exact hg j st.dl F1 H1 v y d dy _ _ o1.so.fh o1.so.dl (.inl (rv.same s1.ff)) (ry.rs o1.so) h1 fun F2 H2 z dz s2 rz h2 => b.nx F2 H2 _ _ ((o1.step s2).setVal rz i) h2
    | _ => exact h.elim
/-- y = [.. for ..], y a plain local name -/
theorem ms_setLc (i : Nat) (own : List (Str × Nat)) {y : Str} {py : Pos} {elt : Expr} {ifs : List Expr} {scope : Scope} {spos : Pos} {fi : FI} {g : FG} {ts : List Nat} {fe : FE} (hi : MIB X E tg iter fi) (hg : MG (blkX X scope) tg ts g) (ht : MTs (blkX X scope) E0 ifs ft) (he : ME (blkX X scope) E0 elt fe)
    (ok : ∀ i, blkC (X i).N (X i).env.scope scope own = true) (hN : ∀ i, (X i).N.Nodup) (hsw : ∀ j, swapsWith (.ListComp elt [⟨tg, iter, ifs, 0⟩] scope pos) (some (.Name y py)) spos.line (X j).env = pure true)
    (hy : ∀ j, (X j).N[i]? = some y := by intro _; rfl) (hyl : ∀ j, (X j).env.scope.names.lookup y = some .local := by intro _; rfl)
    (hts : ∀ j ∈ ts, j ∈ own.map (·.2) := by decide) (hc : ∀ i, (X i).calm = true := by intro _; rfl) (hs : ∀ i, ∀ x, foldedSetIterable iter (X i).env x = pure x := by intro _ _; rfl) :
    MS X E (.Assign [.Name y py] (.ListComp elt [⟨tg, iter, ifs, 0⟩] scope pos) spos) (sSet i (dLc fi g ft fe (own.map (·.2)))) := by
  obtain ⟨wi, hi⟩ := hi
  obtain ⟨gg, hg⟩ := hg
  obtain ⟨tt, ht⟩ := ht
  obtain ⟨te, he⟩ := he
  refine ⟨_, fun j => ⟨ps_setLc (own := own) (hc j) (hN j) (hy j) (hyl j) (hsw j) (hi j).1 (blkOk_by (ok j)) (fun s H C cl fp => (hg (j, ⟨s, H, C, cl, fp⟩)).1) (fun s H C cl fp => (ht (j, ⟨s, H, C, cl, fp⟩)).1) (fun s H C cl fp => (he (j, ⟨s, H, C, cl, fp⟩)).1) (hs j), ?_⟩⟩
  intro φ F H σ st D Dd o x hh b
  exact (SemF.lc (hi j).2 (hg (j, blk0)).2 (ht (j, blk0)).2 (he (j, blk0)).2 hts).toE φ.H0 F H σ st _ _ _ o.so (x.xo o) hh fun F1 H1 v d s1 r1 h1 => b.nx F1 H1 _ _ ((o.step s1).setVal r1 i) h1
theorem ms_setLcM (i : Nat) (own : List (Str × Nat)) {y : Str} {py : Pos} {elt : Expr} {ifs : List Expr} {scope : Scope} {spos : Pos} {fi : FI} {g : FG} {ts : List Nat} {fe : FE} (hi : MIB X E tg iter fi) (hg : MG (blkX X scope) tg ts g) (ht : MTs (blkX X scope) E0 ifs ft) (he : ME (blkX X scope) E0 elt fe)
    (ok : ∀ i, blkC (X i).N (X i).env.scope scope own = true) (hN : ∀ i, (X i).N.Nodup) (hsw : ∀ j, swapsWith (.ListComp elt [⟨tg, iter, ifs, 0⟩] scope pos) (some (.Name y py)) spos.line (X j).env = pure true)
    (hy : ∀ j, (X j).N[i]? = some y := by intro _; rfl) (hyl : ∀ j, (X j).env.scope.names.lookup y = some .local := by intro _; rfl)
    (hts : ∀ j ∈ ts, j ∈ own.map (·.2) := by decide) (hc : ∀ i, (X i).calm = true := by intro _; rfl) (hs : ∀ i, ∀ x, foldedSetIterable iter (X i).env x = pure x := by intro _ _; rfl) :
    MS X E (.Assign [.Name y py] (.ListComp elt [⟨tg, iter, ifs, 0⟩] scope pos) spos) (sSetM i (dLc fi g ft fe (own.map (·.2)))) := by
  obtain ⟨wi, hi⟩ := hi
  obtain ⟨gg, hg⟩ := hg
  obtain ⟨tt, ht⟩ := ht
  obtain ⟨te, he⟩ := he
  exact ⟨_, fun j => ⟨ps_setLc (own := own) (hc j) (hN j) (hy j) (hyl j) (hsw j) (hi j).1 (blkOk_by (ok j)) (fun s H C cl fp => (hg (j, ⟨s, H, C, cl, fp⟩)).1) (fun s H C cl fp => (ht (j, ⟨s, H, C, cl, fp⟩)).1) (fun s H C cl fp => (he (j, ⟨s, H, C, cl, fp⟩)).1) (hs j),
    SemS.setM i (SemF.lc (hi j).2 (hg (j, blk0)).2 (ht (j, blk0)).2 (he (j, blk0)).2 hts)⟩⟩
end

/-! ### an expression that may change a slot's own list -/
abbrev FX := DSt → (DSt → D → Prop) → (XD → Prop) → Prop
def SemX (K : PySem.W.Frag) (E : XK) (t : TE) (f : FX) : Prop := ∀ (φ : Fm) (F H : Hp) (σ : L2.St) (st : DSt) (Q : VK) (Qd : DSt → D → Prop) (Ed : XD → Prop),
  FOk K φ F H σ st → XF K φ E Ed → f st Qd Ed → (∀ F' H' st' v d, FOk K φ F' H' σ st' → Rep K F' v d → Qd st' d → Q v H') → t σ H Q
def MX {ι : Type} (X : ι → Cx) (E : XK) (e : Expr) (f : FX) : Prop := ∃ t, ∀ i, PE (X i) e t ∧ SemX (X i).K E t f
section
variable {ι : Type} {X : ι → Cx} {K : PySem.W.Frag} {E : XK} {s : Stmt} {ss : List Stmt} {e c tg iter : Expr} {f : FE} {fx : FX} {pos pos' apos cpos : Pos} {ta te : TE}
def xE (f : FE) : FX := fun st Q E => f st (fun d => Q st d) E
theorem SemE.toX (q : SemE K E te f) : SemX K E te (xE f) := fun φ F H σ st Q Qd Ed o x h k => q φ.H0 F H σ st Q _ Ed o.so (x.xo o) h fun F' H' v d s r z => k F' H' st v d (o.step s) r z
theorem ME.toX (h : ME X E e f) : MX X E e (xE f) := by
  obtain ⟨t, h⟩ := h
  exact ⟨t, fun i => ⟨(h i).1, (h i).2.toX⟩⟩
/-- a list's method that changes it: what it does to data -/
def MutD (K : PySem.W.Frag) (r : V → List V → Hp → VK → Prop) (g : List D → List D → (List D → D → Prop) → Prop) : Prop := ∀ (F H : Hp) (p : Addr) (xs vs : List V) (ds as : List D) (Q : VK) (P : List D → D → Prop),
  H p = some (.lst xs) → RepL K F xs ds → RepL K F vs as → g ds as P → (∀ xs' ds' v d, RepL K F xs' ds' → Rep K F v d → P ds' d → Q v (upd H p (.lst xs'))) → r (.ref p) vs H Q
/-- x.m(e), x a slot's own list -/
def xMut (i : Nat) (g : List D → List D → (List D → D → Prop) → Prop) (f : FX) : FX := fun st Q E => (∃ ds, st.sl[i]? = some (.mu (.lst ds))) ∧ f st (fun st1 a => match st1.sl[i]? with
  | some (.mu (.lst ds)) => g ds [a] fun ds' d => Q (st1.set i (.mu (.lst ds'))) d
  | _ => False) E
def xMut0 (i : Nat) (g : List D → List D → (List D → D → Prop) → Prop) : FX := fun st Q _ => match st.sl[i]? with
  | some (.mu (.lst ds)) => g ds [] fun ds' d => Q (st.set i (.mu (.lst ds'))) d
  | _ => False
theorem SemX.mut (i : Nat) {r : V → List V → Hp → VK → Prop} {g : List D → List D → (List D → D → Prop) → Prop} (hg : MutD K r g) (q : SemX K E te fx) : SemX K E (tBM K "list" r (tVar i) (tCons te tNil)) (xMut i g fx) := by
  intro φ F H σ st Q Qd Ed o x h k
  obtain ⟨⟨ds0, e0⟩, h⟩ := h
  obtain ⟨p, ep, ow, xs0, hp, r0⟩ := o.so.sl i _ e0
  refine ⟨.ref p, ep, .inl ⟨rfl, xs0, SqL.of hp⟩, ?_⟩
  refine q φ F H σ st _ _ Ed o x h fun F1 H1 st1 v a o1 rv h1 => ?_
  cases e1 : st1.sl[i]? with
  | none => rw [e1] at h1; exact h1.elim
  | some s =>
    rw [e1] at h1
    cases s with
    | mu d =>
      cases d with
      | lst ds =>
        obtain ⟨p', ep', ow', xs, hp', r'⟩ := o1.so.sl i _ e1
        rw [ep] at ep'
        cases ep'
        refine hg F1 H1 p xs [v] ds [a] Q _ hp' r' (.cons rv .nil) h1 fun xs' ds' w d rx rw' h2 => ?_
        exact k F1 _ _ w d (o1.write (d := .lst ds') e1 ep ⟨xs', upd_same, rx⟩) rw' h2
      | _ => exact h1.elim
    | _ => exact h1.elim
theorem SemX.mut0 (i : Nat) {r : V → List V → Hp → VK → Prop} {g : List D → List D → (List D → D → Prop) → Prop} (hg : MutD K r g) : SemX K E (tBM0 K "list" r (tVar i)) (xMut0 i g) := by
  intro φ F H σ st Q Qd Ed o x h k
  unfold xMut0 at h
  cases e1 : st.sl[i]? with
  | none => rw [e1] at h; exact h.elim
  | some s =>
    rw [e1] at h
    cases s with
    | mu d =>
      cases d with
      | lst ds =>
        obtain ⟨p, ep, ow, xs, hp, r'⟩ := o.so.sl i _ e1
        refine ⟨.ref p, ep, .inl ⟨rfl, xs, SqL.of hp⟩, ?_⟩
        exact hg F H p xs [] ds [] Q _ hp r' .nil h fun xs' ds' w d rx rw' h2 => k F _ _ w d (o.write (d := .lst ds') e1 ep ⟨xs', upd_same, rx⟩) rw' h2
      | _ => exact h.elim
    | _ => exact h.elim
/-- two arguments: x.insert(i, e) -/
def xMut2 (i : Nat) (g : List D → List D → (List D → D → Prop) → Prop) (f f2 : FX) : FX := fun st Q E => (∃ ds, st.sl[i]? = some (.mu (.lst ds))) ∧ f st (fun st1 a => f2 st1 (fun st2 b => match st2.sl[i]? with
  | some (.mu (.lst ds)) => g ds [a, b] fun ds' d => Q (st2.set i (.mu (.lst ds'))) d
  | _ => False) E) E
end
def gAppend (ds as : List D) (P : List D → D → Prop) : Prop := match as with
  | [a] => ds.length < sizeLine ∧ P (ds ++ [a]) .non
  | _ => False
theorem mutd_append {K : PySem.W.Frag} : MutD K rAppend gAppend := fun F H p xs vs ds as Q P hp rx rv h k => by
  match as, rv, h with
  | [a], .cons ra .nil, h => exact ⟨p, xs, _, rfl, rfl, hp, by rw [rx.length]; exact h.1, k _ _ _ _ (rx.app (.cons ra .nil)) .non h.2⟩
def gPop (ds as : List D) (P : List D → D → Prop) : Prop := match as with
  | [] => (match ds[ds.length - 1]? with
    | some d => P ds.dropLast d
    | none => False)
  | _ => False
theorem RepL.dropLast {K : PySem.W.Frag} {F : Hp} {vs : List V} {ds : List D} (h : RepL K F vs ds) : RepL K F vs.dropLast ds.dropLast := by
  rw [List.dropLast_eq_take, List.dropLast_eq_take, h.length]
  exact h.take _
theorem RepL.erase {K : PySem.W.Frag} {F : Hp} {vs : List V} {ds : List D} (h : RepL K F vs ds) (n : Nat) : RepL K F (vs.eraseIdx n) (ds.eraseIdx n) := by
  rw [List.eraseIdx_eq_take_drop_succ, List.eraseIdx_eq_take_drop_succ]
  exact (h.take n).app (h.drop (n + 1))
theorem mutd_pop {K : PySem.W.Frag} : MutD K rPop gPop := fun F H p xs vs ds as Q P hp rx rv h k => by
  match as, rv, h with
  | [], .nil, h =>
    have h' : (match ds[ds.length - 1]? with
      | some d => P ds.dropLast d
      | none => False) := h
    cases e : ds[ds.length - 1]? with
    | none => rw [e] at h'; exact h'.elim
    | some d =>
      rw [e] at h'
      obtain ⟨v, ev, r⟩ := rx.get e
      exact ⟨p, xs, v, rfl, rfl, hp, by rw [rx.length]; exact ev, k _ _ _ _ rx.dropLast r h'⟩
def gPopAt (ds as : List D) (P : List D → D → Prop) : Prop := match as with
  | [.int i] => 0 ≤ i ∧ i < 4611686018427387904 ∧ (match ds[i.toNat]? with
    | some d => P (ds.eraseIdx i.toNat) d
    | none => False)
  | _ => False
end DL

/-! DL, part f: what a def promises, where no display of data is under way (so that repr may be asked); calls. -/
namespace DL
open PySem PySem.Spec PyProof.Rows L2
/-- a def's promise, for a call outside of every display -/
structure FnG (P : Program) (w : World) (K : PySem.W.Frag) (mg : Str → Option Value) (base : Heap) (CX : CXT) (k : Nat) (f : Addr) (fd : FuncData) (ps : List Str) (sp : Sp) : Prop where
  len : ∀ vs H Q E, sp vs H Q E → vs.length = ps.length
  go : ∀ (A : Around) (outer : List Env) (s : Shared) (H : Hp) (args : Args) (us : List Value) (vs : List V) (Q : VK) (E : XK),
    A.guards = some [] → Room k A → Env0 P w K mg base A outer s H → BindsTo s fd args (ps.zip us) → Vals vs us → sp vs H Q E →
    codeAny (model P w) A (.call (.ref f) args) (CR CX outer P w H s Q E) s
section
variable {P : Program} {w : World} {K : PySem.W.Frag} {mg : Str → Option Value} {base : Heap} {CX : CXT} {j k : Nat} {f C : Addr} {fd : FuncData} {ps : List Str} {sp sp' : Sp}
theorem FnG.mono (F : FnG P w K mg base CX j f fd ps sp) (h : j ≤ k) : FnG P w K mg base CX k f fd ps sp :=
  ⟨F.len, fun A outer s H args us vs Q E hg hr => F.go A outer s H args us vs Q E hg (hr.mono h)⟩
theorem FnG.of_ok (F : FnOk P w K mg base CX k f fd ps sp) : FnG P w K mg base CX k f fd ps sp :=
  ⟨F.len, fun A outer s H args us vs Q E _ hr => F.run A outer s H args us vs Q E hr⟩
/-- a def of the text, by its body -/
theorem Fun.okG {x qual : Str} {st : Stmt} {N : List Str} (F : Fun K x qual st f fd) (S : FnScope N ps (defScope st)) (len : ∀ vs H Q E, sp vs H Q E → vs.length = ps.length)
    (body : ∀ (cdv : Value) (A : Around) (outer : List Env) (s : Shared) (H : Hp) (vs : List V) (Q : VK) (E : XK), A.guards = some [] → Room k (A.deeper (envOfC qual (defScope st) s.heap.objs.size f cdv)) → sp vs H Q E →
      ∃ t, PSs (cxOf CX P w K mg base N qual (defScope st) f cdv A outer s H E) (defBody st) t ∧ t { nx := fun _ H' => Q .non H', rt := Q } (start N vs) H) :
    FnG P w K mg base CX (k + 1) f fd ps sp := by
  obtain ⟨oc, od, kV, doc, pm, an, cdv, ct, osl, rfl, lk, hcd⟩ := F.ex
  constructor
  case len => exact len
  case go =>
    intro A outer s H args us vs Q E hgd hr e0 hb rv hsp
    have low : ∀ b o, base.get? b = some o → s.heap.get? b = some o := fun b o e => (e0.bs b o e).1
    have inK : K.In s.heap := e0.mod.kin.keeps low
    refine codeAny_call_function hr.depth (inK _ _ lk) rfl S.co S.gen rfl (PySem.W.codeRec_of inK hcd) (hb _ _ _ _ ?_)
    refine wpAny_newFunctionEnv_cells S.kind ?kinds fun env ee s1 hs1 => ?_
    case kinds =>
      rintro ⟨n, v⟩ hy
      rcases S.par n (List.of_mem_zip hy).1 with q | q
      · left; exact q
      · right; exact ⟨q, PySem.W.cellsFrom_some _ _ _ (Or.inl q)⟩
    subst ee
    refine ⟨(e0.mod.nolimit.keeps low).keeps hs1.toInCall.keep, codeAny_func ?_⟩
    obtain ⟨t, ht, hq⟩ := body cdv A outer s H vs Q E hgd (hr.deeper _) hsp
    have I := inv_start (CX := CX) (E := E) S hr.hd e0 (len _ _ _ _ hsp) rv hs1
    refine wpAny_mono (ht.run [] s1 (start N vs) H _ I hq) ?_ (fun _ _ z => z)
    intro fl s' hfl
    cases fl with
    | ret u => exact let ⟨v, _, H', J, r1, q1⟩ := hfl; ⟨v, H', J.os, J.bare, J.base, J.hok, r1, q1⟩
    | next => exact let ⟨_, H', J, q1⟩ := hfl; ⟨.non, H', J.os, J.bare, J.base, J.hok, rfl, q1⟩
    | brk => exact let ⟨_, _, _, q1⟩ := hfl; q1.elim
    | cont => exact let ⟨_, _, _, q1⟩ := hfl; q1.elim
end
section
variable {X : Cx} {CX : CXT} {k : Nat} {f C : Addr} {fd : FuncData} {ps ks : List Str} {sp : Sp} {E : XK} {x : Str} {p pos : Pos} {e : Expr} {es : List Expr} {kws : List Keyword} {t tk : TA}
theorem after_call {pins : List (Addr × Obj)} {σ : L2.St} {H : Hp} {s s' : Shared} {Q : VK} {r : Result} (hx : Passes CX X E) (I : Inv X pins σ H s) (h : CR CX X.stack X.prog X.w H s Q E r s') :
    (match r with
      | .ok (.ret u) => EP X pins σ Q u s'
      | .ok _ => False
      | .error e => X.xe e s') := by
  cases r with
  | error e => exact hx pins σ H s e s' I h
  | ok fl => cases fl with
    | ret u => exact I.after h
    | next => exact h
    | brk => exact h
    | cont => exact h
theorem call_end {pins : List (Addr × Obj)} {σ : L2.St} {H : Hp} {s : Shared} {Q : VK} {g : Value} {us : List Value} {kw : List (Str × Value)} (hx : Passes CX X E) (I : Inv X pins σ H s)
    (h : codeAny (model X.prog X.w) X.A (.call g ⟨us, kw⟩) (CR CX X.stack X.prog X.w H s Q E) s) : wpAny (model X.prog X.w) X.A (call g us kw) (EP X pins σ Q) X.xe s := by
  refine wpAny_call (codeAny_mono h fun r s' hq => ?_)
  have q := after_call hx I hq
  cases r with
  | error e => exact q
  | ok fl => cases fl with
    | ret u => exact q
    | next => exact q.elim
    | brk => exact q.elim
    | cont => exact q.elim
/-- f(e, ..) -/
theorem pe_callG (F : FnG X.prog X.w X.K X.mg X.base CX k f fd ps sp) (hgd : X.A.guards = some []) (hr : Room k X.A) (hm : X.mg x = some (.ref f)) (hk : PySem.W.keepIn X.K (.ref f) = true) (hb : Binds X.K fd ps []) (hx : Passes CX X E) (ha : PA X (e :: es) t)
    (hg : Gl X x := by rfl) (hdb : (x == ("__debug__" : Str)) = false := by decide) (he : starEach (e :: es) X.env = (false, eval e X.env) :: starEach es X.env := by rfl) (hpl : (backTo pos (starEach es X.env)).any (·.1) = false := by rfl) :
    PE X (.Call (.Name x p) (e :: es) [] pos) (tCall sp [] E t) := by
  constructor
  intro pins s σ H Q I h
  refine wpAny_Call_Name_kw (ld_glob I hg hm ?_ hdb)
  refine PySem.W.callWith_K (h₀ := X.base) I.ok.mod.kin hk ?_ he hpl
  refine thn (ha.run pos pins s σ H _ I h) fun us s1 hus => ?_
  obtain ⟨vs, H1, I1, rv, q⟩ := hus
  refine ⟨I1.kIn, call_end hx I1 ?_⟩
  have q' : sp vs H1 Q E := by
    rw [List.append_nil] at q
    exact q
  have z := hb s1 us I1.kIn (by rw [List.append_nil, ← rv.length]; exact F.len _ _ _ _ q')
  rw [List.append_nil] at z
  exact F.go X.A X.stack s1 H1 ⟨us, []⟩ us vs Q E hgd hr I1.env0 z rv q'
/-- f() -/
theorem pe_callG0 (F : FnG X.prog X.w X.K X.mg X.base CX k f fd ps sp) (hgd : X.A.guards = some []) (hr : Room k X.A) (hm : X.mg x = some (.ref f)) (hk : PySem.W.keepIn X.K (.ref f) = true) (hb : Binds X.K fd ps []) (hx : Passes CX X E)
    (hg : Gl X x := by rfl) (hdb : (x == ("__debug__" : Str)) = false := by decide) : PE X (.Call (.Name x p) [] [] pos) (tCall sp [] E tNil) := by
  constructor
  intro pins s σ H Q I h
  refine wpAny_Call_Name_kw (ld_glob I hg hm ?_ hdb)
  refine PySem.W.callWith_K0 I.kIn hk (call_end hx I ?_)
  have h' : sp [] H Q E := h
  have z := hb s [] I.kIn (F.len _ _ _ _ h')
  exact F.go X.A X.stack s H ⟨[], []⟩ [] [] Q E hgd hr I.env0 z .nil h'
/-- f(e, .., n = v, ..) -/
theorem pe_callGK {g : List Value → List Value → List Value} {gV : List V → List V → List V} (F : FnG X.prog X.w X.K X.mg X.base CX k f fd ps sp) (hgd : X.A.guards = some []) (hr : Room k X.A) (hm : X.mg x = some (.ref f)) (hk : PySem.W.keepIn X.K (.ref f) = true)
    (hb : KBinds X.K fd ps ks g gV) (hx : Passes CX X E) (ha : PA X (e :: es) t) (hkw : PK X kws tk) (hg : Gl X x := by rfl) (hall : (backToKw pos (keywordEach kws X.env)).all (·.1.isSome) = true := by rfl) (hks : (backToKw pos (keywordEach kws X.env)).filterMap (·.1) = ks := by rfl)
    (hdb : (x == ("__debug__" : Str)) = false := by decide) (he : starEach (e :: es) X.env = (false, eval e X.env) :: starEach es X.env := by rfl)
    (hpl : ((backTo pos (starEach (e :: es) X.env)).any (·.1) || (backToKw pos (keywordEach kws X.env)).any (·.1.isNone)) = false := by rfl) : PE X (.Call (.Name x p) (e :: es) kws pos) (tCallK sp gV E t tk) := by
  constructor
  intro pins s σ H Q I h
  refine wpAny_Call_Name_kw (ld_glob I hg hm ?_ hdb)
  refine PySem.W.callWith_KW (h₀ := X.base) I.ok.mod.kin hk hall ?_ hpl he
  refine thn (ha.run pos pins s σ H _ I h) fun us s1 hus => ?_
  obtain ⟨vs, H1, I1, rv, q⟩ := hus
  refine thn (hkw.run pos pins s1 σ H1 _ I1 q) fun ws s2 hws => ?_
  obtain ⟨zs, H2, I2, rz, q2⟩ := hws
  rw [hks]
  refine ⟨I2.kIn, call_end hx I2 ?_⟩
  have r2 := hb.rel rv rz
  exact F.go X.A X.stack s2 H2 ⟨us, ks.zip ws⟩ (g us ws) (gV vs zs) Q E hgd hr I2.env0 (hb.to s2 us ws I2.kIn (by rw [← r2.length]; exact F.len _ _ _ _ q2)) r2 q2
theorem guards_make {A : Around} {us : List Value} {kw : List (Str × Value)} (h : A.guards = some []) : (A.under (.builtin "type.__call__" ⟨.ref C :: us, kw⟩)).guards = some [] := by
  show pushGuards (Code.guards (.builtin "type.__call__" ⟨.ref C :: us, kw⟩)) A.guards = some []
  have e : Code.guards (.builtin "type.__call__" ⟨.ref C :: us, kw⟩) = [] := by
    unfold Code.guards
    have e2 : (Code.builtin "type.__call__" ⟨.ref C :: us, kw⟩).isGuard = false := by
      show guardIds.contains "type.__call__" = false
      decide +kernel
    rw [e2]
    rfl
  rw [e, h]
  rfl
/-- C(e, ..), an own class with __init__ -/
theorem pe_makeG (M : Mk X.K C f) (F : FnG X.prog X.w X.K X.mg X.base CX k f fd ps sp) (hgd : X.A.guards = some []) (hr : Room (k + 1) X.A) (hm : X.mg x = some (.ref C)) (hb : Binds X.K fd ps []) (hx : Passes CX X E) (ha : PA X (e :: es) t)
    (hg : Gl X x := by rfl) (hdb : (x == ("__debug__" : Str)) = false := by decide) (he : starEach (e :: es) X.env = (false, eval e X.env) :: starEach es X.env := by rfl) (hpl : (backTo pos (starEach es X.env)).any (·.1) = false := by rfl) :
    PE X (.Call (.Name x p) (e :: es) [] pos) (tMake C sp [] E t) := by
  constructor
  intro pins s σ H Q I h
  refine wpAny_Call_Name_kw (ld_glob I hg hm ?_ hdb)
  refine PySem.W.callWith_K (h₀ := X.base) I.ok.mod.kin M.kp ?_ he hpl
  refine thn (ha.run pos pins s σ H _ I h) fun us s1 hus => ?_
  obtain ⟨vs, H1, I1, rv, q⟩ := hus
  refine ⟨I1.kIn, ?_⟩
  let n := s1.heap.objs.size
  have hq0 := q (n + 1) n (I1.hok.fresh (Nat.le_succ _)) (I1.hok.fresh (Nat.le_refl _)) (Nat.ne_of_lt (Nat.lt_succ_self _))
  have hq : sp (.ref (n + 1) :: vs) (upd (upd H1 n (.own (n + 1))) (n + 1) (.ins C n [])) (fun v H2 => v = .non ∧ Q (.ref (n + 1)) H2) E := by
    have z := hq0
    rw [List.append_nil] at z
    exact z
  have I2 := Inv.made (C := C) I1
  have r2 : Vals (V.ref (n + 1) :: vs) (Value.ref (n + 1) :: us) := .cons rfl rv
  have z := hb _ (Value.ref (n + 1) :: us) I2.kIn (by rw [List.append_nil, ← r2.length]; exact F.len _ _ _ _ hq)
  rw [List.append_nil] at z
  have run := F.go _ X.stack _ _ ⟨Value.ref (n + 1) :: us, []⟩ (Value.ref (n + 1) :: us) _ _ E (guards_make (C := C) (us := us) (kw := []) hgd) (hr.make C us []) (I2.env0.make C us []) z r2 hq
  refine wpAny_call (make_map (f := f) I1.kIn M.makes M.init (beq_iff_eq.mp M.fn) (codeAny_mono run fun r s' hr' => ?_))
  have w2 := after_call hx I2 hr'
  cases r with
  | error e => exact w2
  | ok fl => cases fl with
    | next => exact w2.elim
    | brk => exact w2.elim
    | cont => exact w2.elim
    | ret u =>
      obtain ⟨v, H', I3, r3, ev, q3⟩ := w2
      subst ev
      exact ⟨r3, V.ref (n + 1), H', I3, rfl, q3⟩
end
end DL

/-! DL, part g: promises over data; a def by its body; calls as expressions. -/
namespace DL
open PySem PySem.Spec PyProof.Rows L2
abbrev DSpec := List D → (D → Prop) → (XD → Prop) → Prop
abbrev NSpec := List D → (D → Prop) → Prop
/-- a promise over data -/
def spD (K : PySem.W.Frag) (n : Nat) (sp : DSpec) : Sp := fun vs H Q E => vs.length = n ∧ ∃ (F : Hp) (ds : List D) (Qd : D → Prop) (Ed : XD → Prop), Same F H ∧ All2 (Rep K F) vs ds ∧ sp ds Qd Ed ∧
  (∀ F' H' v d, Step none F H F' H' → Rep K F' v d → Qd d → Q v H') ∧ XO K none E F H Ed
/-- .. of a def that is handed the deal first -/
def spL (K : PySem.W.Frag) (n : Nat) (sp : DSpec) : Sp := fun vs H Q E => vs.length = n ∧ ∃ (a b : Addr) (ws : List V) (F : Hp) (ds : List D) (Qd : D → Prop) (Ed : XD → Prop), vs = .ref a :: ws ∧ Same F H ∧ DlOk (some (a, b)) F H ∧ All2 (Rep K F) ws ds ∧ sp ds Qd Ed ∧
  (∀ F' H' v d, Step (some (a, b)) F H F' H' → Rep K F' v d → Qd d → Q v H') ∧ XO K (some (a, b)) E F H Ed
/-- .. of a def that makes the deal -/
def spM (K : PySem.W.Frag) (n : Nat) (sp : List D → Prop → Prop) : Sp := fun vs H Q E => vs.length = n ∧ ∃ (F : Hp) (ds : List D) (Qd : Prop), Same F H ∧ All2 (Rep K F) vs ds ∧ sp ds Qd ∧
  (∀ F' H' a b, Step none F H F' H' → H a = none → H b = none → DlOk (some (a, b)) F' H' → Qd → Q (.ref a) H')
def nS (sp : NSpec) : DSpec := fun ds Q _ => sp ds Q
theorem all2_len {α β : Type} {R : α → β → Prop} : ∀ {as : List α} {bs : List β}, All2 R as bs → as.length = bs.length
  | _, _, .nil => rfl
  | _, _, .cons _ t => by rw [List.length_cons, List.length_cons, all2_len t]
theorem all2_get {α β : Type} {R : α → β → Prop} : ∀ {as : List α} {bs : List β} {i : Nat} {b : β}, All2 R as bs → bs[i]? = some b → ∃ a, as[i]? = some a ∧ R a b
  | _, _, _, _, .nil, e => by cases e
  | _, _, 0, _, .cons h _, e => by cases e; exact ⟨_, rfl, h⟩
  | _, _, i + 1, _, .cons _ t, e => all2_get (i := i) t e
/-- the slots at a def's entry -/
def init (n : Nat) (ds : List D) : DSt := ⟨ds.map Sl.val ++ List.replicate (n - ds.length) .no, none⟩
def initL (n : Nat) (ds : List D) (a b : Addr) : DSt := ⟨.deal :: (ds.map Sl.val ++ List.replicate (n - 1 - ds.length) .no), some (a, b)⟩
section
variable {K : PySem.W.Frag} {F H : Hp} {vs : List V} {ds : List D} {N : List Str} {a b : Addr}
theorem start_get {i : Nat} {v : V} (e : vs[i]? = some v) : (start N vs)[i]? = some (some v) := by
  unfold L2.start
  have hi := (List.getElem?_eq_some_iff.mp e).1
  rw [List.getElem?_append_left (by rw [List.length_map]; exact hi), List.getElem?_map, e]
  rfl
theorem init_sok (s : Same F H) (r : All2 (Rep K F) vs ds) (hl : vs.length ≤ N.length) : SOk K H F H (start N vs) (init N.length ds) := by
  have len := all2_len r
  have lk : ∀ (i : Nat) (z : Sl), (init N.length ds).sl[i]? = some z → z = .no ∨ ∃ d, ds[i]? = some d ∧ z = .val d := fun i z e => by
    have e' : (ds.map Sl.val ++ List.replicate (N.length - ds.length) Sl.no)[i]? = some z := e
    by_cases hi : i < ds.length
    · rw [List.getElem?_append_left (by rw [List.length_map]; exact hi), List.getElem?_map, List.getElem?_eq_getElem hi] at e'
      cases e'
      exact .inr ⟨_, List.getElem?_eq_getElem hi, rfl⟩
    · rw [List.getElem?_append_right (by rw [List.length_map]; omega), List.getElem?_replicate] at e'
      split at e'
      · cases e'
        exact .inl rfl
      · cases e'
  refine ⟨s, trivial, ?_, fun i z e => ?_, fun i j y z p hij e1 e2 o1 o2 q1 q2 => ?_⟩
  · show (start N vs).length = (ds.map Sl.val ++ List.replicate (N.length - ds.length) Sl.no).length
    unfold L2.start
    rw [List.length_append, List.length_append, List.length_map, List.length_map, List.length_replicate, List.length_replicate]
    omega
  · rcases lk i z e with h | ⟨d, ed, h⟩
    · subst h
      trivial
    · subst h
      obtain ⟨v, ev, rv⟩ := all2_get r ed
      exact ⟨v, start_get ev, rv⟩
  · rcases lk i y e1 with h | ⟨d, ed, h⟩
    · subst h
      cases o1
    · subst h
      cases o1
theorem initL_sok (s : Same F H) (dk : DlOk (some (a, b)) F H) (r : All2 (Rep K F) vs ds) (hl : vs.length + 1 ≤ N.length) : SOk K H F H (start N (.ref a :: vs)) (initL N.length ds a b) := by
  have len := all2_len r
  have lk : ∀ (i : Nat) (z : Sl), (initL N.length ds a b).sl[i]? = some z → (i = 0 ∧ z = .deal) ∨ z = .no ∨ ∃ d j, i = j + 1 ∧ ds[j]? = some d ∧ z = .val d := fun i z e => by
    cases i with
    | zero =>
      cases e
      exact .inl ⟨rfl, rfl⟩
    | succ i =>
      have e' : (ds.map Sl.val ++ List.replicate (N.length - 1 - ds.length) Sl.no)[i]? = some z := e
      by_cases hi : i < ds.length
      · rw [List.getElem?_append_left (by rw [List.length_map]; exact hi), List.getElem?_map, List.getElem?_eq_getElem hi] at e'
        cases e'
        exact .inr (.inr ⟨_, i, rfl, List.getElem?_eq_getElem hi, rfl⟩)
      · rw [List.getElem?_append_right (by rw [List.length_map]; omega), List.getElem?_replicate] at e'
        split at e'
        · cases e'
          exact .inr (.inl rfl)
        · cases e'
  refine ⟨s, dk, ?_, fun i z e => ?_, fun i j y z p hij e1 e2 o1 o2 q1 q2 => ?_⟩
  · show (start N (.ref a :: vs)).length = (Sl.deal :: (ds.map Sl.val ++ List.replicate (N.length - 1 - ds.length) Sl.no)).length
    unfold L2.start
    simp only [List.length_append, List.length_cons, List.length_map, List.length_replicate]
    omega
  · rcases lk i z e with ⟨h0, h⟩ | h | ⟨d, j, hj, ed, h⟩
    · subst h0 h
      exact ⟨a, b, rfl, start_get rfl⟩
    · subst h
      trivial
    · subst hj h
      obtain ⟨v, ev, rv⟩ := all2_get r ed
      exact ⟨v, start_get (show (V.ref a :: vs)[j + 1]? = some v from ev), rv⟩
  · rcases lk i y e1 with ⟨_, h⟩ | h | ⟨_, _, _, _, h⟩
    all_goals
      subst h
      cases o1
end
/-- how a def's body ends -/
def endsD (Q : D → Prop) (E : XD → Prop) : DEnds := { nx := fun _ => Q .non, rt := Q, ex := E }
section
variable {P : Program} {w : World} {K : PySem.W.Frag} {mg : Str → Option Value} {base : Heap} {k : Nat} {f : Addr} {fd : FuncData} {ps N : List Str} {x qual : Str} {st : Stmt}
/-- a def that raises nothing -/
theorem Fun.okN {sp : NSpec} (F : Fun K x qual st f fd) (S : FnScope N ps (defScope st))
    (body : ∀ (cdv : Value) (A : Around) (outer : List Env) (s : Shared) (H : Hp) (E : XK), A.guards = some [] → Room k (A.deeper (envOfC qual (defScope st) s.heap.objs.size f cdv)) →
      ∃ fs, MSs (fun _ : Unit => (cxOf CX0 P w K mg base N qual (defScope st) f cdv A outer s H E).nox) E0 (defBody st) fs ∧ ∀ ds Qd, ds.length = ps.length → sp ds Qd → fs (endsD Qd fun _ => False) (init N.length ds)) :
    FnG P w K mg base CX0 (k + 1) f fd ps (spD K ps.length (nS sp)) := by
  refine Fun.okG F S (fun vs H Q E h => h.1) fun cdv A outer s H vs Q E hg hr h => ?_
  obtain ⟨hl, F1, ds, Qd, Ed, sm, r, hsp, hQ, hE⟩ := h
  obtain ⟨fs, ⟨t, ht⟩, hf⟩ := body cdv A outer s H E hg hr
  have hpl : ps.length ≤ N.length := by have := congrArg List.length S.pre; rw [List.length_take] at this; omega
  have so : SOk K H F1 H (start N vs) (init N.length ds) := init_sok sm r (by omega)
  refine ⟨t, (ht ()).1.nox, ?_⟩
  refine (ht ()).2 ⟨fun _ => False, none, F1, H⟩ F1 H (start N vs) (init N.length ds) _ (endsD Qd fun _ => False) ⟨so, FStep.refl sm, .inl rfl, fun b z => z.elim, fun i C gs p e q => ?_⟩ (fun _ _ _ _ _ _ _ _ z => z.elim) (hf ds Qd (by rw [← all2_len r]; exact hl) hsp) ⟨?_, ?_, ?_, ?_, fun _ _ _ _ _ _ _ _ z => z.elim⟩
  · have e' : (ds.map Sl.val ++ List.replicate (N.length - ds.length) Sl.no)[i]? = some (.ins C gs) := e
    by_cases hi : i < ds.length
    · rw [List.getElem?_append_left (by rw [List.length_map]; exact hi), List.getElem?_map, List.getElem?_eq_getElem hi] at e'
      cases e'
    · rw [List.getElem?_append_right (by rw [List.length_map]; omega), List.getElem?_replicate] at e'
      split at e' <;> cases e'
  · intro F' H' σ' st' o q
    exact hQ F' H' _ .non ⟨o.fs, trivial⟩ .non q
  · intro F' H' σ' st' o q
    exact q.elim
  · intro F' H' σ' st' o q
    exact q.elim
  · intro F' H' v d s1 dk r1 q
    exact hQ F' H' v d ⟨s1, trivial⟩ r1 q
/-- .. that is handed the deal -/
theorem Fun.okL {sp : NSpec} (F : Fun K x qual st f fd) (S : FnScope N ps (defScope st))
    (body : ∀ (cdv : Value) (A : Around) (outer : List Env) (s : Shared) (H : Hp) (E : XK), A.guards = some [] → Room k (A.deeper (envOfC qual (defScope st) s.heap.objs.size f cdv)) →
      ∃ fs, MSs (fun _ : Unit => (cxOf CX0 P w K mg base N qual (defScope st) f cdv A outer s H E).nox) E0 (defBody st) fs ∧ ∀ a b ds Qd, ds.length + 1 = ps.length → sp ds Qd → fs (endsD Qd fun _ => False) (initL N.length ds a b)) :
    FnG P w K mg base CX0 (k + 1) f fd ps (spL K ps.length (nS sp)) := by
  refine Fun.okG F S (fun vs H Q E h => h.1) fun cdv A outer s H vs Q E hg hr h => ?_
  obtain ⟨hl, a, b, ws, F1, ds, Qd, Ed, rfl, sm, dk, r, hsp, hQ, hE⟩ := h
  obtain ⟨fs, ⟨t, ht⟩, hf⟩ := body cdv A outer s H E hg hr
  rw [List.length_cons] at hl
  have hpl : ps.length ≤ N.length := by have := congrArg List.length S.pre; rw [List.length_take] at this; omega
  have so : SOk K H F1 H (start N (.ref a :: ws)) (initL N.length ds a b) := initL_sok sm dk r (by omega)
  refine ⟨t, (ht ()).1.nox, ?_⟩
  refine (ht ()).2 ⟨isDl (some (a, b)), some (a, b), F1, H⟩ F1 H (start N (.ref a :: ws)) (initL N.length ds a b) _ (endsD Qd fun _ => False) ⟨so, FStep.refl sm, .inl rfl, fun b z => .inl z, fun i C gs p e q => ?_⟩ (fun _ _ _ _ _ _ _ _ z => z.elim) (hf a b ds Qd (by rw [← all2_len r]; exact hl) hsp) ⟨?_, ?_, ?_, ?_, fun _ _ _ _ _ _ _ _ z => z.elim⟩
  · cases i with
    | zero => cases e
    | succ i =>
      have e' : (ds.map Sl.val ++ List.replicate (N.length - 1 - ds.length) Sl.no)[i]? = some (.ins C gs) := e
      by_cases hi : i < ds.length
      · rw [List.getElem?_append_left (by rw [List.length_map]; exact hi), List.getElem?_map, List.getElem?_eq_getElem hi] at e'
        cases e'
      · rw [List.getElem?_append_right (by rw [List.length_map]; omega), List.getElem?_replicate] at e'
        split at e' <;> cases e'
  · intro F' H' σ' st' o q
    refine hQ F' H' _ .non ⟨o.fs, ?_⟩ .non q
    rcases o.dlk with z | z
    · have := o.so.dl
      rw [z] at this
      exact this
    · cases z
  · intro F' H' σ' st' o q
    exact q.elim
  · intro F' H' σ' st' o q
    exact q.elim
  · intro F' H' v d s1 dk r1 q
    exact hQ F' H' v d ⟨s1, dk⟩ r1 q
end

/-! ### calls as expressions -/
section
variable {ι : Type} {X : ι → Cx} {K : PySem.W.Frag} {E : XK} {k : Nat} {f : Addr} {fd : FuncData} {ps ks : List Str} {x : Str} {p pos : Pos} {e : Expr} {es : List Expr} {ff fk : FA} {tr tk : TA} {kws : List Keyword}
def dCall (sp : NSpec) (ff : FA) : FE := fun st Q E => ff st (fun ds => sp ds Q) E
theorem SemE.call {n : Nat} {sp : NSpec} (q : SemA K E tr ff) (hn : ∀ ds Q, sp ds Q → ds.length = n) : SemE K E (tCall (spD K n (nS sp)) [] E0 tr) (dCall sp ff) := by
  intro H0 F H σ st Q Qd Ed s x h k
  refine q H0 F H σ st _ _ Ed s x h fun F1 H1 vs ds s1 r1 h1 => ?_
  have k1 := s.step s1
  refine ⟨by rw [List.append_nil, all2_len r1]; exact hn _ _ h1, F1, ds, Qd, fun _ => False, k1.fh, by rw [List.append_nil]; exact r1, h1, fun F' H' v d s2 r2 h2 => k F' H' v d (s1.trans (s2.lift k1.dl)) r2 h2, XO.none⟩
/-- f(e, ..), f a def that raises nothing -/
theorem me_call {sp : NSpec} (G : ∀ i, FnG (X i).prog (X i).w (X i).K (X i).mg (X i).base CX0 k f fd ps (spD K ps.length (nS sp))) (hgd : ∀ i, (X i).A.guards = some []) (hr : ∀ i, Room k (X i).A) (hm : ∀ i, (X i).mg x = some (.ref f)) (hk : ∀ i, PySem.W.keepIn (X i).K (.ref f) = true)
    (hb : ∀ i, Binds (X i).K fd ps []) (hn : ∀ ds Q, sp ds Q → ds.length = ps.length) (ha : MA X E (e :: es) ff) (hK : ∀ i, (X i).K = K := by intro _; rfl) (hg : ∀ i, Gl (X i) x := by intro _; rfl) (hdb : (x == ("__debug__" : Str)) = false := by decide)
    (he : ∀ i, starEach (e :: es) (X i).env = (false, eval e (X i).env) :: starEach es (X i).env := by intro _; rfl) (hpl : ∀ i, (backTo pos (starEach es (X i).env)).any (·.1) = false := by intro _; rfl) : ME X E (.Call (.Name x p) (e :: es) [] pos) (dCall sp ff) := by
  obtain ⟨t, h⟩ := ha
  refine ⟨_, fun i => ⟨pe_callG (G i) (hgd i) (hr i) (hm i) (hk i) (hb i) pass0 (h i).1 (hg i) hdb (he i) (hpl i), ?_⟩⟩
  have q := (h i).2
  rw [hK i] at q ⊢
  exact SemE.call q hn
/-- .. all by keywords -/
theorem pe_callGK0 {X : Cx} {CX : CXT} {sp : Sp} {g : List Value → List Value → List Value} {gV : List V → List V → List V} (F : FnG X.prog X.w X.K X.mg X.base CX k f fd ps sp) (hgd : X.A.guards = some []) (hr : Room k X.A) (hm : X.mg x = some (.ref f)) (hk : PySem.W.keepIn X.K (.ref f) = true)
    (hb : KBinds X.K fd ps ks g gV) (hx : Passes CX X E) (hkw : PK X kws tk) (hg : Gl X x := by rfl) (hall : (backToKw pos (keywordEach kws X.env)).all (·.1.isSome) = true := by rfl) (hks : (backToKw pos (keywordEach kws X.env)).filterMap (·.1) = ks := by rfl)
    (hdb : (x == ("__debug__" : Str)) = false := by decide) (hpl : ((backTo pos (starEach [] X.env)).any (·.1) || (backToKw pos (keywordEach kws X.env)).any (·.1.isNone)) = false := by rfl) : PE X (.Call (.Name x p) [] kws pos) (tCallK sp gV E tNil tk) := by
  constructor
  intro pins s σ H Q I h
  refine wpAny_Call_Name_kw (ld_glob I hg hm ?_ hdb)
  refine PySem.W.callWith_KW0 (h₀ := X.base) I.ok.mod.kin hk hall ?_ hpl
  refine thn (hkw.run pos pins s σ H _ I h) fun ws s2 hws => ?_
  obtain ⟨zs, H2, I2, rz, q2⟩ := hws
  rw [hks]
  refine ⟨I2.kIn, call_end hx I2 ?_⟩
  have r2 := hb.rel (vs := []) (us := []) .nil rz
  exact F.go X.A X.stack s2 H2 ⟨[], ks.zip ws⟩ (g [] ws) (gV [] zs) Q E hgd hr I2.env0 (hb.to s2 [] ws I2.kIn (by rw [← r2.length]; exact F.len _ _ _ _ q2)) r2 q2
/-- keyword arguments -/
def MK {ι : Type} (X : ι → Cx) (E : XK) (kws : List Keyword) (f : FA) : Prop := ∃ t, ∀ i, PK (X i) kws t ∧ SemA (X i).K E t f
theorem mk_nil : MK X E [] dNil := ⟨_, fun i => ⟨pk_nil, fun H0 F H σ st Q Qd Ed s _ h k => k F H [] [] s.rf .nil h⟩⟩
theorem mk_cons {nm : Option Str} {kpos : Pos} {f : FE} (ha : ME X E e f) (hr : MK X E kws ff) : MK X E (⟨nm, e, kpos⟩ :: kws) (dCons f ff) := by
  obtain ⟨ta, ha⟩ := ha
  obtain ⟨tb, hb⟩ := hr
  refine ⟨_, fun i => ⟨pk_cons (ha i).1 (hb i).1, fun H0 F H σ st Q Qd Ed s x h k => ?_⟩⟩
  refine (ha i).2 H0 F H σ st _ _ Ed s x h fun F1 H1 v1 d1 s1 r1 h1 => ?_
  refine (hb i).2 H0 F1 H1 σ st _ _ Ed (s.step s1) (x.step s1) h1 fun F2 H2 v2 d2 s2 r2 h2 => ?_
  exact k F2 H2 _ _ (s1.trans s2) (.cons (r1.same s2.ff) r2) h2
/-- how arguments by keywords come to the parameters, over any kind of values -/
structure KPerm (gV : List V → List V → List V) (gD : List D → List D → List D) : Prop where
  rel : ∀ {R : V → D → Prop} {vs : List V} {ds : List D} {zs : List V} {es : List D}, All2 R vs ds → All2 R zs es → All2 R (gV vs zs) (gD ds es)
def dCallK (sp : NSpec) (gD : List D → List D → List D) (ff fk : FA) : FE := fun st Q E => ff st (fun ds => fk st (fun es => sp (gD ds es) Q) E) E
theorem SemE.callK {n : Nat} {sp : NSpec} {gV : List V → List V → List V} {gD : List D → List D → List D} (kp : KPerm gV gD) (q : SemA K E tr ff) (q2 : SemA K E tk fk) (hn : ∀ ds Q, sp ds Q → ds.length = n) : SemE K E (tCallK (spD K n (nS sp)) gV E0 tr tk) (dCallK sp gD ff fk) := by
  intro H0 F H σ st Q Qd Ed s x h k
  refine q H0 F H σ st _ _ Ed s x h fun F1 H1 vs ds s1 r1 h1 => ?_
  have k1 := s.step s1
  refine q2 H0 F1 H1 σ st _ _ Ed k1 (x.step s1) h1 fun F2 H2 zs es s2 r2 h2 => ?_
  have k2 := k1.step s2
  have r3 := kp.rel (r1.mono fun _ _ z => z.same s2.ff) r2
  exact ⟨(all2_len r3).trans (hn _ _ h2), F2, _, Qd, fun _ => False, k2.fh, r3, h2, fun F' H' v d s3 r4 h3 => k F' H' v d ((s1.trans s2).trans (s3.lift k2.dl)) r4 h3, XO.none⟩
theorem me_callK {sp : NSpec} {g : List Value → List Value → List Value} {gV : List V → List V → List V} {gD : List D → List D → List D} (kp : KPerm gV gD) (G : ∀ i, FnG (X i).prog (X i).w (X i).K (X i).mg (X i).base CX0 k f fd ps (spD K ps.length (nS sp))) (hgd : ∀ i, (X i).A.guards = some []) (hr : ∀ i, Room k (X i).A) (hm : ∀ i, (X i).mg x = some (.ref f)) (hk : ∀ i, PySem.W.keepIn (X i).K (.ref f) = true)
    (hb : ∀ i, KBinds (X i).K fd ps ks g gV) (hn : ∀ ds Q, sp ds Q → ds.length = ps.length) (ha : MA X E (e :: es) ff) (hw : MK X E kws fk) (hK : ∀ i, (X i).K = K := by intro _; rfl) (hg : ∀ i, Gl (X i) x := by intro _; rfl)
    (hall : ∀ i, (backToKw pos (keywordEach kws (X i).env)).all (·.1.isSome) = true := by intro _; rfl) (hks : ∀ i, (backToKw pos (keywordEach kws (X i).env)).filterMap (·.1) = ks := by intro _; rfl) (hdb : (x == ("__debug__" : Str)) = false := by decide)
    (he : ∀ i, starEach (e :: es) (X i).env = (false, eval e (X i).env) :: starEach es (X i).env := by intro _; rfl) (hpl : ∀ i, ((backTo pos (starEach (e :: es) (X i).env)).any (·.1) || (backToKw pos (keywordEach kws (X i).env)).any (·.1.isNone)) = false := by intro _; rfl) :
    ME X E (.Call (.Name x p) (e :: es) kws pos) (dCallK sp gD ff fk) := by
  obtain ⟨t, h⟩ := ha
  obtain ⟨u, h2⟩ := hw
  refine ⟨_, fun i => ⟨pe_callGK (G i) (hgd i) (hr i) (hm i) (hk i) (hb i) pass0 (h i).1 (h2 i).1 (hg i) (hall i) (hks i) hdb (he i) (hpl i), ?_⟩⟩
  have q := (h i).2
  have q2 := (h2 i).2
  rw [hK i] at q q2 ⊢
  exact SemE.callK kp q q2 hn
theorem me_callK0 {sp : NSpec} {g : List Value → List Value → List Value} {gV : List V → List V → List V} {gD : List D → List D → List D} (kp : KPerm gV gD) (G : ∀ i, FnG (X i).prog (X i).w (X i).K (X i).mg (X i).base CX0 k f fd ps (spD K ps.length (nS sp))) (hgd : ∀ i, (X i).A.guards = some []) (hr : ∀ i, Room k (X i).A) (hm : ∀ i, (X i).mg x = some (.ref f)) (hk : ∀ i, PySem.W.keepIn (X i).K (.ref f) = true)
    (hb : ∀ i, KBinds (X i).K fd ps ks g gV) (hn : ∀ ds Q, sp ds Q → ds.length = ps.length) (hw : MK X E kws fk) (hK : ∀ i, (X i).K = K := by intro _; rfl) (hg : ∀ i, Gl (X i) x := by intro _; rfl)
    (hall : ∀ i, (backToKw pos (keywordEach kws (X i).env)).all (·.1.isSome) = true := by intro _; rfl) (hks : ∀ i, (backToKw pos (keywordEach kws (X i).env)).filterMap (·.1) = ks := by intro _; rfl) (hdb : (x == ("__debug__" : Str)) = false := by decide)
    (hpl : ∀ i, ((backTo pos (starEach [] (X i).env)).any (·.1) || (backToKw pos (keywordEach kws (X i).env)).any (·.1.isNone)) = false := by intro _; rfl) :
    ME X E (.Call (.Name x p) [] kws pos) (dCallK sp gD dNil fk) := by
  obtain ⟨u, h2⟩ := hw
  refine ⟨_, fun i => ⟨pe_callGK0 (G i) (hgd i) (hr i) (hm i) (hk i) (hb i) pass0 (h2 i).1 (hg i) (hall i) (hks i) hdb (hpl i), ?_⟩⟩
  have q2 := (h2 i).2
  rw [hK i] at q2 ⊢
  exact SemE.callK kp (fun H0 F H σ st Q Qd Ed s _ h k => k F H [] [] s.rf .nil h) q2 hn
/-- f(deal, e, ..) -/
def dCallL (i : Nat) (sp : NSpec) (ff : FA) : FE := fun st Q E => st.sl[i]? = some .deal ∧ ff st (fun ds => sp ds Q) E
theorem SemE.callL (i : Nat) {n : Nat} {sp : NSpec} (q : SemA K E tr ff) (hn : ∀ ds Q, sp ds Q → ds.length + 1 = n) : SemE K E (tCall (spL K n (nS sp)) [] E0 (tCons (tVar i) tr)) (dCallL i sp ff) := by
  intro H0 F H σ st Q Qd Ed s x h k
  obtain ⟨e0, h⟩ := h
  obtain ⟨a, b, ed, es⟩ := s.sl i _ e0
  refine ⟨_, es, ?_⟩
  refine q H0 F H σ st _ _ Ed s x h fun F1 H1 vs ds s1 r1 h1 => ?_
  have k1 := s.step s1
  have dk := k1.dl
  rw [ed] at dk
  refine ⟨by rw [List.append_nil, List.length_cons, all2_len r1]; exact hn _ _ h1, a, b, vs, F1, ds, Qd, fun _ => False, by rw [List.append_nil], k1.fh, dk, r1, h1, fun F' H' v d s2 r2 h2 => k F' H' v d (s1.trans (by rw [ed]; exact s2)) r2 h2, XO.none⟩
theorem me_callL (i : Nat) {x0 : Str} {p0 : Pos} {sp : NSpec} (G : ∀ i, FnG (X i).prog (X i).w (X i).K (X i).mg (X i).base CX0 k f fd ps (spL K ps.length (nS sp))) (hgd : ∀ i, (X i).A.guards = some []) (hr : ∀ i, Room k (X i).A) (hm : ∀ i, (X i).mg x = some (.ref f)) (hk : ∀ i, PySem.W.keepIn (X i).K (.ref f) = true)
    (hb : ∀ i, Binds (X i).K fd ps []) (hn : ∀ ds Q, sp ds Q → ds.length + 1 = ps.length) (ha : MA X E es ff) (hK : ∀ i, (X i).K = K := by intro _; rfl) (hN : ∀ j, (X j).N[i]? = some x0 := by intro _; rfl) (hv : ∀ j, Vis (X j).env.scope x0 := by intro _; first | exact Or.inl rfl | exact Or.inr (Or.inl rfl) | exact Or.inr (Or.inr rfl)) (hg : ∀ i, Gl (X i) x := by intro _; rfl)
    (hd0 : (x0 == ("__debug__" : Str)) = false := by decide) (hcd0 : (x0 == ("__classdict__" : Str)) = false := by decide) (hdb : (x == ("__debug__" : Str)) = false := by decide)
    (he : ∀ i, starEach (.Name x0 p0 :: es) (X i).env = (false, eval (.Name x0 p0) (X i).env) :: starEach es (X i).env := by intro _; rfl) (hpl : ∀ i, (backTo pos (starEach es (X i).env)).any (·.1) = false := by intro _; rfl) :
    ME X E (.Call (.Name x p) (.Name x0 p0 :: es) [] pos) (dCallL i sp ff) := by
  obtain ⟨t, h⟩ := ha
  refine ⟨_, fun j => ⟨pe_callG (G j) (hgd j) (hr j) (hm j) (hk j) (hb j) pass0 (pa_cons (pe_var (hN j) (hv j) hd0 hcd0) (h j).1 (he j)) (hg j) hdb (he j) (hpl j), ?_⟩⟩
  have q := (h j).2
  rw [hK j] at q ⊢
  exact SemE.callL i q hn
end
end DL

/-! DL, part h: operators and built-ins over data. -/
namespace DL
open PySem PySem.Spec PyProof.Rows L2

/-! ### data as the library has it -/
mutual
def toPy : D → PyData
  | .non => .none
  | .bl b => .bool b
  | .int i => .int i
  | .str s => .str s
  | .lst xs => .list (toPyL xs)
  | .tup xs => .tuple (toPyL xs)
  | .scr ns => .list (ns.map PyData.int)
  | _ => .none
def toPyL : List D → List PyData
  | [] => []
  | x :: xs => toPy x :: toPyL xs
end
mutual
/-- None, bools, ints, texts, lists and tuples of these -/
def plain : D → Bool
  | .non => true
  | .bl _ => true
  | .int _ => true
  | .str _ => true
  | .lst xs => plainL xs
  | .tup xs => plainL xs
  | .scr _ => true
  | _ => false
def plainL : List D → Bool
  | [] => true
  | x :: xs => plain x && plainL xs
end
mutual
def dep : D → Nat
  | .lst xs => depL xs + 1
  | .tup xs => depL xs + 1
  | .scr _ => 1
  | _ => 0
def depL : List D → Nat
  | [] => 0
  | x :: xs => max (dep x) (depL xs)
end
theorem toPyL_map : ∀ xs : List D, toPyL xs = xs.map toPy
  | [] => by simp only [toPyL, List.map_nil]
  | x :: xs => by simp only [toPyL, List.map_cons, toPyL_map xs]
theorem plainL_all : ∀ xs : List D, plainL xs = xs.all plain
  | [] => by simp only [plainL, List.all_nil]
  | x :: xs => by simp only [plainL, List.all_cons, plainL_all xs]
mutual
theorem dep_py : ∀ d : D, (toPy d).depth ≤ dep d
  | .non => by simp [toPy, PyData.depth]
  | .bl _ => by simp [toPy, PyData.depth]
  | .int _ => by simp [toPy, PyData.depth]
  | .str _ => by simp [toPy, PyData.depth]
  | .lst xs => by
    simp only [toPy, PyData.depth, dep]
    have := depL_py xs
    omega
  | .tup xs => by
    simp only [toPy, PyData.depth, dep]
    have := depL_py xs
    omega
  | .scr ns => by
    simp only [toPy, PyData.depth, dep]
    have : PyData.depthAll (ns.map PyData.int) = 0 := by
      induction ns with
      | nil => simp [PyData.depthAll]
      | cons n ns ih => simp [PyData.depthAll, PyData.depth, ih]
    omega
  | .dK _ => by simp [toPy, PyData.depth]
  | .dT _ => by simp [toPy, PyData.depth]
  | .obj _ _ => by simp [toPy, PyData.depth]
  | .ty _ => by simp [toPy, PyData.depth]
  | .txt _ => by simp [toPy, PyData.depth]
theorem depL_py : ∀ xs : List D, PyData.depthAll (toPyL xs) ≤ depL xs
  | [] => by simp [toPyL, PyData.depthAll]
  | x :: xs => by
    simp only [toPyL, PyData.depthAll, depL]
    have h1 := dep_py x
    have h2 := depL_py xs
    omega
end
section
variable {K : PySem.W.Frag} {F H : Hp}
theorem dpAll_ints : ∀ ns : List Int, DpAll K H (ns.map V.int) (ns.map PyData.int)
  | [] => .nil
  | n :: ns => .cons (.int n) (dpAll_ints ns)
theorem lay_ints : ∀ ns : List Int, PyData.canLayAll0 (ns.map PyData.int) = true
  | [] => by simp [PyData.canLayAll0]
  | n :: ns => by simp [PyData.canLayAll0, PyData.canLay0, lay_ints ns]
mutual
theorem Rep.dp (s : Same F H) : ∀ {v : V} {d : D}, Rep K F v d → plain d = true → Dp K H v (toPy d) ∧ (toPy d).canLay0 = true
  | _, _, .non, _ => by simp only [toPy, PyData.canLay0]; exact ⟨.non, trivial⟩
  | _, _, .bl b, _ => by simp only [toPy, PyData.canLay0]; exact ⟨.bl b, trivial⟩
  | _, _, .int i, _ => by simp only [toPy, PyData.canLay0]; exact ⟨.int i, trivial⟩
  | _, _, .str (s := z) hz, _ => by simp only [toPy, PyData.canLay0]; exact ⟨.str z, hz⟩
  | _, _, .lst h r, p => by
    simp only [toPy, PyData.canLay0]
    simp only [plain] at p
    obtain ⟨a, b⟩ := RepL.dp s r p
    exact ⟨.lst (SqL.of (s _ _ h)) a, b⟩
  | _, _, .tup h r, p => by
    simp only [toPy, PyData.canLay0]
    simp only [plain] at p
    obtain ⟨a, b⟩ := RepL.dp s r p
    exact ⟨.tup (seqT_same s h) a, b⟩
  | _, _, .scr h, p => by
    simp only [toPy, PyData.canLay0]
    exact ⟨.lst (seqL_same s h) (dpAll_ints _), lay_ints _⟩
  | _, _, .dK _ _ _ _, p => by simp only [plain] at p; cases p
  | _, _, .dT _ _ _ _, p => by simp only [plain] at p; cases p
  | _, _, .obj _ _ _, p => by simp only [plain] at p; cases p
  | _, _, .ty _, p => by simp only [plain] at p; cases p
  | _, _, .txt _, p => by simp only [plain] at p; cases p
theorem RepL.dp (s : Same F H) : ∀ {vs : List V} {ds : List D}, RepL K F vs ds → plainL ds = true → DpAll K H vs (toPyL ds) ∧ PyData.canLayAll0 (toPyL ds) = true
  | _, _, .nil, _ => by simp only [toPyL, PyData.canLayAll0]; exact ⟨.nil, trivial⟩
  | _, _, .cons h t, p => by
    simp only [plainL, Bool.and_eq_true] at p
    obtain ⟨a, b⟩ := Rep.dp s h p.1
    obtain ⟨c, d⟩ := RepL.dp s t p.2
    simp only [toPyL, PyData.canLayAll0, b, d]
    exact ⟨.cons a c, rfl⟩
end
theorem RS.dp (s : Same F H) {v : V} {d : D} (h : RS K F H v d) (p : plain d = true) : Dp K H v (toPy d) ∧ (toPy d).canLay0 = true := by
  rcases h with h | ⟨a, e, h⟩
  · exact h.dp s p
  · subst e
    cases d with
    | lst ds =>
      obtain ⟨vs, e, r⟩ := h
      simp only [toPy, PyData.canLay0]
      simp only [plain] at p
      obtain ⟨x, y⟩ := RepL.dp s r p
      exact ⟨.lst (SqL.of e) x, y⟩
    | dK ds => simp only [plain] at p; cases p
    | dT ds => simp only [plain] at p; cases p
    | _ => exact h.elim
end
def okD (d : D) : Bool := plain d && decide (dep d ≤ 60)
theorem okD_shaped {d : D} (h : okD d = true) (l : (toPy d).canLay0 = true) : SeqAt.shaped (toPy d) = true := by
  unfold okD at h
  rw [Bool.and_eq_true] at h
  have h2 := of_decide_eq_true h.2
  have h3 := dep_py d
  unfold SeqAt.shaped
  rw [l, Bool.true_and]
  exact decide_eq_true (by omega)
/-- == of data -/
def eqD (x y : D) : Bool := PyData.eqv (toPy x) (toPy y)

/-! ### operators -/
section
variable {K : PySem.W.Frag}
def gI (g : Int → Int → D) (x y : D) (Q : D → Prop) : Prop := match x, y with
  | .int i, .int j => Q (g i j)
  | _, _ => False
def gIc (C : Int → Int → Prop) (g : Int → Int → D) (x y : D) (Q : D → Prop) : Prop := match x, y with
  | .int i, .int j => C i j ∧ Q (g i j)
  | _, _ => False
theorem opd_I {g : Int → Int → Int} : OpD K (rI0 fun i j => .int (g i j)) (gI fun i j => .int (g i j)) := fun dl F H x y dx dy Q Qd s d rx ry h k => by
  match dx, dy, rx, ry, h with
  | .int i, .int j, rx, ry, h => exact ⟨i, j, rx.int, ry.int, k F H _ _ (Step.refl s d) (.int _) h⟩
theorem opd_Ic {C : Int → Int → Prop} {g : Int → Int → Int} : OpD K (rI C fun i j => .int (g i j)) (gIc C fun i j => .int (g i j)) := fun dl F H x y dx dy Q Qd s d rx ry h k => by
  match dx, dy, rx, ry, h with
  | .int i, .int j, rx, ry, h => exact ⟨i, j, rx.int, ry.int, h.1, k F H _ _ (Step.refl s d) (.int _) h.2⟩
theorem opd_B {g : Int → Int → Bool} : OpD K (rI0 fun i j => .bl (g i j)) (gI fun i j => .bl (g i j)) := fun dl F H x y dx dy Q Qd s d rx ry h k => by
  match dx, dy, rx, ry, h with
  | .int i, .int j, rx, ry, h => exact ⟨i, j, rx.int, ry.int, k F H _ _ (Step.refl s d) (.bl _) h⟩
theorem OpD.or {r r' : R2} {g g' : D → D → (D → Prop) → Prop} (h : OpD K r g) (h' : OpD K r' g') : OpD K (fun x y H Q => r x y H Q ∨ r' x y H Q) (fun x y Q => g x y Q ∨ g' x y Q) := fun dl F H x y dx dy Q Qd s d rx ry hh k => by
  rcases hh with hh | hh
  · exact .inl (h dl F H x y dx dy Q Qd s d rx ry hh k)
  · exact .inr (h' dl F H x y dx dy Q Qd s d rx ry hh k)
theorem opd_imp {r : R2} {g g' : D → D → (D → Prop) → Prop} (h : OpD K r g) (i : ∀ x y Q, g' x y Q → g x y Q) : OpD K r g' := fun dl F H x y dx dy Q Qd s d rx ry hh k => h dl F H x y dx dy Q Qd s d rx ry (i _ _ _ hh) k
theorem strOk_app {a b : Str} (h : strOk a = true) (g : strOk b = true) : strOk (a ++ b) = true := by
  show (a.cps ++ b.cps).all (· < 0x110000) = true
  rw [Array.all_append, Bool.and_eq_true]
  exact ⟨h, g⟩
theorem rs_str {F H : Hp} {v : V} {z : Str} (h : RS K F H v (.str z)) : strOk z = true := by
  rcases h with h | ⟨p, e, h⟩
  · cases h; assumption
  · exact h.elim
def gSS (x y : D) (Q : D → Prop) : Prop := match x, y with
  | .str i, .str j => i.length + j.length ≤ sizeLine ∧ Q (.str (i ++ j))
  | _, _ => False
theorem opd_SS : OpD K (fun x y H Q => ∃ i j, x = .str i ∧ y = .str j ∧ i.length + j.length ≤ sizeLine ∧ Q (.str (i ++ j)) H) gSS := fun dl F H x y dx dy Q Qd s d rx ry h k => by
  match dx, dy, rx, ry, h with
  | .str i, .str j, rx, ry, h => exact ⟨i, j, rx.str, ry.str, h.1, k F H _ _ (Step.refl s d) (.str (strOk_app (rs_str rx) (rs_str ry))) h.2⟩
def gLL (x y : D) (Q : D → Prop) : Prop := match x, y with
  | .lst i, .lst j => i.length + j.length ≤ sizeLine ∧ Q (.lst (i ++ j))
  | _, _ => False
theorem opf_LL : OpF K rCat gLL := fun dl F H x y dx dy Q Qd s d rx ry h k => by
  match dx, dy, rx, ry, h with
  | .lst i, .lst j, rx, ry, h =>
    obtain ⟨p, vs, rfl, hp, r1⟩ := rx.lst s
    obtain ⟨q, ws, rfl, hq, r2⟩ := ry.lst s
    exact ⟨p, q, vs, ws, rfl, rfl, hp, hq, by rw [r1.length, r2.length]; exact h.1, fun a na => k F _ a (.lst (i ++ j)) (Step.freshM s d na) (Same.none s na) na ⟨_, upd_same, r1.app r2⟩ h.2⟩
theorem OpF.toD {r : R2} {g : D → D → (D → Prop) → Prop} (h : OpF K r g) : OpD K r g := fun dl F H x y dx dy Q Qd s d rx ry hh k => h dl F H x y dx dy Q Qd s d rx ry hh fun F' H' p d' st fp hp r q => by
  have fr : ∀ o, H' p = some o → Step dl F H (upd F' p o) H' := fun o e => ⟨st.toFStep.freeze e hp, st.deal.move (fun b hb => by
    have hbp : b ≠ p := fun z => by
      subst z
      obtain ⟨u, w⟩ := d.dom hb
      rw [hp] at w
      cases w
    rw [upd_ne hbp]
    exact st.deal.off hb) fun b o _ e => e⟩
  have ff : ∀ o, Same F' (upd F' p o) := fun o => Same.upd_new fp
  cases d' with
  | lst ds => obtain ⟨vs, e, r⟩ := r; exact k _ _ _ _ (fr _ e) (.lst upd_same (r.same (ff _))) q
  | dK ds => obtain ⟨ks, e, z, y, r⟩ := r; exact k _ _ _ _ (fr _ e) (.dK upd_same z y (r.same (ff _))) q
  | dT ds => obtain ⟨ks, e, z, y, r⟩ := r; exact k _ _ _ _ (fr _ e) (.dT upd_same z y (r.same (ff _))) q
  | _ => exact r.elim
def gTT (x y : D) (Q : D → Prop) : Prop := match x, y with
  | .tup i, .tup j => i.length + j.length ≤ sizeLine ∧ Q (.tup (i ++ j))
  | _, _ => False
theorem opd_TT : OpD K (rCatA K) gTT := fun dl F H x y dx dy Q Qd s d rx ry h k => by
  match dx, dy, rx, ry, h with
  | .tup i, .tup j, rx, ry, h =>
    have z1 : ∃ p vs, x = .ref p ∧ SqT K F p vs ∧ RepL K F vs i := by
      rcases rx with rx | ⟨p, e, rx⟩
      · cases rx with
        | tup a b => exact ⟨_, _, rfl, a, b⟩
      · exact rx.elim
    have z2 : ∃ p vs, y = .ref p ∧ SqT K F p vs ∧ RepL K F vs j := by
      rcases ry with ry | ⟨p, e, ry⟩
      · cases ry with
        | tup a b => exact ⟨_, _, rfl, a, b⟩
      · exact ry.elim
    obtain ⟨p, vs, rfl, hp, r1⟩ := z1
    obtain ⟨q, ws, rfl, hq, r2⟩ := z2
    refine ⟨p, q, vs, ws, rfl, rfl, seqT_same s hp, seqT_same s hq, by rw [r1.length, r2.length]; exact h.1, fun e => ?_, fun _ e => ?_, fun _ _ a na => ?_⟩
    · subst e
      cases r1
      exact k F H _ _ (Step.refl s d) (.tup hq r2) h.2
    · subst e
      cases r2
      have h2 : Qd (.tup (i ++ [])) := h.2
      rw [List.append_nil] at h2
      exact k F H _ _ (Step.refl s d) (.tup hp r1) h2
    · exact k _ _ _ _ (Step.fresh s d na) (.tup (SqT.of upd_same) ((r1.app r2).same (Same.upd_new (Same.none s na)))) h.2
/-- + of ints, texts, lists, tuples -/
def gAdd (x y : D) (Q : D → Prop) : Prop := match x, y with
  | .int i, .int j => Q (.int (i + j))
  | .str i, .str j => i.length + j.length ≤ sizeLine ∧ Q (.str (i ++ j))
  | .lst i, .lst j => i.length + j.length ≤ sizeLine ∧ Q (.lst (i ++ j))
  | .tup i, .tup j => i.length + j.length ≤ sizeLine ∧ Q (.tup (i ++ j))
  | _, _ => False
theorem opd_add : OpD K (fun x y H Q => rI0 (fun i j => .int (i + j)) x y H Q ∨ ((∃ i j, x = .str i ∧ y = .str j ∧ i.length + j.length ≤ sizeLine ∧ Q (.str (i ++ j)) H) ∨ (rCat x y H Q ∨ rCatA K x y H Q))) gAdd :=
  opd_imp (opd_I.or (opd_SS.or (opf_LL.toD.or opd_TT))) fun x y Q h => by
    match x, y, h with
    | .int i, .int j, h => exact .inl h
    | .str i, .str j, h => exact .inr (.inl h)
    | .lst i, .lst j, h => exact .inr (.inr (.inl h))
    | .tup i, .tup j, h => exact .inr (.inr (.inr h))
def gEq (x y : D) (Q : D → Prop) : Prop := okD x = true ∧ okD y = true ∧ Q (.bl (eqD x y))
def gNe (x y : D) (Q : D → Prop) : Prop := okD x = true ∧ okD y = true ∧ Q (.bl (!eqD x y))
theorem okD_plain {d : D} (h : okD d = true) : plain d = true := by
  unfold okD at h
  rw [Bool.and_eq_true] at h
  exact h.1
theorem opd_eq : OpD K (rEqD K) gEq := fun dl F H x y dx dy Q Qd s d rx ry h k => by
  obtain ⟨h1, h2, h3⟩ := h
  obtain ⟨a1, a2⟩ := rx.dp s (okD_plain h1)
  obtain ⟨b1, b2⟩ := ry.dp s (okD_plain h2)
  exact ⟨_, _, a1, b1, okD_shaped h1 a2, okD_shaped h2 b2, k F H _ _ (Step.refl s d) (.bl _) h3⟩
theorem opd_ne : OpD K (rNeD K) gNe := fun dl F H x y dx dy Q Qd s d rx ry h k => by
  obtain ⟨h1, h2, h3⟩ := h
  obtain ⟨a1, a2⟩ := rx.dp s (okD_plain h1)
  obtain ⟨b1, b2⟩ := ry.dp s (okD_plain h2)
  exact ⟨_, _, a1, b1, okD_shaped h1 a2, okD_shaped h2 b2, k F H _ _ (Step.refl s d) (.bl _) h3⟩
/-- < of ints and of texts -/
def ltS (a b : Str) : Bool := decide (a.cps.toList < b.cps.toList)
def gLtS (x y : D) (Q : D → Prop) : Prop := match x, y with
  | .str i, .str j => Q (.bl (ltS i j))
  | _, _ => False
theorem opd_ltS : OpD K (fun x y H Q => ∃ i j, x = .str i ∧ y = .str j ∧ Q (.bl (decide (i.cps.toList < j.cps.toList))) H) gLtS := fun dl F H x y dx dy Q Qd s d rx ry h k => by
  match dx, dy, rx, ry, h with
  | .str i, .str j, rx, ry, h => exact ⟨i, j, rx.str, ry.str, k F H _ _ (Step.refl s d) (.bl _) h⟩
/-- is None -/
def gIsN (x y : D) (Q : D → Prop) : Prop := match y with
  | .non => (match x with
    | .non => Q (.bl true)
    | .ty _ => False
    | _ => Q (.bl false))
  | _ => False
def isNon : D → Bool
  | .non => true
  | _ => false
theorem rs_non {F H : Hp} {v : V} {d : D} (h : RS K F H v d) : decide (v = .non) = isNon d := by
  rcases h with h | ⟨p, e, h⟩
  · cases h <;> rfl
  · subst e
    cases d with
    | lst _ => rfl
    | dK _ => rfl
    | dT _ => rfl
    | _ => exact h.elim
theorem opd_isN : OpD K (fun x y H Q => y = .non ∧ Q (.bl (decide (x = .non))) H) (fun x y Q => isNon y = true ∧ Q (.bl (isNon x))) := fun dl F H x y dx dy Q Qd s d rx ry h k => by
  have e := rs_non ry
  rw [h.1] at e
  refine ⟨of_decide_eq_true e, ?_⟩
  rw [rs_non rx]
  exact k F H _ _ (Step.refl s d) (.bl _) h.2
theorem opd_notN : OpD K (fun x y H Q => y = .non ∧ Q (.bl (!decide (x = .non))) H) (fun x y Q => isNon y = true ∧ Q (.bl (!isNon x))) := fun dl F H x y dx dy Q Qd s d rx ry h k => by
  have e := rs_non ry
  rw [h.1] at e
  refine ⟨of_decide_eq_true e, ?_⟩
  rw [rs_non rx]
  exact k F H _ _ (Step.refl s d) (.bl _) h.2
/-- in, not in: lists and tuples at any depth -/
def memD (x : D) (ys : List D) : Bool := ys.any fun y => eqD y x
def itemsOf : D → Option (List D)
  | .lst ys => some ys
  | .tup ys => some ys
  | _ => none
def gIn (neg : Bool) (x y : D) (Q : D → Prop) : Prop := okD x = true ∧ okD y = true ∧ (match itemsOf y with
  | some ys => Q (.bl (if neg then !memD x ys else memD x ys))
  | none => False)
def rInQ (K : PySem.W.Frag) (neg : Bool) : R2 := fun x y H Q => ∃ (d : PyData) (ds : List PyData), Dp K H x d ∧ (Dp K H y (.list ds) ∨ Dp K H y (.tuple ds)) ∧ SeqAt.shaped d = true ∧ SeqAt.shaped (.list ds) = true ∧
  Q (.bl (if neg then !ds.any fun z => PyData.eqv z d else ds.any fun z => PyData.eqv z d)) H
end
section
variable {X : Cx}
theorem room_sh {A : Around} {ds : List PyData} {d : PyData} (h : SeqAt.shaped d = true) (hu : A.units + 65 < cLine) : A.units + 1 + min (PyData.depthAll ds) d.depth < cLine := by
  have := SeqAt.depth_of_shaped h
  omega
theorem op_inQ (hu : X.A.units + 65 < cLine) : OpR X (compareOp .In) (rInQ X.K false) := by
  intro pins s σ H x y v u Q I rx ry h
  obtain ⟨d, ds, hd, he, sd, se, q⟩ := h
  obtain ⟨as, r1⟩ := Dp.reads I d x v hd rx
  have se' : PyData.canLayAll0 ds = true := by have := SeqAt.canLay_of_shaped se; simpa only [PyData.canLay0] using this
  rcases he with he | he
  · obtain ⟨bs, r2⟩ := Dp.reads I (.list ds) y u he ry
    exact SeqAt.in_list_reads r2 r1 se' (SeqAt.canLay_of_shaped sd) (room_sh sd hu) ⟨.bl _, H, I, rfl, q⟩
  · obtain ⟨bs, r2⟩ := Dp.reads I (.tuple ds) y u he ry
    exact SeqAt.in_tuple_reads r2 r1 se' (SeqAt.canLay_of_shaped sd) (room_sh sd hu) ⟨.bl _, H, I, rfl, q⟩
theorem op_notInQ (hu : X.A.units + 65 < cLine) : OpR X (compareOp .NotIn) (rInQ X.K true) := by
  intro pins s σ H x y v u Q I rx ry h
  obtain ⟨d, ds, hd, he, sd, se, q⟩ := h
  obtain ⟨as, r1⟩ := Dp.reads I d x v hd rx
  have se' : PyData.canLayAll0 ds = true := by have := SeqAt.canLay_of_shaped se; simpa only [PyData.canLay0] using this
  rcases he with he | he
  · obtain ⟨bs, r2⟩ := Dp.reads I (.list ds) y u he ry
    exact SeqAt.notIn_list_reads r2 r1 se' (SeqAt.canLay_of_shaped sd) (room_sh sd hu) ⟨.bl _, H, I, rfl, q⟩
  · obtain ⟨bs, r2⟩ := Dp.reads I (.tuple ds) y u he ry
    exact SeqAt.notIn_tuple_reads r2 r1 se' (SeqAt.canLay_of_shaped sd) (room_sh sd hu) ⟨.bl _, H, I, rfl, q⟩
end
theorem memD_py (x : D) : ∀ ys : List D, ((toPyL ys).any fun z => PyData.eqv z (toPy x)) = memD x ys
  | [] => by simp only [toPyL, memD, List.any_nil]
  | y :: ys => by
    have := memD_py x ys
    unfold memD at this ⊢
    simp only [toPyL, List.any_cons, this]
    rfl
theorem opd_in {K : PySem.W.Frag} {neg : Bool} : OpD K (rInQ K neg) (gIn neg) := fun dl F H x y dx dy Q Qd s d rx ry h k => by
  obtain ⟨h1, h2, h3⟩ := h
  obtain ⟨a1, a2⟩ := rx.dp s (okD_plain h1)
  obtain ⟨b1, b2⟩ := ry.dp s (okD_plain h2)
  cases dy with
  | lst ys =>
    have h3' : Qd (.bl (if neg then !memD dx ys else memD dx ys)) := h3
    simp only [toPy] at b1 b2
    refine ⟨_, _, a1, .inl b1, okD_shaped h1 a2, by have := okD_shaped h2 (by simpa only [toPy] using b2); simpa only [toPy] using this, ?_⟩
    rw [memD_py]
    exact k F H _ _ (Step.refl s d) (.bl _) h3'
  | tup ys =>
    have h3' : Qd (.bl (if neg then !memD dx ys else memD dx ys)) := h3
    simp only [toPy] at b1 b2
    have sh : SeqAt.shaped (.list (toPyL ys)) = true := by
      have := okD_shaped h2 (by simpa only [toPy] using b2)
      simp only [toPy] at this
      unfold SeqAt.shaped at this ⊢
      rw [Bool.and_eq_true] at this ⊢
      have t2 := of_decide_eq_true this.2
      simp only [PyData.depth] at t2
      refine ⟨by have t1 := this.1; simp only [PyData.canLay0] at t1 ⊢; exact t1, decide_eq_true ?_⟩
      simp only [PyData.depth]
      exact t2
    refine ⟨_, _, a1, .inr b1, okD_shaped h1 a2, sh, ?_⟩
    rw [memD_py]
    exact k F H _ _ (Step.refl s d) (.bl _) h3'
  | _ => exact h3.elim
end DL

/-! DL, part i: subscripts, slices, len, any, all, list(), tuple(), isinstance, join. -/
namespace DL
open PySem PySem.Spec PyProof.Rows L2

/-! ### items -/
/-- the items of what is read like a list -/
def lItems : D → Option (List D)
  | .lst ds => some ds
  | .scr ns => some (ns.map D.int)
  | _ => none
def tItems : D → Option (List D)
  | .tup ds => some ds
  | _ => none
section
variable {K : PySem.W.Frag} {F H : Hp} {v : V} {d : D} {ds : List D}
theorem rs_lItems (s : Same F H) (h : RS K F H v d) (e : lItems d = some ds) : ∃ p vs, v = .ref p ∧ SqL K H p vs ∧ RepL K F vs ds := by
  cases d with
  | lst xs =>
    cases e
    obtain ⟨p, vs, rfl, hp, r⟩ := h.lst s
    exact ⟨p, vs, rfl, SqL.of hp, r⟩
  | scr ns =>
    cases e
    obtain ⟨p, rfl, hp⟩ := h.scr s
    exact ⟨p, _, rfl, hp, RepL.ints ns⟩
  | _ => cases e
theorem rs_tItems (s : Same F H) (h : RS K F H v d) (e : tItems d = some ds) : ∃ p vs, v = .ref p ∧ SqT K H p vs ∧ RepL K F vs ds := by
  cases d with
  | tup xs =>
    cases e
    obtain ⟨p, vs, rfl, hp, r⟩ := h.tup s
    exact ⟨p, vs, rfl, hp, r⟩
  | _ => cases e
theorem RepL.atI {vs : List V} (h : RepL K F vs ds) {i : Int} {d : D} (e : L2.atI ds i = some d) : ∃ v, L2.atI vs i = some v ∧ Rep K F v d := by
  unfold L2.atI at e ⊢
  rw [h.length]
  cases q : ixN ds.length i with
  | none => rw [q] at e; cases e
  | some j =>
    rw [q] at e
    obtain ⟨v, ev, r⟩ := h.get e
    exact ⟨v, ev, r⟩
/-- the items from lo to hi -/
def cutG {α : Type} (xs : List α) (lo hi : Option Int) : List α := (xs.drop (HT.sIx xs.length 0 lo)).take (HT.sIx xs.length xs.length hi - HT.sIx xs.length 0 lo)
theorem RepL.cut {vs : List V} (h : RepL K F vs ds) (lo hi : Option Int) : RepL K F (cutV vs lo hi) (cutG ds lo hi) := by
  unfold cutV cutG
  rw [h.length]
  exact (h.drop _).take _
theorem RepL.rev {vs : List V} (h : RepL K F vs ds) : RepL K F vs.reverse ds.reverse := by
  induction vs generalizing ds with
  | nil => cases h; exact .nil
  | cons v vs ih =>
    cases h with
    | cons r t =>
      rw [List.reverse_cons, List.reverse_cons]
      exact (ih t).app (.cons r .nil)
end

/-! ### a[i] -/
def gIx (x y : D) (Q : D → Prop) : Prop := match y with
  | .int i => (match x with
    | .lst ds => (match L2.atI ds i with
      | some d => Q d
      | none => False)
    | .tup ds => (match L2.atI ds i with
      | some d => Q d
      | none => False)
    | .scr ns => (match L2.atI ns i with
      | some n => Q (.int n)
      | none => False)
    | .str z => z.length ≤ sizeLine ∧ (match L2.atI z.cps.toList i with
      | some c => Q (sgn c)
      | none => False)
    | _ => False)
  | _ => False
theorem atI_map {α β : Type} (f : α → β) (xs : List α) (i : Int) : L2.atI (xs.map f) i = (L2.atI xs i).map f := by
  unfold L2.atI
  rw [List.length_map]
  cases ixN xs.length i with
  | none => rfl
  | some j => simp only [Option.bind_some, List.getElem?_map]
theorem atI_mem {α : Type} {xs : List α} {i : Int} {x : α} (h : L2.atI xs i = some x) : x ∈ xs := by
  unfold L2.atI at h
  cases q : ixN xs.length i with
  | none => rw [q] at h; cases h
  | some j => rw [q] at h; exact List.mem_of_getElem? h
theorem opd_ix {K : PySem.W.Frag} : OpD K (rIx K) gIx := fun dl F H x y dx dy Q Qd s d rx ry h k => by
  cases dy with
  | int i =>
    have e1 := ry.int
    subst e1
    cases dx with
    | lst ds =>
      obtain ⟨p, vs, rfl, hp, r⟩ := rs_lItems s rx rfl
      have h' : (match L2.atI ds i with
        | some d => Qd d
        | none => False) := h
      cases e : L2.atI ds i with
      | none => rw [e] at h'; exact h'.elim
      | some z =>
        rw [e] at h'
        obtain ⟨v, ev, rv⟩ := r.atI e
        exact .inl ⟨p, vs, i, v, rfl, rfl, hp, ev, k F H v z (Step.refl s d) rv h'⟩
    | scr ns =>
      obtain ⟨p, rfl, hp⟩ := rx.scr s
      have h' : (match L2.atI ns i with
        | some n => Qd (.int n)
        | none => False) := h
      cases e : L2.atI ns i with
      | none => rw [e] at h'; exact h'.elim
      | some z =>
        rw [e] at h'
        exact .inl ⟨p, _, i, _, rfl, rfl, hp, by rw [atI_map, e]; rfl, k F H _ _ (Step.refl s d) (.int z) h'⟩
    | tup ds =>
      obtain ⟨p, vs, rfl, hp, r⟩ := rs_tItems s rx rfl
      have h' : (match L2.atI ds i with
        | some d => Qd d
        | none => False) := h
      cases e : L2.atI ds i with
      | none => rw [e] at h'; exact h'.elim
      | some z =>
        rw [e] at h'
        obtain ⟨v, ev, rv⟩ := r.atI e
        exact .inr (.inl ⟨p, vs, i, v, rfl, rfl, hp, ev, k F H v z (Step.refl s d) rv h'⟩)
    | str z =>
      have hok := rs_str rx
      have e2 := rx.str
      subst e2
      obtain ⟨hz, h'⟩ := (show z.length ≤ sizeLine ∧ (match L2.atI z.cps.toList i with
        | some c => Qd (sgn c)
        | none => False) from h)
      cases e : L2.atI z.cps.toList i with
      | none => rw [e] at h'; exact h'.elim
      | some c =>
        rw [e] at h'
        exact .inr (.inr ⟨z, i, c, rfl, rfl, hz, e, k F H _ _ (Step.refl s d) (.str (sgn_ok hok (atI_mem e))) h'⟩)
    | _ => exact h.elim
  | _ => exact h.elim

/-! ### a[lo:hi] -/
abbrev FO := DSt → (Option Int → Prop) → (XD → Prop) → Prop
def SemO (K : PySem.W.Frag) (E : XK) (t : TO) (f : FO) : Prop := ∀ (H0 F H : Hp) (σ : L2.St) (st : DSt) (Q : Option Int → Hp → Prop) (Qd : Option Int → Prop) (Ed : XD → Prop),
  SOk K H0 F H σ st → XO K st.dl E F H Ed → f st Qd Ed → (∀ F' H' o, Step st.dl F H F' H' → Qd o → Q o H') → t σ H Q
def MO {ι : Type} (X : ι → Cx) (E : XK) (e : Option Expr) (f : FO) : Prop := ∃ t, ∀ i, PO (X i) e t ∧ SemO (X i).K E t f
def dNoP : FO := fun _ Q _ => Q none
def dPart (f : FE) : FO := fun st Q E => f st (fun d => match d with
  | .int i => Q (some i)
  | _ => False) E
section
variable {ι : Type} {X : ι → Cx} {K : PySem.W.Frag} {E : XK} {e a b : Expr} {f fa fb : FE} {pos p2 : Pos} {lo hi : Option Expr} {fl fh : FO}
theorem mo_none : MO X E none dNoP := ⟨_, fun i => ⟨po_none, fun H0 F H σ st Q Qd Ed s x h k => k F H none s.rf h⟩⟩
theorem mo_some (h : ME X E e f) : MO X E (some e) (dPart f) := by
  obtain ⟨t, h⟩ := h
  refine ⟨_, fun i => ⟨po_some (h i).1, fun H0 F H σ st Q Qd Ed s x hh k => ?_⟩⟩
  refine (h i).2 H0 F H σ st _ _ Ed s x hh fun F1 H1 v d s1 r1 h1 => ?_
  cases d with
  | int n =>
    have e := r1.intI
    subst e
    exact ⟨n, rfl, k F1 H1 _ s1 h1⟩
  | _ => exact h1.elim
/-- a slice on data -/
def SlD (K : PySem.W.Frag) (r : V → Option Int → Option Int → Hp → VK → Prop) (g : D → Option Int → Option Int → (D → Prop) → Prop) : Prop := ∀ (dl : Dl) (F H : Hp) (x : V) (lo hi : Option Int) (dx : D) (Q : VK) (Qd : D → Prop), Same F H → DlOk dl F H → RS K F H x dx → g dx lo hi Qd →
  (∀ F' H' v d, Step dl F H F' H' → Rep K F' v d → Qd d → Q v H') → r x lo hi H Q
def SlF (K : PySem.W.Frag) (r : V → Option Int → Option Int → Hp → VK → Prop) (g : D → Option Int → Option Int → (D → Prop) → Prop) : Prop := ∀ (dl : Dl) (F H : Hp) (x : V) (lo hi : Option Int) (dx : D) (Q : VK) (Qd : D → Prop), Same F H → DlOk dl F H → RS K F H x dx → g dx lo hi Qd →
  (∀ F' H' p d, Step dl F H F' H' → F' p = none → H p = none → MutRep K F' H' p d → Qd d → Q (.ref p) H') → r x lo hi H Q
def dSl (g : D → Option Int → Option Int → (D → Prop) → Prop) (f : FE) (fl fh : FO) : FE := fun st Q E => f st (fun x => fl st (fun l => fh st (fun h => g x l h Q) E) E) E
theorem me_slice {r : V → Option Int → Option Int → Hp → VK → Prop} {g : D → Option Int → Option Int → (D → Prop) → Prop} (hr : ∀ i, SlR (X i) r) (hg : ∀ i, SlD (X i).K r g) (he : MB X E e f) (hl : MO X E lo fl) (hh : MO X E hi fh) : ME X E (.Subscript e (.Slice lo hi none p2) pos) (dSl g f fl fh) := by
  obtain ⟨t, he⟩ := he
  obtain ⟨tl, hl⟩ := hl
  obtain ⟨th, hh⟩ := hh
  refine ⟨_, fun i => ⟨pe_slice (hr i) (he i).1 (hl i).1 (hh i).1, fun H0 F H σ st Q Qd Ed s x h k => ?_⟩⟩
  refine (he i).2 H0 F H σ st _ _ Ed s x h fun F1 H1 v d s1 r1 h1 => ?_
  have k1 := s.step s1
  have x1 := x.step s1
  refine (hl i).2 H0 F1 H1 σ st _ _ Ed k1 x1 h1 fun F2 H2 l s2 h2 => ?_
  have k2 := k1.step s2
  refine (hh i).2 H0 F2 H2 σ st _ _ Ed k2 (x1.step s2) h2 fun F3 H3 u s3 h3 => ?_
  have k3 := k2.step s3
  exact hg i st.dl F3 H3 v l u d Q Qd k3.fh k3.dl ((r1.same (s2.ff.trans s3.ff)).rs k3) h3 fun F' H' w z s4 rw' q => k F' H' w z ((s1.trans s2).trans (s3.trans s4)) rw' q
theorem mf_slice {r : V → Option Int → Option Int → Hp → VK → Prop} {g : D → Option Int → Option Int → (D → Prop) → Prop} (hr : ∀ i, SlR (X i) r) (hg : ∀ i, SlF (X i).K r g) (he : MB X E e f) (hl : MO X E lo fl) (hh : MO X E hi fh) : MF X E (.Subscript e (.Slice lo hi none p2) pos) (dSl g f fl fh) := by
  obtain ⟨t, he⟩ := he
  obtain ⟨tl, hl⟩ := hl
  obtain ⟨th, hh⟩ := hh
  refine ⟨_, fun i => ⟨pe_slice (hr i) (he i).1 (hl i).1 (hh i).1, fun H0 F H σ st Q Qd Ed s x h k => ?_⟩⟩
  refine (he i).2 H0 F H σ st _ _ Ed s x h fun F1 H1 v d s1 r1 h1 => ?_
  have k1 := s.step s1
  have x1 := x.step s1
  refine (hl i).2 H0 F1 H1 σ st _ _ Ed k1 x1 h1 fun F2 H2 l s2 h2 => ?_
  have k2 := k1.step s2
  refine (hh i).2 H0 F2 H2 σ st _ _ Ed k2 (x1.step s2) h2 fun F3 H3 u s3 h3 => ?_
  have k3 := k2.step s3
  exact hg i st.dl F3 H3 v l u d Q Qd k3.fh k3.dl ((r1.same (s2.ff.trans s3.ff)).rs k3) h3 fun F' H' w z s4 fp hp rw' q => k F' H' w z ((s1.trans s2).trans (s3.trans s4)) fp (((s1.trans s2).trans s3).hn hp) rw' q
/-- of a list, or of the script: a new list -/
def gSlL (x : D) (lo hi : Option Int) (Q : D → Prop) : Prop := match lItems x with
  | some ds => Q (.lst (cutG ds lo hi))
  | none => False
theorem slf_L : SlF K (rSlL K) gSlL := fun dl F H x lo hi dx Q Qd s d rx h k => by
  unfold gSlL at h
  cases e : lItems dx with
  | none => rw [e] at h; exact h.elim
  | some ds =>
    rw [e] at h
    obtain ⟨p, vs, rfl, hp, r⟩ := rs_lItems s rx e
    exact ⟨p, vs, rfl, hp, fun a na => k F _ a (.lst _) (Step.freshM s d na) (Same.none s na) na ⟨_, upd_same, r.cut lo hi⟩ h⟩
/-- of a tuple -/
def gSlT (x : D) (lo hi : Option Int) (Q : D → Prop) : Prop := match x with
  | .tup ds => Q (.tup (cutG ds lo hi))
  | _ => False
theorem cutG_len {α : Type} (xs : List α) (lo hi : Option Int) : (cutG xs lo hi).length ≤ xs.length := by
  unfold cutG
  rw [List.length_take, List.length_drop]
  omega
end
end DL

/-! DL, part j: more built-ins over data. -/
namespace DL
open PySem PySem.Spec PyProof.Rows L2
section
variable {K : PySem.W.Frag}
theorem SlF.toD {r : V → Option Int → Option Int → Hp → VK → Prop} {g : D → Option Int → Option Int → (D → Prop) → Prop} (h : SlF K r g) : SlD K r g := fun dl F H x lo hi dx Q Qd s d rx hh k => by
  refine h dl F H x lo hi dx Q Qd s d rx hh fun F' H' p d' st fp hp r q => ?_
  have fr : ∀ o, H' p = some o → Step dl F H (upd F' p o) H' := fun o e => ⟨st.toFStep.freeze e hp, st.deal.move (fun b hb => by
    have hbp : b ≠ p := fun z => by
      subst z
      obtain ⟨u, w⟩ := d.dom hb
      rw [hp] at w
      cases w
    rw [upd_ne hbp]
    exact st.deal.off hb) fun b o _ e => e⟩
  have ff : ∀ o, Same F' (upd F' p o) := fun o => Same.upd_new fp
  cases d' with
  | lst ds => obtain ⟨vs, e, r⟩ := r; exact k _ _ _ _ (fr _ e) (.lst upd_same (r.same (ff _))) q
  | dK ds => obtain ⟨ks, e, z, y, r⟩ := r; exact k _ _ _ _ (fr _ e) (.dK upd_same z y (r.same (ff _))) q
  | dT ds => obtain ⟨ks, e, z, y, r⟩ := r; exact k _ _ _ _ (fr _ e) (.dT upd_same z y (r.same (ff _))) q
  | _ => exact r.elim
theorem CallF.toD {r : List V → Hp → VK → Prop} {g : List D → (D → Prop) → Prop} (h : CallF K r g) : CallD K r g := fun dl F H xs ds Q Qd s d rx hh k => by
  refine h dl F H xs ds Q Qd s d rx hh fun F' H' p d' st fp hp r q => ?_
  have fr : ∀ o, H' p = some o → Step dl F H (upd F' p o) H' := fun o e => ⟨st.toFStep.freeze e hp, st.deal.move (fun b hb => by
    have hbp : b ≠ p := fun z => by
      subst z
      obtain ⟨u, w⟩ := d.dom hb
      rw [hp] at w
      cases w
    rw [upd_ne hbp]
    exact st.deal.off hb) fun b o _ e => e⟩
  have ff : ∀ o, Same F' (upd F' p o) := fun o => Same.upd_new fp
  cases d' with
  | lst ds => obtain ⟨vs, e, r⟩ := r; exact k _ _ _ _ (fr _ e) (.lst upd_same (r.same (ff _))) q
  | dK ds => obtain ⟨ks, e, z, y, r⟩ := r; exact k _ _ _ _ (fr _ e) (.dK upd_same z y (r.same (ff _))) q
  | dT ds => obtain ⟨ks, e, z, y, r⟩ := r; exact k _ _ _ _ (fr _ e) (.dT upd_same z y (r.same (ff _))) q
  | _ => exact r.elim
theorem sIx_le' (n : Nat) (o : Option Int) : HT.sIx n 0 o ≤ n := HT.sIx_le _ _ (Nat.zero_le _) _
theorem cut_whole {α : Type} (xs : List α) (lo hi : Option Int) (h : HT.sIx xs.length 0 lo = 0 ∧ HT.sIx xs.length xs.length hi = xs.length) : cutG xs lo hi = xs := by
  unfold cutG
  rw [h.1, h.2]
  simp
theorem sld_T : SlD K (rSlA K) gSlT := fun dl F H x lo hi dx Q Qd s d rx h k => by
  cases dx with
  | tup ds =>
    have h' : Qd (.tup (cutG ds lo hi)) := h
    obtain ⟨p, vs, rfl, hp, r⟩ := rs_tItems s rx rfl
    refine ⟨p, vs, rfl, hp, fun e => ?_, fun _ a na => ?_⟩
    · rw [r.length] at e
      rw [cut_whole ds lo hi e] at h'
      rcases rx with rx | ⟨_, _, rx⟩
      · exact k F H _ _ (Step.refl s d) rx h'
      · exact rx.elim
    · exact k _ _ _ _ (Step.fresh s d na) (.tup (SqT.of upd_same) ((r.cut lo hi).same (Same.upd_new (Same.none s na)))) h'
  | _ => exact h.elim
theorem strOk_cut {z : Str} (h : strOk z = true) (lo hi : Option Int) : strOk (cutS z lo hi) = true := by
  have h' : z.cps.all (· < 0x110000) = true := h
  rw [Array.all_eq_true'] at h'
  show ((((z.cps.toList.drop (HT.sIx z.length 0 lo)).take (HT.sIx z.length z.length hi - HT.sIx z.length 0 lo)).toArray).all (· < 0x110000)) = true
  rw [Array.all_eq_true']
  intro c hc
  have h1 : c ∈ (z.cps.toList.drop (HT.sIx z.length 0 lo)).take (HT.sIx z.length z.length hi - HT.sIx z.length 0 lo) := by simpa using hc
  have h2 := List.mem_of_mem_drop (List.mem_of_mem_take h1)
  exact h' c (by simpa using h2)
def gSlS (x : D) (lo hi : Option Int) (Q : D → Prop) : Prop := match x with
  | .str z => z.length ≤ sizeLine ∧ Q (.str (cutS z lo hi))
  | _ => False
theorem sld_S : SlD K rSlS gSlS := fun dl F H x lo hi dx Q Qd s d rx h k => by
  cases dx with
  | str z =>
    obtain ⟨h1, h2⟩ := (show z.length ≤ sizeLine ∧ Qd (.str (cutS z lo hi)) from h)
    have hok := rs_str rx
    exact ⟨z, rx.str, h1, k F H _ _ (Step.refl s d) (.str (strOk_cut hok lo hi)) h2⟩
  | _ => exact h.elim
/-- of anything -/
def gSl (x : D) (lo hi : Option Int) (Q : D → Prop) : Prop := match x with
  | .lst ds => Q (.lst (cutG ds lo hi))
  | .scr ns => Q (.lst (cutG (ns.map D.int) lo hi))
  | .tup ds => Q (.tup (cutG ds lo hi))
  | .str z => z.length ≤ sizeLine ∧ Q (.str (cutS z lo hi))
  | _ => False
def rSl3 (K : PySem.W.Frag) : V → Option Int → Option Int → Hp → VK → Prop := fun x lo hi H Q => rSlL K x lo hi H Q ∨ (rSlA K x lo hi H Q ∨ rSlS x lo hi H Q)
theorem sl_3 {X : Cx} : SlR X (rSl3 X.K) := sl_list.or (sl_tupA.or sl_str)
theorem sld_3 : SlD K (rSl3 K) gSl := fun dl F H x lo hi dx Q Qd s d rx h k => by
  cases dx with
  | lst ds => exact .inl (slf_L.toD dl F H x lo hi _ Q Qd s d rx h k)
  | scr ns => exact .inl (slf_L.toD dl F H x lo hi _ Q Qd s d rx h k)
  | tup ds => exact .inr (.inl (sld_T dl F H x lo hi _ Q Qd s d rx h k))
  | str z => exact .inr (.inr (sld_S dl F H x lo hi _ Q Qd s d rx h k))
  | _ => exact h.elim

/-! ### len, any, all, list, tuple, abs, int -/
def gLen (ds : List D) (Q : D → Prop) : Prop := match ds with
  | [.lst xs] => Q (.int (xs.length : Nat))
  | [.tup xs] => Q (.int (xs.length : Nat))
  | [.scr xs] => Q (.int (xs.length : Nat))
  | [.str z] => z.length ≤ sizeLine ∧ Q (.int (z.length : Nat))
  | _ => False
def rLenV (K : PySem.W.Frag) : List V → Hp → VK → Prop := fun xs H Q => ∃ x n, xs = [x] ∧ LenV K x H n ∧ Q (.int (n : Nat)) H
theorem cd_len : CallD K (rLenV K) gLen := fun dl F H xs ds Q Qd s d rx h k => by
  match ds, rx, h with
  | [.lst ys], .cons (a := x) r .nil, h =>
    obtain ⟨p, vs, rfl, hp, r⟩ := rs_lItems s r rfl
    have h' : Qd (.int (ys.length : Nat)) := h
    rw [← r.length] at h'
    exact ⟨_, vs.length, rfl, .inl ⟨vs, hp, rfl⟩, k F H _ _ (Step.refl s d) (.int _) h'⟩
  | [.scr ys], .cons (a := x) r .nil, h =>
    obtain ⟨p, rfl, hp⟩ := r.scr s
    have h' : Qd (.int (ys.length : Nat)) := h
    exact ⟨_, ys.length, rfl, .inl ⟨_, hp, by rw [List.length_map]⟩, k F H _ _ (Step.refl s d) (.int _) h'⟩
  | [.tup ys], .cons (a := x) r .nil, h =>
    obtain ⟨p, vs, rfl, hp, r⟩ := rs_tItems s r rfl
    have h' : Qd (.int (ys.length : Nat)) := h
    rw [← r.length] at h'
    exact ⟨_, vs.length, rfl, .inr ⟨vs, hp, rfl⟩, k F H _ _ (Step.refl s d) (.int _) h'⟩
  | [.str z], .cons (a := x) r .nil, h =>
    obtain ⟨h1, h2⟩ := (show z.length ≤ sizeLine ∧ Qd (.int (z.length : Nat)) from h)
    have e := r.str
    subst e
    exact ⟨_, z.length, rfl, ⟨h1, rfl⟩, k F H _ _ (Step.refl s d) (.int _) h2⟩
/-- a list of bools -/
def boolsOf : List D → Option (List Bool)
  | [] => some []
  | .bl b :: ds => (boolsOf ds).map (b :: ·)
  | _ :: _ => none
theorem boolsOf_map (bs : List Bool) : boolsOf (bs.map D.bl) = some bs := by
  induction bs with
  | nil => rfl
  | cons b bs ih => show (boolsOf (bs.map D.bl)).map (b :: ·) = _; rw [ih]; rfl
theorem boolsOf_some : ∀ {ds : List D} {bs : List Bool}, boolsOf ds = some bs → ds = bs.map D.bl
  | [], bs, h => by cases h; rfl
  | d :: ds, bs, h => by
    cases d with
    | bl b =>
      have h' : (boolsOf ds).map (b :: ·) = some bs := h
      cases q : boolsOf ds with
      | none => rw [q] at h'; cases h'
      | some cs =>
        rw [q] at h'
        cases h'
        rw [boolsOf_some q]
        rfl
    | _ => cases h
def gAll (ds : List D) (Q : D → Prop) : Prop := match ds with
  | [.lst xs] => (match boolsOf xs with
    | some bs => Q (.bl (bs.all id))
    | none => False)
  | _ => False
def gAny (ds : List D) (Q : D → Prop) : Prop := match ds with
  | [.lst xs] => (match boolsOf xs with
    | some bs => Q (.bl (bs.any id))
    | none => False)
  | _ => False
theorem cd_all : CallD K (rAll K) gAll := fun dl F H xs ds Q Qd s d rx h k => by
  match ds, rx, h with
  | [.lst ys], .cons (a := x) r .nil, h =>
    have h' : (match boolsOf ys with
      | some bs => Qd (.bl (bs.all id))
      | none => False) := h
    cases e : boolsOf ys with
    | none => rw [e] at h'; exact h'.elim
    | some bs =>
      rw [e] at h'
      rw [boolsOf_some e] at r
      obtain ⟨p, vs, rfl, hp, r⟩ := rs_lItems s r rfl
      rw [r.bools] at hp
      exact ⟨p, bs, rfl, hp, k F H _ _ (Step.refl s d) (.bl _) h'⟩
theorem cd_any : CallD K (rAny K) gAny := fun dl F H xs ds Q Qd s d rx h k => by
  match ds, rx, h with
  | [.lst ys], .cons (a := x) r .nil, h =>
    have h' : (match boolsOf ys with
      | some bs => Qd (.bl (bs.any id))
      | none => False) := h
    cases e : boolsOf ys with
    | none => rw [e] at h'; exact h'.elim
    | some bs =>
      rw [e] at h'
      rw [boolsOf_some e] at r
      obtain ⟨p, vs, rfl, hp, r⟩ := rs_lItems s r rfl
      rw [r.bools] at hp
      exact ⟨p, bs, rfl, hp, k F H _ _ (Step.refl s d) (.bl _) h'⟩
def seqItems : D → Option (List D)
  | .lst ds => some ds
  | .scr ns => some (ns.map D.int)
  | .tup ds => some ds
  | _ => none
def gList (ds : List D) (Q : D → Prop) : Prop := match ds with
  | [x] => (match seqItems x with
    | some xs => Q (.lst xs)
    | none => False)
  | _ => False
theorem rs_seq {F H : Hp} {v : V} {d : D} {ds : List D} (s : Same F H) (h : RS K F H v d) (e : seqItems d = some ds) : ∃ p vs, v = .ref p ∧ (SqL K H p vs ∨ SqT K H p vs) ∧ RepL K F vs ds := by
  cases d with
  | lst xs =>
    obtain ⟨p, vs, a, b, c⟩ := rs_lItems s h (ds := ds) e
    exact ⟨p, vs, a, .inl b, c⟩
  | scr xs =>
    obtain ⟨p, vs, a, b, c⟩ := rs_lItems s h (ds := ds) e
    exact ⟨p, vs, a, .inl b, c⟩
  | tup xs =>
    obtain ⟨p, vs, a, b, c⟩ := rs_tItems s h (ds := ds) e
    exact ⟨p, vs, a, .inr b, c⟩
  | _ => cases e
def rListOf (K : PySem.W.Frag) : List V → Hp → VK → Prop := fun xs H Q => ∃ p ys, xs = [.ref p] ∧ (SqL K H p ys ∨ SqT K H p ys) ∧ ∀ l, H l = none → Q (.ref l) (upd H l (.lst ys))
theorem cf_list : CallF K (rListOf K) gList := fun dl F H xs ds Q Qd s d rx h k => by
  match ds, rx, h with
  | [y], .cons (a := x) r .nil, h =>
    have h' : (match seqItems y with
      | some xs => Qd (.lst xs)
      | none => False) := h
    cases e : seqItems y with
    | none => rw [e] at h'; exact h'.elim
    | some ys =>
      rw [e] at h'
      obtain ⟨p, vs, rfl, hp, r⟩ := rs_seq s r e
      exact ⟨p, vs, rfl, hp, fun l nl => k F _ l (.lst ys) (Step.freshM s d nl) (Same.none s nl) nl ⟨_, upd_same, r⟩ h'⟩
def gTuple (ds : List D) (Q : D → Prop) : Prop := match ds with
  | [x] => (match seqItems x with
    | some xs => Q (.tup xs)
    | none => False)
  | _ => False
def rTupOf (K : PySem.W.Frag) : List V → Hp → VK → Prop := fun xs H Q => ∃ p ys, xs = [.ref p] ∧ ((SqL K H p ys ∧ ∀ l, H l = none → Q (.ref l) (upd H l (.tup ys))) ∨ (SqT K H p ys ∧ Q (.ref p) H))
theorem cd_tuple : CallD K (rTupOf K) gTuple := fun dl F H xs ds Q Qd s d rx h k => by
  match ds, rx, h with
  | [y], .cons (a := x) r .nil, h =>
    have h' : (match seqItems y with
      | some xs => Qd (.tup xs)
      | none => False) := h
    cases e : seqItems y with
    | none => rw [e] at h'; exact h'.elim
    | some ys =>
      rw [e] at h'
      have lc : ∀ {p vs}, SqL K H p vs → RepL K F vs ys → x = .ref p → rTupOf K [x] H Q := fun {p vs} hp r ex => ⟨p, vs, by rw [ex], .inl ⟨hp, fun l nl => k _ _ _ _ (Step.fresh s d nl) (.tup (SqT.of upd_same) (r.same (Same.upd_new (Same.none s nl)))) h'⟩⟩
      cases y with
      | lst zs =>
        obtain ⟨p, vs, ex, hp, r⟩ := rs_lItems s r (ds := ys) e
        exact lc hp r ex
      | scr zs =>
        obtain ⟨p, vs, ex, hp, r⟩ := rs_lItems s r (ds := ys) e
        exact lc hp r ex
      | tup zs =>
        have ez : zs = ys := Option.some.inj e
        subst ez
        have r0 := r
        obtain ⟨p, vs, ex, hp, r'⟩ := rs_tItems s r0 (ds := zs) rfl
        subst ex
        rcases r with r | ⟨_, _, r⟩
        · exact ⟨p, vs, rfl, .inr ⟨hp, k F H _ _ (Step.refl s d) r h'⟩⟩
        · exact r.elim
      | _ => cases e
def gAbs (ds : List D) (Q : D → Prop) : Prop := match ds with
  | [.int i] => Q (.int (if i < 0 then -i else i))
  | _ => False
theorem cd_abs : CallD K (fun xs H Q => ∃ i, xs = [.int i] ∧ Q (.int (if i < 0 then -i else i)) H) gAbs := fun dl F H xs ds Q Qd s d rx h k => by
  match ds, rx, h with
  | [.int i], .cons (a := x) r .nil, h =>
    have e := r.int
    subst e
    exact ⟨i, rfl, k F H _ _ (Step.refl s d) (.int _) h⟩
def gInt (ds : List D) (Q : D → Prop) : Prop := match ds with
  | [.int i] => Q (.int i)
  | [.bl b] => Q (.int (if b then 1 else 0))
  | _ => False
theorem cd_int : CallD K (fun xs H Q => (∃ i, xs = [.int i] ∧ Q (.int i) H) ∨ ∃ k, xs = [.bl k] ∧ Q (.int (if k then 1 else 0)) H) gInt := fun dl F H xs ds Q Qd s d rx h k => by
  match ds, rx, h with
  | [.int i], .cons (a := x) r .nil, h =>
    have e := r.int
    subst e
    exact .inl ⟨i, rfl, k F H _ _ (Step.refl s d) (.int _) h⟩
  | [.bl b], .cons (a := x) r .nil, h =>
    have e := r.bl
    subst e
    exact .inr ⟨b, rfl, k F H _ _ (Step.refl s d) (.int _) h⟩
/-! ### isinstance -/
def tyName : D → Option String
  | .non => some "NoneType"
  | .bl _ => some "bool"
  | .int _ => some "int"
  | .str _ => some "str"
  | .lst _ => some "list"
  | .scr _ => some "list"
  | .tup _ => some "tuple"
  | .dK _ => some "dict"
  | .dT _ => some "dict"
  | _ => none
def gIsi (ds : List D) (Q : D → Prop) : Prop := match ds with
  | [x, .ty n] => (match tyName x with
    | some t => (match kitB t n with
      | some b => Q (.bl b)
      | none => False)
    | none => False)
  | _ => False
theorem rs_ty {F H : Hp} {v : V} {d : D} {t : String} (s : Same F H) (h : RS K F H v d) (e : tyName d = some t) : TyX K H v (.type t) := by
  have tl : ∀ {p xs}, SqL K H p xs → TyX K H (.ref p) (.type "list") := fun {p xs} hp => by
    rcases hp with hp | ⟨o, its, n, hk, hc, _⟩
    · rcases hp with hp | ⟨o, hp⟩
      · exact .base (.lst hp)
      · exact .base (.frz hp)
    · exact .kList hk hc
  cases d with
  | non => cases e; rw [h.non]; exact .base .non
  | bl b => cases e; rw [h.bl]; exact .base (.bl b)
  | int b => cases e; rw [h.int]; exact .base (.int b)
  | str b => cases e; rw [h.str]; exact .base (.str b)
  | lst xs =>
    cases e
    obtain ⟨p, vs, rfl, hp, _⟩ := rs_lItems s h rfl
    exact tl hp
  | scr xs =>
    cases e
    obtain ⟨p, vs, rfl, hp, _⟩ := rs_lItems s h rfl
    exact tl hp
  | tup xs =>
    cases e
    obtain ⟨p, vs, rfl, hp, _⟩ := rs_tItems s h rfl
    rcases hp with hp | ⟨o, its, n, hk, hc, _⟩
    · rcases hp with hp | ⟨o, hp⟩
      · exact .base (.tup hp)
      · exact .fTuple hp
    · exact .kTuple hk hc
  | dK xs =>
    cases e
    rcases h with h | ⟨p, rfl, ks, h, _⟩
    · cases h with
      | dK h _ _ _ => exact .base (.dK (s _ _ h))
    · exact .base (.dK h)
  | dT xs =>
    cases e
    rcases h with h | ⟨p, rfl, ks, h, _⟩
    · cases h with
      | dT h _ _ _ => exact .base (.dT (s _ _ h))
    · exact .base (.dT h)
  | _ => cases e
theorem cd_isi : CallD K (rIsi K) gIsi := fun dl F H xs ds Q Qd s d rx h k => by
  match ds, rx, h with
  | [y, .ty n], .cons (a := x) r (.cons (a := c) r2 .nil), h =>
    have h' : (match tyName y with
      | some t => (match kitB t n with
        | some b => Qd (.bl b)
        | none => False)
      | none => False) := h
    cases e : tyName y with
    | none => rw [e] at h'; exact h'.elim
    | some t =>
      rw [e] at h'
      have h'' : (match kitB t n with
        | some b => Qd (.bl b)
        | none => False) := h'
      cases e2 : kitB t n with
      | none => rw [e2] at h''; exact h''.elim
      | some b =>
        rw [e2] at h''
        have ec : c = .ty n := by
          rcases r2 with r2 | ⟨_, _, r2⟩
          · cases r2; rfl
          · exact r2.elim
        subst ec
        exact ⟨x, .ty n, .type t, .type n, b, rfl, .ty n, rs_ty s r e, kit_ty e2, k F H _ _ (Step.refl s d) (.bl b) h''⟩
end
section
variable {ι : Type} {X : ι → Cx} {K : PySem.W.Frag} {E : XK} {e : Expr} {f : FE} {pos : Pos}
/-- a built-in class's name -/
theorem me_ty {x : Str} {n : String} (hm : ∀ i, (X i).mg x = none) (hv : bootBuiltins x = some (.type n)) (hg : ∀ i, Gl (X i) x := by intro _; rfl) (hn : x ≠ "__name__" := by decide) (hd : (x == ("__debug__" : Str)) = false := by decide) : ME X E (.Name x pos) (dLit (.ty n)) :=
  ⟨_, fun i => ⟨pe_bltn (v := .ty n) (hg i) (hm i) hv rfl hn hd, SemE.lit fun _ => .ty n⟩⟩
/-! ### xs[::-1] -/
def dRev (f : FE) : FE := fun st Q E => f st (fun x => match lItems x with
  | some ds => Q (.lst ds.reverse)
  | none => False) E
theorem mf_rev {j : Nat} {p1 p2 p3 : Pos} (h : MB X E e f) (hK : ∀ i, (X i).K = K := by intro _; rfl) : MF X E (.Subscript e (.Slice none none (some (.UnaryOp .USub (.Constant (.int 1) j p1) p2)) p3) pos) (dRev f) := by
  obtain ⟨t, h⟩ := h
  refine ⟨tRevL K t, fun i => ?_⟩
  have hi := hK i
  subst hi
  refine ⟨pe_revL (h i).1, fun H0 F H σ st Q Qd Ed s x hh k => ?_⟩
  refine (h i).2 H0 F H σ st _ _ Ed s x hh fun F1 H1 v d s1 r1 h1 => ?_
  have k1 := s.step s1
  cases e : lItems d with
  | none => rw [e] at h1; exact h1.elim
  | some ds =>
    rw [e] at h1
    obtain ⟨p, vs, rfl, hp, r⟩ := rs_lItems k1.fh (r1.rs k1) e
    exact ⟨p, vs, rfl, hp, fun a na => k _ _ a (.lst _) (s1.trans (Step.freshM k1.fh k1.dl na)) (Same.none k1.fh na) (s1.hn na) ⟨_, upd_same, r.rev⟩ h1⟩
end
/-! ### sep.join(xs) -/
def strsOf : List D → Option (List Str)
  | [] => some []
  | .str b :: ds => (strsOf ds).map (b :: ·)
  | _ :: _ => none
theorem strsOf_map (bs : List Str) : strsOf (bs.map D.str) = some bs := by
  induction bs with
  | nil => rfl
  | cons b bs ih => show (strsOf (bs.map D.str)).map (b :: ·) = _; rw [ih]; rfl
theorem strsOf_some : ∀ {ds : List D} {bs : List Str}, strsOf ds = some bs → ds = bs.map D.str
  | [], bs, h => by cases h; rfl
  | d :: ds, bs, h => by
    cases d with
    | str b =>
      have h' : (strsOf ds).map (b :: ·) = some bs := h
      cases q : strsOf ds with
      | none => rw [q] at h'; cases h'
      | some cs =>
        rw [q] at h'
        cases h'
        rw [strsOf_some q]
        rfl
    | _ => cases h
theorem RepL.strOks {K : PySem.W.Frag} {F : Hp} {vs : List V} : ∀ {ns : List Str}, RepL K F vs (ns.map D.str) → ∀ n ∈ ns, strOk n = true := by
  induction vs with
  | nil =>
    intro ns h
    cases ns with
    | nil => intro n hn; cases hn
    | cons n ns => cases h
  | cons v vs ih =>
    intro ns h
    cases ns with
    | nil => cases h
    | cons n ns =>
      cases h with
      | cons r t =>
        intro m hm
        rcases List.mem_cons.mp hm with e | hm
        · rw [e]; cases r; assumption
        · exact ih t m hm
end DL

/-! DL, part k: a family's facts; operators and built-ins as packages. -/
namespace DL
open PySem PySem.Spec PyProof.Rows L2

/-- what a family of contexts has in common -/
structure Fam (P : Program) (w : World) (K : PySem.W.Frag) (mg : Str → Option Value) (base : Heap) (k : Nat) {ι : Type} (X : ι → Cx) : Prop where
  p : ∀ i, (X i).prog = P
  w : ∀ i, (X i).w = w
  K : ∀ i, (X i).K = K
  mg : ∀ i, (X i).mg = mg
  b : ∀ i, (X i).base = base
  c : ∀ i, (X i).calm = true
  nd : ∀ i, (X i).N.Nodup
  gd : ∀ i, (X i).A.guards = some []
  rm : ∀ i, Room k (X i).A
section
variable {P : Program} {w : World} {K : PySem.W.Frag} {mg : Str → Option Value} {base : Heap} {k : Nat} {ι : Type} {X : ι → Cx}
theorem Fam.blk (φ : Fam P w K mg base k X) {scope : Scope} : Fam P w K mg base k (blkX X scope) :=
  ⟨fun i => φ.p i.1, fun i => φ.w i.1, fun i => φ.K i.1, fun i => φ.mg i.1, fun i => φ.b i.1, fun i => φ.c i.1, fun i => φ.nd i.1, fun i => φ.gd i.1, fun i => φ.rm i.1⟩
theorem Fam.hu (φ : Fam P w K mg base k X) (i : ι) : (X i).A.units + 190 < cLine := by have := (φ.rm i).un; omega
end

/-! ### packages -/
def Bo {ι : Type} (X : ι → Cx) (op : Operator) (g : D → D → (D → Prop) → Prop) : Prop := ∃ r, ∀ i, OpR (X i) (binaryOp op) r ∧ OpD (X i).K r g
def BoF {ι : Type} (X : ι → Cx) (op : Operator) (g : D → D → (D → Prop) → Prop) : Prop := ∃ r, ∀ i, OpR (X i) (binaryOp op) r ∧ OpF (X i).K r g
def Cm {ι : Type} (X : ι → Cx) (op : CmpOp) (g : D → D → (D → Prop) → Prop) : Prop := ∃ r, ∀ i, OpR (X i) (compareOp op) r ∧ OpD (X i).K r g
def Cb {ι : Type} (X : ι → Cx) (v : Value) (g : List D → (D → Prop) → Prop) : Prop := ∃ r, ∀ i, CallR (X i) v r ∧ CallD (X i).K r g
def CbF {ι : Type} (X : ι → Cx) (v : Value) (g : List D → (D → Prop) → Prop) : Prop := ∃ r, ∀ i, CallR (X i) v r ∧ CallF (X i).K r g
section
variable {P : Program} {w : World} {K : PySem.W.Frag} {mg : Str → Option Value} {base : Heap} {k : Nat} {ι : Type} {X : ι → Cx} {E : XK} {a b c e : Expr} {es : List Expr} {fa fb fc f : FE} {ff : FA} {pos p p2 p3 : Pos}
theorem k_bin {op : Operator} {g : D → D → (D → Prop) → Prop} (h : Bo X op g) (ha : MB X E a fa) (hb : MB X E b fb) : ME X E (.BinOp a op b pos) (dOp g fa fb) := by
  obtain ⟨r, h⟩ := h
  exact me_op (fun i => (h i).1) (fun i => (h i).2) ha hb
theorem k_binF {op : Operator} {g : D → D → (D → Prop) → Prop} (h : BoF X op g) (ha : MB X E a fa) (hb : MB X E b fb) : MF X E (.BinOp a op b pos) (dOp g fa fb) := by
  obtain ⟨r, h⟩ := h
  exact mf_op (fun i => (h i).1) (fun i => (h i).2) ha hb
theorem k_cmp {op : CmpOp} {g : D → D → (D → Prop) → Prop} (h : Cm X op g) (ha : MB X E a fa) (hb : MB X E b fb) (hm : behindInMarks op b = false := by rfl) : ME X E (.Compare a [op] [b] pos) (dOp g fa fb) := by
  obtain ⟨r, h⟩ := h
  exact me_cmp (fun i => (h i).1) (fun i => (h i).2) ha hb hm
theorem k_chain {op op' : CmpOp} {g g' : D → D → (D → Prop) → Prop} (h : Cm X op g) (h' : Cm X op' g') (ha : MB X E a fa) (hb : MB X E b fb) (hc : MB X E c fc) (hm : lastMarks [op, op'] [b, c] = false := by with_unfolding_all rfl) :
    ME X E (.Compare a [op, op'] [b, c] pos) (dChain g g' fa fb fc) := by
  obtain ⟨r, h⟩ := h
  obtain ⟨r', h'⟩ := h'
  exact me_chain (fun i => (h i).1) (fun i => (h i).2) (fun i => (h' i).1) (fun i => (h' i).2) ha hb hc hm
theorem k_call (φ : Fam P w K mg base k X) {id : String} {g : List D → (D → Prop) → Prop} {x : Str} (hc : Cb X (.builtin id) g) (hm : mg x = none) (ha : MAB X E (e :: es) ff) (hv : bootBuiltins x = some (.builtin id) := by decide +kernel)
    (hg : ∀ i, Gl (X i) x := by intro _; rfl) (hn : x ≠ "__name__" := by decide) (hdb : (x == ("__debug__" : Str)) = false := by decide) (he : ∀ i, starEach (e :: es) (X i).env = (false, eval e (X i).env) :: starEach es (X i).env := by intro _; rfl) (hpl : ∀ i, (backTo pos (starEach es (X i).env)).any (·.1) = false := by intro _; rfl) :
    ME X E (.Call (.Name x p) (e :: es) [] pos) (dCB g ff) := by
  obtain ⟨r, h⟩ := hc
  exact me_callB (fun i => (h i).1) (fun i => by rw [φ.mg i]; exact hm) hv (fun i => (h i).2) ha hg hn hdb he hpl
theorem k_callF (φ : Fam P w K mg base k X) {id : String} {g : List D → (D → Prop) → Prop} {x : Str} (hc : CbF X (.builtin id) g) (hm : mg x = none) (ha : MAB X E (e :: es) ff) (hv : bootBuiltins x = some (.builtin id) := by decide +kernel)
    (hg : ∀ i, Gl (X i) x := by intro _; rfl) (hn : x ≠ "__name__" := by decide) (hdb : (x == ("__debug__" : Str)) = false := by decide) (he : ∀ i, starEach (e :: es) (X i).env = (false, eval e (X i).env) :: starEach es (X i).env := by intro _; rfl) (hpl : ∀ i, (backTo pos (starEach es (X i).env)).any (·.1) = false := by intro _; rfl) :
    MF X E (.Call (.Name x p) (e :: es) [] pos) (dCB g ff) := by
  obtain ⟨r, h⟩ := hc
  exact mf_callB (fun i => (h i).1) (fun i => by rw [φ.mg i]; exact hm) hv (fun i => (h i).2) ha hg hn hdb he hpl
theorem k_ty (φ : Fam P w K mg base k X) {T : String} {g : List D → (D → Prop) → Prop} {x : Str} (hc : Cb X (.type T) g) (hm : mg x = none) (ha : MAB X E (e :: es) ff) (hv : bootBuiltins x = some (.type T) := by decide +kernel)
    (hg : ∀ i, Gl (X i) x := by intro _; rfl) (hn : x ≠ "__name__" := by decide) (hdb : (x == ("__debug__" : Str)) = false := by decide) (he : ∀ i, starEach (e :: es) (X i).env = (false, eval e (X i).env) :: starEach es (X i).env := by intro _; rfl) (hpl : ∀ i, (backTo pos (starEach es (X i).env)).any (·.1) = false := by intro _; rfl) :
    ME X E (.Call (.Name x p) (e :: es) [] pos) (dCB g ff) := by
  obtain ⟨r, h⟩ := hc
  exact me_callTy (fun i => (h i).1) (fun i => by rw [φ.mg i]; exact hm) hv (fun i => (h i).2) ha hg hn hdb he hpl
theorem k_tyF (φ : Fam P w K mg base k X) {T : String} {g : List D → (D → Prop) → Prop} {x : Str} (hc : CbF X (.type T) g) (hm : mg x = none) (ha : MAB X E (e :: es) ff) (hv : bootBuiltins x = some (.type T) := by decide +kernel)
    (hg : ∀ i, Gl (X i) x := by intro _; rfl) (hn : x ≠ "__name__" := by decide) (hdb : (x == ("__debug__" : Str)) = false := by decide) (he : ∀ i, starEach (e :: es) (X i).env = (false, eval e (X i).env) :: starEach es (X i).env := by intro _; rfl) (hpl : ∀ i, (backTo pos (starEach es (X i).env)).any (·.1) = false := by intro _; rfl) :
    MF X E (.Call (.Name x p) (e :: es) [] pos) (dCB g ff) := by
  obtain ⟨r, h⟩ := hc
  exact mf_callTy (fun i => (h i).1) (fun i => by rw [φ.mg i]; exact hm) hv (fun i => (h i).2) ha hg hn hdb he hpl
theorem k_tyN (φ : Fam P w K mg base k X) {x : Str} {n : String} (hm : mg x = none) (hv : bootBuiltins x = some (.type n) := by decide +kernel) (hg : ∀ i, Gl (X i) x := by intro _; rfl) (hn : x ≠ "__name__" := by decide) (hd : (x == ("__debug__" : Str)) = false := by decide) : MB X E (.Name x pos) (dLit (.ty n)) :=
  (me_ty (fun i => by rw [φ.mg i]; exact hm) hv hg hn hd).toB
theorem k_gint (φ : Fam P w K mg base k X) {x : Str} {i : Int} (hm : ∃ t, mg x = some (.int i t)) (hg : ∀ j, Gl (X j) x := by intro _; rfl) (hdb : (x == ("__debug__" : Str)) = false := by decide) : ME X E (.Name x pos) (dLit (.int i)) :=
  me_gint (fun j => by rw [φ.mg j]; exact hm) hg hdb
theorem k_gstr (φ : Fam P w K mg base k X) {x : Str} {i : Str} (hm : ∃ t, mg x = some (.str i t)) (h : strOk i = true := by decide +kernel) (hg : ∀ j, Gl (X j) x := by intro _; rfl) (hdb : (x == ("__debug__" : Str)) = false := by decide) : ME X E (.Name x pos) (dLit (.str i)) :=
  me_gstr (fun j => by rw [φ.mg j]; exact hm) h hg hdb
theorem k_ix (φ : Fam P w K mg base k X) (ha : MB X E a fa) (hb : MB X E b fb) (hs : PlainIx b := by intro _ _; rfl) : ME X E (.Subscript a b pos) (dOp gIx fa fb) :=
  me_ix (r := rIx K) (fun i => by rw [← φ.K i]; exact ix_seq) (fun i => by rw [φ.K i]; exact opd_ix) ha hb hs
theorem k_sl (φ : Fam P w K mg base k X) {lo hi : Option Expr} {fl fh : FO} (he : MB X E e f) (hl : MO X E lo fl) (hh : MO X E hi fh) : ME X E (.Subscript e (.Slice lo hi none p2) pos) (dSl gSl f fl fh) :=
  me_slice (r := rSl3 K) (fun i => by rw [← φ.K i]; exact sl_3) (fun i => by rw [φ.K i]; exact sld_3) he hl hh
theorem k_slF (φ : Fam P w K mg base k X) {lo hi : Option Expr} {fl fh : FO} (he : MB X E e f) (hl : MO X E lo fl) (hh : MO X E hi fh) : MF X E (.Subscript e (.Slice lo hi none p2) pos) (dSl gSlL f fl fh) :=
  mf_slice (r := rSlL K) (fun i => by rw [← φ.K i]; exact sl_list) (fun i => by rw [φ.K i]; exact slf_L) he hl hh
theorem k_rev (φ : Fam P w K mg base k X) {j} (h : MB X E e f) : MF X E (.Subscript e (.Slice none none (some (.UnaryOp .USub (.Constant (.int 1) j p) p2)) p3) pos) (dRev f) := mf_rev h φ.K
/-! ### arithmetic -/
theorem bo_add (φ : Fam P w K mg base k X) : Bo X .Add gAdd := ⟨_, fun i => ⟨(op_add (X := X i)).or (op_add_str.or (op_cat.or (by have q := op_catA (X := X i); rw [φ.K i] at q; exact q))), by rw [φ.K i]; exact opd_add⟩⟩
theorem bo_addF : BoF X .Add gLL := ⟨_, fun i => ⟨op_cat, opf_LL⟩⟩
theorem bo_sub : Bo X .Sub (gI fun i j => .int (i - j)) := ⟨_, fun i => ⟨op_sub, opd_I⟩⟩
theorem bo_mul : Bo X .Mult (gIc CMul fun i j => .int (i * j)) := ⟨_, fun i => ⟨op_mul, opd_Ic⟩⟩
theorem bo_mulW : Bo X .Mult (gIc CMulW fun i j => .int (i * j)) := ⟨_, fun i => ⟨op_mulW, opd_Ic⟩⟩
theorem bo_fdiv : Bo X .FloorDiv (gIc CDivW fun i j => .int (i / j)) := ⟨_, fun i => ⟨op_fdivW, opd_Ic⟩⟩
theorem bo_mod : Bo X .Mod (gIc (fun _ j => 0 < j) fun i j => .int (i % j)) := ⟨_, fun i => ⟨op_mod, opd_Ic⟩⟩
theorem bo_pow : Bo X .Pow (gIc CPow fun i j => .int (i ^ j.toNat)) := ⟨_, fun i => ⟨op_pow, opd_Ic⟩⟩
def gNeg (x : D) (Q : D → Prop) : Prop := match x with
  | .int i => Q (.int (-i))
  | _ => False
theorem k_neg {e : Expr} {f : FE} (h : MB X E e f) : ME X E (.UnaryOp .USub e pos) (dUn gNeg f) := me_un (r := rU fun i => .int (-i)) (fun _ => un_neg) (fun i dl F H x dx Q Qd s d rx hh k => by
  match dx, rx, hh with
  | .int n, rx, hh => exact ⟨n, rx.int, k F H _ _ (Step.refl s d) (.int _) hh⟩) h
end
/-! ### comparisons -/
theorem toPy_ty_none : True := trivial
/-- alike data, shallow -/
def cmpOk (x y : D) : Bool := okD x && okD y && PySem.W.alike (toPy x) (toPy y) && (match x with
  | .non => false
  | _ => true)
def ltD (x y : D) : Bool := PySem.W.dataLt (toPy x) (toPy y)
def gCmp (fi : Int → Int → Bool) (fd : D → D → Bool) (x y : D) (Q : D → Prop) : Prop := match x, y with
  | .int i, .int j => Q (.bl (fi i j))
  | x, y => cmpOk x y = true ∧ Q (.bl (fd x y))
def gLt := gCmp (fun i j => decide (i < j)) ltD
def gGt := gCmp (fun i j => decide (j < i)) fun x y => ltD y x
def gLe := gCmp (fun i j => decide (i ≤ j)) fun x y => !ltD y x
def gGe := gCmp (fun i j => decide (j ≤ i)) fun x y => !ltD x y
def rCmpQ (K : PySem.W.Frag) (f : PyData → PyData → Bool) : R2 := fun x y H Q => ∃ d e, Dp K H x d ∧ Dp K H y e ∧ PySem.W.alike d e = true ∧ d ≠ .none ∧ d.depth ≤ 60 ∧ Q (.bl (f d e)) H
section
variable {X : Cx}
theorem op_ltQ (hu : X.A.units + 190 < cLine) : OpR X (compareOp .Lt) (rCmpQ X.K fun d e => PySem.W.dataLt d e) := by
  intro pins s σ H x y v u Q I rx ry h
  obtain ⟨d, e, hd, he, ha, hn, hz, q⟩ := h
  obtain ⟨as, r1⟩ := Dp.reads I d x v hd rx
  obtain ⟨bs, r2⟩ := Dp.reads I e y u he ry
  exact PySem.W.lt_data r1 r2 ha hn (by omega) ⟨.bl _, H, I, rfl, q⟩
theorem op_gtQ (hu : X.A.units + 190 < cLine) : OpR X (compareOp .Gt) (rCmpQ X.K fun d e => PySem.W.dataLt e d) := by
  intro pins s σ H x y v u Q I rx ry h
  obtain ⟨d, e, hd, he, ha, hn, hz, q⟩ := h
  obtain ⟨as, r1⟩ := Dp.reads I d x v hd rx
  obtain ⟨bs, r2⟩ := Dp.reads I e y u he ry
  exact PySem.W.gt_data r1 r2 ha hn (by omega) ⟨.bl _, H, I, rfl, q⟩
theorem op_leQ (hu : X.A.units + 190 < cLine) : OpR X (compareOp .LtE) (rCmpQ X.K fun d e => !PySem.W.dataLt e d) := by
  intro pins s σ H x y v u Q I rx ry h
  obtain ⟨d, e, hd, he, ha, hn, hz, q⟩ := h
  obtain ⟨as, r1⟩ := Dp.reads I d x v hd rx
  obtain ⟨bs, r2⟩ := Dp.reads I e y u he ry
  exact PySem.W.le_data r1 r2 ha hn (by omega) ⟨.bl _, H, I, rfl, q⟩
theorem op_geQ (hu : X.A.units + 190 < cLine) : OpR X (compareOp .GtE) (rCmpQ X.K fun d e => !PySem.W.dataLt d e) := by
  intro pins s σ H x y v u Q I rx ry h
  obtain ⟨d, e, hd, he, ha, hn, hz, q⟩ := h
  obtain ⟨as, r1⟩ := Dp.reads I d x v hd rx
  obtain ⟨bs, r2⟩ := Dp.reads I e y u he ry
  exact PySem.W.ge_data r1 r2 ha hn (by omega) ⟨.bl _, H, I, rfl, q⟩
end
theorem toPy_none {x : D} (h : plain x = true) (e : toPy x = .none) : x = .non := by
  cases x <;> simp only [toPy, plain] at * <;> first | rfl | (cases e; done) | (cases h; done) | exact absurd h (by decide)
theorem okD_dep {d : D} (h : okD d = true) : (toPy d).depth ≤ 60 := by
  unfold okD at h
  rw [Bool.and_eq_true] at h
  have h2 := of_decide_eq_true h.2
  have h3 := dep_py d
  omega
theorem opd_cmp {K : PySem.W.Frag} {fi : Int → Int → Bool} {fd : D → D → Bool} {fp : PyData → PyData → Bool} (e1 : ∀ i j, fp (.int i) (.int j) = fi i j) (e2 : ∀ x y, fp (toPy x) (toPy y) = fd x y) : OpD K (rCmpQ K fp) (gCmp fi fd) := fun dl F H x y dx dy Q Qd s d rx ry h k => by
  have gen : cmpOk dx dy = true ∧ Qd (.bl (fd dx dy)) → rCmpQ K fp x y H Q := fun ⟨c, q⟩ => by
    unfold cmpOk at c
    simp only [Bool.and_eq_true] at c
    obtain ⟨⟨⟨c1, c2⟩, c3⟩, c4⟩ := c
    refine ⟨toPy dx, toPy dy, (rx.dp s (okD_plain c1)).1, (ry.dp s (okD_plain c2)).1, c3, fun z => ?_, okD_dep c1, ?_⟩
    · have := toPy_none (okD_plain c1) z
      subst this
      cases c4
    · rw [e2]
      exact k F H _ _ (Step.refl s d) (.bl _) q
  unfold gCmp at h
  split at h
  · rename_i i j
    have a1 := rx.int
    have a2 := ry.int
    subst a1 a2
    exact ⟨.int i, .int j, .int i, .int j, by simp [PySem.W.alike], by simp, by simp [PyData.depth], by rw [e1]; exact k F H _ _ (Step.refl s d) (.bl _) h⟩
  · exact gen h
/-- ==, != -/
def gEqT (x y : D) (Q : D → Prop) : Prop := match x, y with
  | .txt a, .txt b => Q (.bl (decide (a = b)))
  | x, y => gEq x y Q
def gNeT (x y : D) (Q : D → Prop) : Prop := match x, y with
  | .txt a, .txt b => Q (.bl (!decide (a = b)))
  | x, y => gNe x y Q
theorem rs_txt {K : PySem.W.Frag} {F H : Hp} {v : V} {z : Str} (h : RS K F H v (.txt z)) : v = .str z := by
  rcases h with h | ⟨p, e, h⟩
  · cases h; rfl
  · exact h.elim
theorem opd_eqT {K : PySem.W.Frag} : OpD K (fun x y H Q => rEq x y H Q ∨ rEqD K x y H Q) gEqT := fun dl F H x y dx dy Q Qd s d rx ry h k => by
  unfold gEqT at h
  split at h
  · rename_i a b
    have e1 := rs_txt rx
    have e2 := rs_txt ry
    subst e1 e2
    refine .inl ⟨rfl, ?_⟩
    have e : decide (V.str a = V.str b) = decide (a = b) := decide_eq_decide.mpr ⟨fun z => V.str.inj z, fun z => by rw [z]⟩
    rw [e]
    exact k F H _ _ (Step.refl s d) (.bl _) h
  · exact .inr (opd_eq dl F H x y _ _ Q Qd s d rx ry h k)
theorem opd_neT {K : PySem.W.Frag} : OpD K (fun x y H Q => rNe x y H Q ∨ rNeD K x y H Q) gNeT := fun dl F H x y dx dy Q Qd s d rx ry h k => by
  unfold gNeT at h
  split at h
  · rename_i a b
    have e1 := rs_txt rx
    have e2 := rs_txt ry
    subst e1 e2
    refine .inl ⟨rfl, ?_⟩
    have e : decide (V.str a = V.str b) = decide (a = b) := decide_eq_decide.mpr ⟨fun z => V.str.inj z, fun z => by rw [z]⟩
    rw [e]
    exact k F H _ _ (Step.refl s d) (.bl _) h
  · exact .inr (opd_ne dl F H x y _ _ Q Qd s d rx ry h k)
/-- in: of a text a sign, or of data items -/
def gInT (neg : Bool) (x y : D) (Q : D → Prop) : Prop := match x, y with
  | .str a, .str z => (match a.cps.toList with
    | [c] => Q (.bl (if neg then !decide (c ∈ z.cps.toList) else decide (c ∈ z.cps.toList)))
    | _ => False)
  | x, y => gIn neg x y Q
theorem str_one {a : Str} {c : Nat} (h : a.cps.toList = [c]) : a = ⟨#[c]⟩ := by
  cases a with
  | mk cps =>
    have : cps = #[c] := by
      apply Array.ext'
      simpa using h
    rw [this]
theorem opd_inT {K : PySem.W.Frag} {neg : Bool} {r : R2} (hr : ∀ c z Q H, Q (.bl (if neg then !decide (c ∈ z.cps.toList) else decide (c ∈ z.cps.toList))) H → r (.str ⟨#[c]⟩) (.str z) H Q) : OpD K (fun x y H Q => r x y H Q ∨ rInQ K neg x y H Q) (gInT neg) := fun dl F H x y dx dy Q Qd s d rx ry h k => by
  unfold gInT at h
  split at h
  · rename_i a z
    split at h
    · rename_i c hc
      have e1 := rx.str
      have e2 := ry.str
      subst e1 e2
      rw [str_one hc]
      exact .inl (hr c z Q H (k F H _ _ (Step.refl s d) (.bl _) h))
    · exact h.elim
  · exact .inr (opd_in dl F H x y _ _ Q Qd s d rx ry h k)
section
variable {P : Program} {w : World} {K : PySem.W.Frag} {mg : Str → Option Value} {base : Heap} {k : Nat} {ι : Type} {X : ι → Cx}
theorem cm_lt (φ : Fam P w K mg base k X) : Cm X .Lt gLt := ⟨rCmpQ K fun d e => PySem.W.dataLt d e, fun i => ⟨by rw [← φ.K i]; exact op_ltQ (φ.hu i), by rw [φ.K i]; exact opd_cmp PySem.W.dataLt_int fun _ _ => rfl⟩⟩
theorem cm_gt (φ : Fam P w K mg base k X) : Cm X .Gt gGt := ⟨rCmpQ K fun d e => PySem.W.dataLt e d, fun i => ⟨by rw [← φ.K i]; exact op_gtQ (φ.hu i), by rw [φ.K i]; exact opd_cmp (fun a b => PySem.W.dataLt_int b a) fun _ _ => rfl⟩⟩
theorem not_lt_dec (i j : Int) : (!decide (j < i)) = decide (i ≤ j) := by
  by_cases h : j < i
  · rw [decide_eq_true h, decide_eq_false (by omega)]; rfl
  · rw [decide_eq_false h, decide_eq_true (by omega)]; rfl
theorem cm_le (φ : Fam P w K mg base k X) : Cm X .LtE gLe := ⟨rCmpQ K fun d e => !PySem.W.dataLt e d, fun i => ⟨by rw [← φ.K i]; exact op_leQ (φ.hu i), by rw [φ.K i]; exact opd_cmp (fun a b => by rw [PySem.W.dataLt_int]; exact not_lt_dec a b) fun _ _ => rfl⟩⟩
theorem cm_ge (φ : Fam P w K mg base k X) : Cm X .GtE gGe := ⟨rCmpQ K fun d e => !PySem.W.dataLt d e, fun i => ⟨by rw [← φ.K i]; exact op_geQ (φ.hu i), by rw [φ.K i]; exact opd_cmp (fun a b => by rw [PySem.W.dataLt_int]; exact not_lt_dec b a) fun _ _ => rfl⟩⟩
theorem cm_eq (φ : Fam P w K mg base k X) : Cm X .Eq gEqT := ⟨fun x y H Q => rEq x y H Q ∨ rEqD K x y H Q, fun i => ⟨op_eq.or (by rw [← φ.K i]; exact op_eqD (by have := φ.hu i; omega)), by rw [φ.K i]; exact opd_eqT⟩⟩
theorem cm_ne (φ : Fam P w K mg base k X) : Cm X .NotEq gNeT := ⟨fun x y H Q => rNe x y H Q ∨ rNeD K x y H Q, fun i => ⟨op_ne.or (by rw [← φ.K i]; exact op_neD (by have := φ.hu i; omega)), by rw [φ.K i]; exact opd_neT⟩⟩
theorem cm_is : Cm X .Is (fun x y Q => isNon y = true ∧ Q (.bl (isNon x))) := ⟨_, fun i => ⟨op_isN, opd_isN⟩⟩
theorem cm_isnot : Cm X .IsNot (fun x y Q => isNon y = true ∧ Q (.bl (!isNon x))) := ⟨_, fun i => ⟨op_notN, opd_notN⟩⟩
theorem cm_in (φ : Fam P w K mg base k X) : Cm X .In (gInT false) := ⟨fun x y H Q => rInS x y H Q ∨ rInQ K false x y H Q, fun i => ⟨op_inS.or (by rw [← φ.K i]; exact op_inQ (by have := φ.hu i; omega)), by rw [φ.K i]; exact opd_inT fun c z Q H h => ⟨c, z, rfl, rfl, h⟩⟩⟩
theorem cm_notin (φ : Fam P w K mg base k X) : Cm X .NotIn (gInT true) := ⟨fun x y H Q => rNotInS x y H Q ∨ rInQ K true x y H Q, fun i => ⟨op_notInS.or (by rw [← φ.K i]; exact op_notInQ (by have := φ.hu i; omega)), by rw [φ.K i]; exact opd_inT fun c z Q H h => ⟨c, z, rfl, rfl, h⟩⟩⟩
/-! ### built-ins -/
theorem cb_all (φ : Fam P w K mg base k X) : Cb X (.builtin "all") gAll := ⟨rAll K, fun i => ⟨by rw [← φ.K i]; exact cr_all (φ.c i), by rw [φ.K i]; exact cd_all⟩⟩
theorem cb_any (φ : Fam P w K mg base k X) : Cb X (.builtin "any") gAny := ⟨rAny K, fun i => ⟨by rw [← φ.K i]; exact cr_any (φ.c i), by rw [φ.K i]; exact cd_any⟩⟩
theorem cb_len (φ : Fam P w K mg base k X) : Cb X (.builtin "len") gLen := ⟨rLenV K, fun i => ⟨by rw [← φ.K i]; exact call_len, by rw [φ.K i]; exact cd_len⟩⟩
theorem cb_abs : Cb X (.builtin "abs") gAbs := ⟨_, fun i => ⟨call_abs, cd_abs⟩⟩
theorem cb_int : Cb X (.type "int") gInt := ⟨_, fun i => ⟨call_int1, cd_int⟩⟩
theorem cb_tuple (φ : Fam P w K mg base k X) : Cb X (.type "tuple") gTuple := ⟨rTupOf K, fun i => ⟨by rw [← φ.K i]; exact call_tuple_of, by rw [φ.K i]; exact cd_tuple⟩⟩
theorem cb_list (φ : Fam P w K mg base k X) : CbF X (.type "list") gList := ⟨rListOf K, fun i => ⟨by rw [← φ.K i]; exact call_list_of, by rw [φ.K i]; exact cf_list⟩⟩
theorem cb_isi (φ : Fam P w K mg base k X) : Cb X (.builtin "isinstance") gIsi := ⟨rIsi K, fun i => ⟨by rw [← φ.K i]; exact call_isi, by rw [φ.K i]; exact cd_isi⟩⟩
end
end DL

/-! DL, part l: sorted over data, empty tuples too. -/
namespace PySem.SeqAt
open PySem PySem.Calls PyProof.Rows
/-- the call of tuple's own __lt__, as sorting makes it -/
theorem DL_call_tuple_lt {A : Around} {s : Shared} {prog : Program} {w : World} {E : Value → Shared → Prop} {Q : Value → Shared → Prop} {l b : Addr} {items items2 : Array Value} {e r : Nat → Bool} (hl : s.heap.IsTuple l items) (hb : s.heap.IsTuple b items2)
    (he : ∀ j (h1 : j < items.size) (h2 : j < items2.size), EqAt A.in1 s items[j] items2[j] (e j)) (hr : ∀ j (h1 : j < items.size) (h2 : j < items2.size), e j = false → RcLt A.in1 s items[j] items2[j] (r j))
    (h : Q (.bool (firstLt e r (decide (items.size < items2.size)) (List.range (min items.size items2.size)))) s) : wpAny (model prog w) A (call (.builtin "tuple.__lt__") [.ref l, .ref b]) Q E s := by
  obtain ⟨⟨cls, dd, data, sl⟩, ho, hc, n, hd⟩ := id hl
  obtain ⟨⟨cls2, dd2, data2, sl2⟩, ho2, hc2, n2, hd2⟩ := id hb
  simp only at hc hd hc2 hd2
  subst hc hd hc2 hd2
  exact call_meets F.slot_tuple_lt ⟨_, ho, rfl⟩ F.entry_tuple_lt (F.args_tuple_lt_2 _ _) (tuple_ltAt l b items items2 n n2 dd dd2 sl sl2 e r) ⟨ho, ho2, he, hr, h⟩
end PySem.SeqAt
namespace DL
open PySem PySem.Spec PyProof.Rows L2 PySem.W PySem.SeqAt
section
variable {prog : Program} {w : World} {A : Around} {s : Shared} {E : Value → Shared → Prop}
theorem oneLt_any {f : Bool} {da db : PyData} {a b : Value} {as bs : List Addr} {Q : Bool → Shared → Prop} (ra : Reads s.heap a da as) (rb : Reads s.heap b db bs) (h : alike da db = true) (hn : da ≠ .none)
    (hu : A.units + min da.depth db.depth < cLine) (hq : Q (dataLt da db) s) : wpAny (model prog w) A (oneLt' f a b) Q E s := by
  by_cases ht : f = true ∧ ∃ xs, da = .tuple xs
  · obtain ⟨rfl, xs, rfl⟩ := ht
    cases db with
    | tuple ys =>
      have hal : alikeAll xs ys = true := by simpa [alike] using h
      cases ra with
      | @tuple l o vs n _ as₁ h1 h2 h3 h4 =>
        cases rb with
        | @tuple l' o' vs' n' _ bs₁ k1 k2 k3 k4 =>
          have n1 : vs.size = xs.length := by simpa using ReadsAll.length _ _ _ h4
          have n2 : vs'.size = ys.length := by simpa using ReadsAll.length _ _ _ k4
          rw [dataLt_tuple, ← firstLt_toks xs ys hal, ← n1, ← n2] at hq
          rw [oneLt'_eq]
          simp only [if_true]
          refine wpAny_bind (wpAny_cRoomFor (room_here hu) ?_)
          refine wpAny_bind (wpAny_callSpecialIfBound?_slot (T := "tuple") ⟨_, h1, h2⟩ F.slot_tuple_lt (DL_call_tuple_lt (e := pairEq xs ys) (r := fun j => dataLt (xs.getD j .none) (ys.getD j .none)) ⟨_, h1, h2, _, h3⟩ ⟨_, k1, k2, _, k3⟩ (fun j j1 j2 => ?_) (fun j j1 j2 hj => ?_) ?_))
          · have := eqAt_alikeAll xs ys A.in1 s vs.toList vs'.toList _ _ h4 k4 hal (room_in hu) j (by simpa using j1) (by simpa using j2)
            simpa using this
          · have := rcLt_alikeAll xs ys A.in1 s vs.toList vs'.toList _ _ h4 k4 hal (room_in hu) j (by simpa using j1) (by simpa using j2) hj
            simpa using this
          · exact wpAny_truthy_bool hq
    | _ => exact absurd h (by simp [alike])
  · exact oneLt_alike (fun hf xs e => ht ⟨hf, xs, e⟩) ra rb h hn hu hq
/-- a value's first item, where the value is a tuple of the heap -/
def firstAt (h : Heap) : Value → Option Value
  | .ref a => (match h.get? a with
    | some o => (match o.data with
      | .seq xs _ => xs[0]?
      | _ => none)
    | none => none)
  | _ => none
def IsTupV (h : Heap) (v : Value) : Prop := ∃ a o xs n, v = .ref a ∧ h.get? a = some o ∧ o.cls = .type "tuple" ∧ o.data = .seq xs n
theorem first_tup {M : Model} {v : Value} {Q : Option Value → Shared → Prop} (hv : IsTupV s.heap v) (h : Q (firstAt s.heap v) s) : wpAny M A (firstOfTuple' v) Q E s := by
  obtain ⟨a, o, xs, n, rfl, ho, hc, hd⟩ := hv
  rw [kas_first_eq]
  refine wpAny_bind (Looks.here (show Looks M s.heap (typeOf (.ref a)) o.cls from (Looks.ld ho).andThen .now) ?_)
  rw [hc, if_neg (by first | decide | simp)]
  refine wpAny_bind (listItems_at ho hd (wpAny_pure ?_))
  have e : firstAt s.heap (.ref a) = xs[0]? := by
    show (match s.heap.get? a with
      | some o => (match o.data with
        | .seq xs _ => xs[0]?
        | _ => none)
      | none => none) = _
    rw [ho]
    show (match o.data with
        | .seq xs _ => xs[0]?
        | _ => none) = _
    rw [hd]
  rw [e] at h
  exact h
theorem firsts_tup {M : Model} : ∀ (vs : List Value) {Q : List (Option Value) → Shared → Prop}, (∀ v ∈ vs, IsTupV s.heap v) → Q (vs.map (firstAt s.heap)) s → wpAny M A (vs.mapM firstOfTuple') Q E s
  | [], _, _, h => by rw [List.mapM_nil]; exact wpAny_pure h
  | v :: vs, Q, t, h => by
    rw [List.mapM_cons]
    refine wpAny_bind (first_tup (t v List.mem_cons_self) ?_)
    exact wpAny_bind (firsts_tup vs (Q := fun bs s' => wpAny M A (pure (firstAt s.heap v :: bs)) Q E s') (fun u hu => t u (List.mem_cons_of_mem _ hu)) (wpAny_pure h))
/-- the kind of tuples of which some are empty -/
theorem kind_tupE {M : Model} {vs : List Value} {Q : SortKind → Shared → Prop} (h2 : 2 ≤ vs.length) (t : ∀ v ∈ vs, IsTupV s.heap v) (he : ∃ v ∈ vs, firstAt s.heap v = none) (h : ∀ kd, kd = general' ∨ kd = oneType' → Q kd s) : wpAny M A (keyKind' vs.toArray) Q E s := by
  rw [keyKind'_eq, List.mapM_toArray, map_eq_pure_bind]
  refine wpAny_bind (wpAny_bind (firsts_tup vs t (wpAny_pure ?_)))
  have hall : ¬ (((vs.map (firstAt s.heap)).toArray.all fun x => x.isSome) = true) := by
    obtain ⟨v, hv, e⟩ := he
    simp only [List.all_toArray, List.all_map, List.all_eq_true]
    intro z
    have := z v hv
    simp only [Function.comp] at this
    rw [e] at this
    cases this
  rw [if_neg hall]
  by_cases h3 : (((vs.map (firstAt s.heap)).toArray[0]?).bind id).isSome = true
  · rw [if_pos h3]
    exact wpAny_pure (h _ (.inl rfl))
  · rw [if_neg h3]
    rw [oneTypeOnly'_eq, List.mapM_toArray, map_eq_pure_bind]
    refine wpAny_bind (wpAny_bind (wpAny_bind (kas_mapM (r := Value.type "tuple") _ (fun v hv Q' hq => ?_) (wpAny_pure ?_))))
    · obtain ⟨a, o, xs, n, rfl, ho, hc, hd⟩ := t v hv
      refine Looks.here (show Looks M s.heap (typeOf (.ref a)) o.cls from (Looks.ld ho).andThen .now) ?_
      rw [hc]
      exact hq
    · obtain ⟨v₁, v₂, rest, rfl⟩ : ∃ v₁ v₂ rest, vs = v₁ :: v₂ :: rest := by
        match vs, h2 with
        | [], h2 => simp at h2
        | [_], h2 => simp at h2
        | v₁ :: v₂ :: rest, _ => exact ⟨v₁, v₂, rest, rfl⟩
      have hall2 : ((List.map (fun _ => Value.type "tuple") (v₁ :: v₂ :: rest)).toArray.all fun x => x == Value.type "tuple") = true := by
        simp only [List.all_toArray, List.all_map, List.all_eq_true]
        intro _ _
        exact beq_self_eq_true _
      have h0 : (List.map (fun _ => Value.type "tuple") (v₁ :: v₂ :: rest)).toArray[0]? = some (Value.type "tuple") := by simp
      rw [h0]
      simp only [hall2, if_true]
      exact wpAny_pure (wpAny_pure (h _ (.inr rfl)))
theorem keyLt_general (x y : Value) : keyLt' general' x y = oneLt' false x y := rfl
theorem SortsAt_dataE {vs : List Value} {ds : List PyData} (e : EachIs (fun v d => ∃ as, Reads s.heap v d as) vs ds) (hal : AllAlike ds) (hn : ∀ d ∈ ds, d ≠ .none) (hu : ∀ d, d ∈ ds → A.units + d.depth < cLine) : SortsAt prog w A s (dataKind s.heap ds) vs := by
  by_cases h1 : ∀ d ∈ ds, ∀ xs, d ≠ .tuple xs
  · exact SortsAt.data e hal (.inr fun d hd => ⟨hn d hd, h1 d hd⟩) hu
  · by_cases h2 : ∀ d ∈ ds, ∃ x r, d = .tuple (x :: r)
    · exact SortsAt.data e hal (.inl h2) hu
    · have h1' : ∃ d ∈ ds, ∃ xs, d = .tuple xs := by
        refine Classical.byContradiction fun z => h1 fun d hd xs ed => z ⟨d, hd, xs, ed⟩
      obtain ⟨d0, hd0, xs0, e0⟩ := h1'
      have ht : ∀ d ∈ ds, ∃ xs, d = .tuple xs := fun d hd => by
        have q := hal d hd d0 hd0
        rw [e0] at q
        cases d with
        | tuple xs => exact ⟨xs, rfl⟩
        | _ => exact absurd q (by simp [alike])
      have h2' : ∃ d ∈ ds, d = .tuple [] := by
        refine Classical.byContradiction fun z => h2 fun d hd => ?_
        obtain ⟨xs, ed⟩ := ht d hd
        cases xs with
        | nil => exact absurd ⟨d, hd, ed⟩ z
        | cons x r => exact ⟨x, r, ed⟩
      have tv : ∀ v ∈ vs, IsTupV s.heap v := fun v hv => by
        obtain ⟨d, hd, as, r⟩ := e.left v hv
        obtain ⟨xs, ed⟩ := ht d hd
        subst ed
        cases r with
        | @tuple l o vs n _ as₁ h1 h2 h3 h4 => exact ⟨l, o, vs, n, rfl, h1, h2, h3⟩
      have te : ∃ v ∈ vs, firstAt s.heap v = none := by
        obtain ⟨d, hd, ed⟩ := h2'
        subst ed
        have rg : ∀ {vs : List Value} {ds : List PyData}, EachIs (fun v d => ∃ as, Reads s.heap v d as) vs ds → ∀ d ∈ ds, ∃ v ∈ vs, ∃ as, Reads s.heap v d as := by
          intro vs ds e
          induction e with
          | nil => intro d hd; cases hd
          | cons r t ih =>
            intro d hd
            rcases List.mem_cons.mp hd with rfl | hd
            · exact ⟨_, List.mem_cons_self, r⟩
            · obtain ⟨v, hv, r⟩ := ih d hd
              exact ⟨v, List.mem_cons_of_mem _ hv, r⟩
        obtain ⟨v, hv, as, r⟩ := rg e _ hd
        refine ⟨v, hv, ?_⟩
        cases r with
        | @tuple l o xs n _ as₁ h1 h2 h3 h4 =>
          have n1 : xs.size = 0 := by simpa using ReadsAll.length _ _ _ h4
          show (match s.heap.get? l with
            | some o => (match o.data with
              | .seq xs _ => xs[0]?
              | _ => none)
            | none => none) = _
          rw [h1]
          show (match o.data with
              | .seq xs _ => xs[0]?
              | _ => none) = _
          rw [h3]
          show xs[0]? = none
          exact Array.getElem?_eq_none (by omega)
      have lt : ∀ kd, kd = general' ∨ kd = oneType' → H.LtAt prog w A s (dataKind s.heap ds) kd := fun kd hk => by
        intro E x y a b Q ha hb hq
        obtain ⟨d, as, hd, ra, rfl⟩ := dataKind_inv ha
        obtain ⟨d', as', hd', rb, rfl⟩ := dataKind_inv hb
        have room : A.units + min d.depth d'.depth < cLine := Nat.lt_of_le_of_lt (Nat.add_le_add_left (Nat.min_le_left _ _) _) (hu d hd)
        rcases hk with rfl | rfl
        · rw [keyLt_general]
          exact oneLt_any ra rb (hal d hd d' hd') (hn d hd) room hq
        · rw [keyLt'_oneType]
          exact oneLt_any ra rb (hal d hd d' hd') (hn d hd) room hq
      refine ⟨fun v hv => ?_, ?_⟩
      · obtain ⟨d, hd, as, r⟩ := e.left v hv
        exact ⟨_, dataKind_some hal hd r⟩
      · by_cases hl : 2 ≤ vs.length
        · by_cases h3 : (((vs.map (firstAt s.heap)).toArray[0]?).bind id).isSome = true
          · refine ⟨general', lt _ (.inl rfl), fun _ E Q hq => ?_⟩
            rw [keyKind'_eq, List.mapM_toArray, map_eq_pure_bind]
            refine wpAny_bind (wpAny_bind (firsts_tup vs tv (wpAny_pure ?_)))
            have hall : ¬ (((vs.map (firstAt s.heap)).toArray.all fun x => x.isSome) = true) := by
              obtain ⟨v, hv, e⟩ := te
              simp only [List.all_toArray, List.all_map, List.all_eq_true]
              intro z
              have := z v hv
              simp only [Function.comp] at this
              rw [e] at this
              cases this
            rw [if_neg hall, if_pos h3]
            exact wpAny_pure hq
          · refine ⟨oneType', lt _ (.inr rfl), fun _ E Q hq => ?_⟩
            rw [keyKind'_eq, List.mapM_toArray, map_eq_pure_bind]
            refine wpAny_bind (wpAny_bind (firsts_tup vs tv (wpAny_pure ?_)))
            have hall : ¬ (((vs.map (firstAt s.heap)).toArray.all fun x => x.isSome) = true) := by
              obtain ⟨v, hv, e⟩ := te
              simp only [List.all_toArray, List.all_map, List.all_eq_true]
              intro z
              have := z v hv
              simp only [Function.comp] at this
              rw [e] at this
              cases this
            rw [if_neg hall, if_neg h3]
            rw [oneTypeOnly'_eq, List.mapM_toArray, map_eq_pure_bind]
            refine wpAny_bind (wpAny_bind (wpAny_bind (kas_mapM (r := Value.type "tuple") _ (fun v hv Q' hq => ?_) (wpAny_pure ?_))))
            · obtain ⟨a, o, xs, n, rfl, ho, hc, hd⟩ := tv v hv
              refine Looks.here (show Looks _ s.heap (typeOf (.ref a)) o.cls from (Looks.ld ho).andThen .now) ?_
              rw [hc]
              exact hq
            · obtain ⟨v₁, v₂, rest, rfl⟩ : ∃ v₁ v₂ rest, vs = v₁ :: v₂ :: rest := by
                match vs, hl with
                | [], hl => simp at hl
                | [_], hl => simp at hl
                | v₁ :: v₂ :: rest, _ => exact ⟨v₁, v₂, rest, rfl⟩
              have hall2 : ((List.map (fun _ => Value.type "tuple") (v₁ :: v₂ :: rest)).toArray.all fun x => x == Value.type "tuple") = true := by
                simp only [List.all_toArray, List.all_map, List.all_eq_true]
                intro _ _
                exact beq_self_eq_true _
              have h0 : (List.map (fun _ => Value.type "tuple") (v₁ :: v₂ :: rest)).toArray[0]? = some (Value.type "tuple") := by simp
              rw [h0]
              simp only [hall2, if_true]
              exact wpAny_pure (wpAny_pure hq)
        · exact ⟨general', lt _ (.inl rfl), fun h2 => absurd h2 hl⟩
end
/-! ### sorted(xs) -/
/-- stable sorting of data -/
def sortD (xs : List D) : List D := xs.mergeSort fun a b => !ltD b a
def sortOk (xs : List D) : Bool := xs.all (fun x => okD x && !isNon x) && xs.all (fun x => xs.all fun y => alike (toPy x) (toPy y))
theorem dataLe_not (a b : V × D) : dataLe false (fun p : V × D => toPy p.2) a b = !ltD b.2 a.2 := by
  rw [dataLe_eq]
  rfl
def rSortV (K : PySem.W.Frag) : List V → Hp → VK → Prop := fun xs H Q => ∃ p vs ds, xs = [.ref p] ∧ SqL K H p vs ∧ vs.length = ds.length ∧ (∀ q ∈ vs.zip ds, Dp K H q.1 (toPy q.2)) ∧ sortOk ds = true ∧
  ∀ l, H l = none → Q (.ref l) (upd H l (.lst (((vs.zip ds).mergeSort (dataLe false fun q : V × D => toPy q.2)).map (·.1))))
theorem each_of_vals {R : Value → V × D → Prop} : ∀ {vs : List V} {us : List Value} {ds : List D}, Vals vs us → vs.length = ds.length → (∀ (u : Value) (q : V × D), q ∈ vs.zip ds → RelV q.1 u → R u q) → EachIs R us (vs.zip ds)
  | [], _, ds, .nil, hl, _ => by
    cases ds with
    | nil => exact .nil
    | cons _ _ => cases hl
  | v :: vs, _, ds, .cons r t, hl, h => by
    cases ds with
    | nil => cases hl
    | cons d ds => exact .cons (h _ _ List.mem_cons_self r) (each_of_vals t (Nat.succ.inj hl) fun u q hq r => h u q (List.mem_cons_of_mem _ hq) r)
theorem vals_of_each : ∀ {us : List Value} {ps : List (V × D)}, EachIs (fun u q => RelV q.1 u) us ps → Vals (ps.map (·.1)) us
  | _, _, .nil => .nil
  | _, _, .cons r t => .cons r (vals_of_each t)
theorem sortOk_mem {ds : List D} (h : sortOk ds = true) : (∀ x ∈ ds, okD x = true ∧ isNon x = false) ∧ ∀ x ∈ ds, ∀ y ∈ ds, alike (toPy x) (toPy y) = true := by
  unfold sortOk at h
  rw [Bool.and_eq_true, List.all_eq_true, List.all_eq_true] at h
  refine ⟨fun x hx => ?_, fun x hx y hy => ?_⟩
  · have := h.1 x hx
    rw [Bool.and_eq_true, Bool.not_eq_true'] at this
    exact this
  · have := h.2 x hx
    rw [List.all_eq_true] at this
    exact this y hy
theorem call_sortV {X : Cx} (hu : X.A.units + 190 < cLine) : CallR X (.builtin "sorted") (rSortV X.K) := by
  intro pins s σ H xs us Q I r h
  obtain ⟨p, vs, ds, rfl, hp, hl, hd, ok, q⟩ := h
  obtain ⟨u, rfl, ru⟩ := vals1 r
  obtain rfl : u = Value.ref p := ru
  obtain ⟨its, rv, hi, hz⟩ := I.list hp
  obtain ⟨m1, m2⟩ := sortOk_mem ok
  have e1 : EachIs (fun u (q : V × D) => RelV q.1 u) its (vs.zip ds) := each_of_vals rv hl fun u q _ r => r
  have e2 : EachIs (fun u (q : V × D) => ∃ as, Reads s.heap u (toPy q.2) as) its (vs.zip ds) := each_of_vals rv hl fun u q hq r => Dp.reads I _ _ _ (hd q hq) r
  have hm : ∀ d ∈ (vs.zip ds).map (fun q : V × D => toPy q.2), ∃ x ∈ ds, d = toPy x := fun d hd => by
    obtain ⟨q, hq, rfl⟩ := List.mem_map.mp hd
    exact ⟨q.2, (List.of_mem_zip hq).2, rfl⟩
  have hal : AllAlike ((vs.zip ds).map fun q : V × D => toPy q.2) := fun d hd d' hd' => by
    obtain ⟨x, hx, rfl⟩ := hm d hd
    obtain ⟨y, hy, rfl⟩ := hm d' hd'
    exact m2 x hx y hy
  have hn : ∀ d ∈ (vs.zip ds).map (fun q : V × D => toPy q.2), d ≠ .none := fun d hd e => by
    obtain ⟨x, hx, rfl⟩ := hm d hd
    have := toPy_none (okD_plain (m1 x hx).1) e
    subst this
    have := (m1 _ hx).2
    cases this
  have hu' : ∀ d ∈ (vs.zip ds).map (fun q : V × D => toPy q.2), X.A.in1.in1.units + d.depth < cLine := fun d hd => by
    obtain ⟨x, hx, rfl⟩ := hm d hd
    have := okD_dep (m1 x hx).1
    show X.A.units + 1 + 1 + _ < _
    omega
  have er' : EachIs (fun u (q : V × D) => ∃ as, Reads (sortingHeap (copyHeap s.heap its) (s.heap.objs.size + 1) its) u (toPy q.2) as) its (vs.zip ds) := e2.mono fun _ _ ⟨as, r⟩ => ⟨as, PyProof.Rows.Reads.keeps (fun _ _ => sorting_copy_old) r⟩
  refine sorted_vals hi.isList (SortsAt_dataE (s := { s with heap := sortingHeap (copyHeap s.heap its) (s.heap.objs.size + 1) its }) (each_map (R := fun v d => ∃ as, Reads (sortingHeap (copyHeap s.heap its) (s.heap.objs.size + 1) its) v d as) (fun q : V × D => toPy q.2) er') hal hn hu') (by rw [← rv.length]; exact hz) ?_
  have out := sortVals_data false e1 er' hal
  have ho := vals_of_each out
  obtain ⟨en, he⟩ := sortedAll_at s.heap its (sortVals (dataKind (sortingHeap (copyHeap s.heap its) (s.heap.objs.size + 1) its) ((vs.zip ds).map fun q : V × D => toPy q.2)) false its its).toArray
  refine ⟨.ref (s.heap.objs.size + 1), _, I.laid (t' := s.toks) (o := .lst (((vs.zip ds).mergeSort (dataLe false fun q : V × D => toPy q.2)).map (·.1))) (fun b o e => sortedAll_old e) (Nat.le_succ _) ⟨?_, _, en, ho, he⟩, rfl, q _ (I.hok.fresh (Nat.le_succ _))⟩
  rw [List.length_map, List.length_mergeSort, List.length_zip, hl, Nat.min_self]
  rw [← hl]
  exact hz
def gSorted (ds : List D) (Q : D → Prop) : Prop := match ds with
  | [x] => (match lItems x with
    | some xs => sortOk xs = true ∧ Q (.lst (sortD xs))
    | none => False)
  | _ => False
theorem RepL.ofZip {K : PySem.W.Frag} {F : Hp} : ∀ {ps : List (V × D)}, (∀ q ∈ ps, Rep K F q.1 q.2) → RepL K F (ps.map (·.1)) (ps.map (·.2))
  | [], _ => .nil
  | p :: ps, h => .cons (h p List.mem_cons_self) (RepL.ofZip fun q hq => h q (List.mem_cons_of_mem _ hq))
theorem RepL.zip {K : PySem.W.Frag} {F : Hp} : ∀ {vs : List V} {ds : List D}, RepL K F vs ds → ∀ q ∈ vs.zip ds, Rep K F q.1 q.2
  | _, _, .nil, q, hq => by cases hq
  | _, _, .cons r t, q, hq => by
    rw [List.zip_cons_cons] at hq
    rcases List.mem_cons.mp hq with rfl | hq
    · exact r
    · exact RepL.zip t q hq
theorem cf_sorted {K : PySem.W.Frag} : CallF K (rSortV K) gSorted := fun dl F H xs ds Q Qd s d rx h k => by
  match ds, rx, h with
  | [y], .cons (a := x) r .nil, h =>
    have h' : (match lItems y with
      | some xs => sortOk xs = true ∧ Qd (.lst (sortD xs))
      | none => False) := h
    cases e : lItems y with
    | none => rw [e] at h'; exact h'.elim
    | some ys =>
      rw [e] at h'
      obtain ⟨ok, h'⟩ := h'
      obtain ⟨p, vs, rfl, hp, r⟩ := rs_lItems s r e
      have hl := r.length
      obtain ⟨m1, m2⟩ := sortOk_mem ok
      refine ⟨p, vs, ys, rfl, hp, hl, fun q hq => ((r.zip q hq).dp s (okD_plain (m1 _ (List.of_mem_zip hq).2).1)).1, ok, fun l nl => ?_⟩
      have es : ((vs.zip ys).mergeSort (dataLe false fun q : V × D => toPy q.2)).map (·.2) = sortD ys := by
        rw [List.map_mergeSort (s := fun a b => !ltD b a) (fun a _ b _ => dataLe_not a b), List.map_snd_zip (by omega)]
        rfl
      have rr : RepL K F (((vs.zip ys).mergeSort (dataLe false fun q : V × D => toPy q.2)).map (·.1)) (sortD ys) := by
        rw [← es]
        exact RepL.ofZip fun q hq => r.zip q (List.mem_mergeSort.mp hq)
      exact k F _ l (.lst (sortD ys)) (Step.freshM s d nl) (Same.none s nl) nl ⟨_, upd_same, rr⟩ h'
section
variable {P : Program} {w : World} {K : PySem.W.Frag} {mg : Str → Option Value} {base : Heap} {k : Nat} {ι : Type} {X : ι → Cx}
theorem cb_sorted (φ : Fam P w K mg base k X) : CbF X (.builtin "sorted") gSorted := ⟨rSortV K, fun i => ⟨by rw [← φ.K i]; exact call_sortV (φ.hu i), by rw [φ.K i]; exact cf_sorted⟩⟩
end
end DL

/-! DL, part m: enumerate over lists and tuples. -/
namespace DL
open PySem PySem.Spec PyProof.Rows L2
open Sem (wp)
set_option maxHeartbeats 1000000 in
theorem meets_enumerate_1B {v : Value} {o : Obj} {H : Heap → Prop} (B : Begins v o H) :
    Meets (Builtin.«enumerate.__new__» ⟨[.type "enumerate", v], []⟩) (fun _ R s => H s.heap ∧
      R (.ok (.ret (.ref (s.heap.push o).objs.size))) { s with heap := (s.heap.push o).push { cls := .type "enumerate", data := .fields #[.none, .bool false, .ref s.heap.objs.size, rawInt 0, .none, .none] } }) :=
  .of_wp fun prog w A R s h => by
    obtain ⟨hp, g, d, tk, os⟩ := s; obtain ⟨h1, h⟩ := h
    have hsub := sub_enumerate
    have q1 : ∀ {A' : Around} {E : Value → Shared → Prop} {Q : Value → Shared → Prop}, Q (.ref hp.objs.size) ⟨hp.push o, g, d, tk, os⟩ → wpAny (model prog w) A' (pyIter v) Q E ⟨hp, g, d, tk, os⟩ :=
      fun q => B.iter prog w _ _ ⟨hp, g, d, tk, os⟩ _ h1 q
    wp_walk using q1
    refine wpAny_stack_any fun st => wpAny_pure ?_
    split
    · rename_i c _ _ _ _ _
      cases (c == Value.type "enumerate")
      · wp_walk using q1
        exact ⟨_, rfl, h⟩
      · wp_walk using q1
        exact ⟨_, rfl, h⟩
    · wp_walk using q1
      exact ⟨_, rfl, h⟩
section
variable {prog : Program} {w : World} {A : Around} {E : Value → Shared → Prop} {s : Shared}
/-- enumerate(v): its two new cells -/
theorem enum_begins1 {v : Value} {o : Obj} {H : Heap → Prop} {Q : Value → Shared → Prop} (B : Begins v o H) (h1 : H s.heap)
    (h : ∀ h', IsEnum h' (s.heap.objs.size + 1) s.heap.objs.size 0 .none → h'.get? s.heap.objs.size = some o → h'.objs.size = s.heap.objs.size + 2 →
      (∀ b o, s.heap.get? b = some o → h'.get? b = some o) → Q (.ref (s.heap.objs.size + 1)) { s with heap := h' }) :
    wpAny (model prog w) A (call (.type "enumerate") [v]) Q E s := by
  refine callType_new F.called_enumerate (by decide) (F.typeCall_enumerate_1 _) (F.newCall_enumerate_1 _) (fun obj => F.args_object_init_2 obj _) F.entry_enumerate_new (meets_enumerate_1B B) ⟨h1, ?_⟩
  have hz : (s.heap.push o).objs.size = s.heap.objs.size + 1 := Heap.size_push ..
  show _ ∧ _
  rw [hz]
  have he : IsEnum ((s.heap.push o).push { cls := .type "enumerate", data := .fields #[.none, .bool false, .ref s.heap.objs.size, rawInt 0, .none, .none] }) (s.heap.objs.size + 1) s.heap.objs.size 0 .none := by
    have := Heap.get?_push_size (s.heap.push o) (o := { cls := .type "enumerate", data := .fields #[.none, .bool false, .ref s.heap.objs.size, rawInt 0, .none, .none] }) rfl
    rw [hz] at this; exact this
  refine ⟨⟨_, he, rfl⟩, h _ he (Heap.get?_push_of_some _ (Heap.get?_push_size _ B.free)) (by rw [Heap.size_push, hz]) fun b o x => Heap.get?_push_of_some _ (Heap.get?_push_of_some _ x)⟩
end
/-- the tuple at a, each item in a new pair -/
def Itet (K : PySem.W.Frag) (a : Addr) : It :=
  ⟨fun i H => ∃ (xs : List V) (x : V), SqT K H a xs ∧ xs[i]? = some x, fun i H v H' => ∃ T x, v = .ref T ∧ H T = none ∧ H' = upd H T (.tup [.int (i : Nat), x]) ∧ ∀ xs, SqT K H a xs → xs[i]? = some x, fun i H => ∃ xs : List V, SqT K H a xs ∧ xs.length = i⟩
theorem turn_enumT {P : Program} {w : World} {K : PySem.W.Frag} {elts : List Expr} {kk : Nat} {tpos : Pos} (a e it : Addr) :
    Turn P w K (.Tuple elts kk tpos) (Itet K a) [e, it] e (fun i h => (∃ old, IsEnum h e it ((i : Nat) : Int) old) ∧ h.IsTupleIter it a i ∧ e ≠ it ∧ a ≠ it ∧ e ≠ a) where
  mem := by simp
  obj := fun i h st b hb => by
    obtain ⟨⟨old, he⟩, ⟨o, ho, hc, hd⟩, _⟩ := st
    have e' : b = e ∨ b = it := by simpa using hb
    rcases e' with z | z
    · rw [z]; exact ⟨_, he, fun v q => nomatch q⟩
    · rw [z]; exact ⟨o, ho, fun v q => by rw [hd] at q; cases q⟩
  keep := fun i h h' st k => let ⟨⟨old, he⟩, hi, hne⟩ := st; ⟨⟨old, k e (by simp) _ he⟩, hi.at fun o q => k it (by simp) o q, hne⟩
  item := by
    intro X hP hw hK hc i pins s σ H E I hf st hg
    subst hP hw hK
    obtain ⟨⟨old, he⟩, hit, hne, hai, hea⟩ := st
    obtain ⟨xs, x, hq, hx⟩ := hg
    obtain ⟨its, rv, p, hz⟩ := I.tuple hq
    obtain ⟨u, hu, ru⟩ := rv.get hx
    have hel : e < s.heap.objs.size := Heap.lt_size he
    have hil : it < s.heap.objs.size := by obtain ⟨_, q, _⟩ := hit; exact Heap.lt_size q
    have hlt : i < its.toArray.size := by rw [List.size_toArray]; exact (List.getElem?_eq_some_iff.mp hu).1
    have D := Draws.tuple (prog := X.prog) (w := X.w) (A := X.A.in1) (I.ok.hd hc) it a hai its.toArray
    refine wpAny_pyNext_enum_itemD D he ⟨hit, p⟩ hlt hne (by simp [hne, hea]) fun x' h' tk hP ho hit' hT hsz hk => ?_
    have ex : x' = u := by
      have q : its[i]? = some x' := by simpa using hP
      rw [hu] at q
      exact (Option.some.inj q).symm
    subst ex
    refine ⟨_, rfl, wpAny_letOwnedTupleGo_enum (s := { s with heap := h', toks := tk + 1 }) ho fun h'' he' sb => ?_⟩
    have hT2 : h''.get? s.heap.objs.size = some { cls := .type "tuple", data := .seq #[.int i tk, x'] } := (sb.2 _ (Nat.ne_of_gt hel)).trans hT
    have new : ObjOk X.prog X.w (upd H s.heap.objs.size (.tup [.int (i : Nat), x])) h'' s.heap.objs.size (.tup [.int (i : Nat), x]) :=
      ⟨by show 2 ≤ sizeLine; decide, [.int i tk, x'], .cons ⟨_, rfl⟩ (.cons ru .nil), ⟨_, hT2, rfl, _, rfl⟩⟩
    have I1 : Inv X pins σ (upd H s.heap.objs.size (.tup [.int (i : Nat), x])) { s with heap := h'', toks := tk + 1 } :=
      I.turnedNew (ch := [e, it]) (fun b ob hb q => (sb.2 b (fun z => hb (by simp [z]))).trans (hk b ob (fun z => hb (by simp [z])) (fun z => hb (by simp [z])) q)) hf (Nat.le_refl _) new
    refine ⟨.ref s.heap.objs.size, _, I1, rfl, ⟨_, x, rfl, I.hok.fresh (Nat.le_refl _), rfl, fun ys hy => by rw [I.tuple_inj hy hq]; exact hx⟩, ⟨⟨x', ?_⟩, hit'.1.at fun o q => (sb.2 it (Ne.symm hne)).trans q, hne, hai, hea⟩, fun b hb => ?_⟩
    · have e1 : ((i + 1 : Nat) : Int) = (i : Int) + 1 := by omega
      rw [e1]; exact he'
    · have hb' : b < s.heap.objs.size := by
        have e' : b = e ∨ b = it := by simpa using hb
        rcases e' with z | z
        · rw [z]; exact hel
        · rw [z]; exact hil
      rw [upd_ne (Nat.ne_of_lt hb')]
      exact (hf b hb).1
  done := by
    intro X hP hw hK hc i pins s σ H E I hf st hg
    subst hP hw hK
    obtain ⟨⟨old, he⟩, hit, hne, hai, hea⟩ := st
    obtain ⟨xs, hq, hx⟩ := hg
    obtain ⟨its, rv, p, hz⟩ := I.tuple hq
    obtain ⟨f0, f1, f2, f3, f4, f5⟩ := hf it (by simp)
    have hl := rv.length
    have D := Draws.tuple (prog := X.prog) (w := X.w) (A := X.A.in1) (I.ok.hd hc) it a hai its.toArray
    have en : its.toArray.size = i := by rw [List.size_toArray, ← hl, hx]
    rw [en] at D
    exact wpAny_pyNext_enum_endD D he ⟨hit, p⟩ fun h' eb => ⟨rfl, I.turned (t' := s.toks) (fun b o hb q => eb b o hb q) f0 f1 f3 f4 f5⟩
  self := fun A i s Q E st h => let ⟨⟨_, he⟩, _⟩ := st; wpAny_pyIter_enum he h
def iEnumT (K : PySem.W.Frag) (ta : TA) : TI := fun σ H R => ta σ H fun vs H1 => ∃ a xs, vs = [.ref a] ∧ SqT K H1 a xs ∧ R (Itet K a) H1
theorem pi_enumT {X : Cx} {e : Expr} {ta : TA} {p pos tpos : Pos} {elts : List Expr} {kk : Nat} (hg : Gl X "enumerate") (hm : X.mg "enumerate" = none) (ha : PA X [e] ta) (hs : starEach [e] X.env = [(false, eval e X.env)] := by rfl) :
    PI X (.Tuple elts kk tpos) (.Call (.Name "enumerate" p) [e] [] pos) (iEnumT X.K ta) := by
  refine ⟨fun pins s σ H R I h => ?_⟩
  refine Call_ (ld_blt I hg hm boot_enumerate (PyProof.Rows.callWith_type1 (thn (ha.run pos pins s σ H _ I h) fun us s1 ⟨vs, H1, I1, r1, q1⟩ => ?_) hs rfl))
  obtain ⟨a, xs, ex, hq, q⟩ := q1
  subst ex
  cases r1 with
  | cons r rr =>
    cases rr
    cases r
    obtain ⟨its, rv, p', hz⟩ := I1.tuple hq
    obtain ⟨oa, hoa, hca, na, hda⟩ := p'
    have hal : a < s1.heap.objs.size := Heap.lt_size hoa
    refine enum_begins1 (begins_tuple a its.toArray) ⟨oa, hoa, hca, na, hda⟩ fun h' he hit hsz hk => wpAny_pyIter_enum he ?_
    have I2 : Inv X pins σ H1 { s1 with heap := h' } := I1.kept (t' := s1.toks) hk
    refine ⟨s1.heap.objs.size + 1, [s1.heap.objs.size + 1, s1.heap.objs.size], _, _, H1, rfl, I2, turn_enumT a (s1.heap.objs.size + 1) s1.heap.objs.size, ⟨⟨.none, he⟩, ⟨_, hit, rfl, rfl⟩, Nat.succ_ne_self _, Nat.ne_of_lt hal, Nat.ne_of_gt (Nat.lt_succ_of_lt hal)⟩, fun b hb => ?_, q⟩
    have e' : b = s1.heap.objs.size + 1 ∨ b = s1.heap.objs.size := by simpa using hb
    have hle : s1.heap.objs.size ≤ b := by
      rcases e' with z | z
      · rw [z]; exact Nat.le_add_right _ _
      · rw [z]; exact Nat.le_refl _
    exact I1.fpOk hle (I1.hok.fresh hle)
/-! ### over data -/
def pairs (ds : List D) : List D := ds.zipIdx.map fun p => .tup [.int (p.2 : Nat), p.1]
theorem pairs_get {ds : List D} {i : Nat} {d : D} (h : (pairs ds)[i]? = some d) : ∃ x, ds[i]? = some x ∧ d = .tup [.int (i : Nat), x] := by
  unfold pairs at h
  rw [List.getElem?_map, List.getElem?_zipIdx] at h
  cases e : ds[i]? with
  | none => rw [e] at h; cases h
  | some x =>
    rw [e] at h
    simp only [Option.map_some, Option.some.injEq, Nat.zero_add] at h
    exact ⟨x, rfl, h.symm⟩
theorem pairs_len (ds : List D) : (pairs ds).length = ds.length := by
  unfold pairs
  rw [List.length_map, List.length_zipIdx]
theorem its_enumL {K : PySem.W.Frag} {a : Addr} {vs : List V} {F : Hp} {ds : List D} (h : SqL K F a vs) (r : RepL K F vs ds) : ItS K (Ite K a) F (pairs ds) := by
  refine ⟨fun dl i d F' H' s1 s2 dk e => ?_, fun F' H' s1 s2 => ⟨vs, seqL_same (s1.trans s2) h, by rw [pairs_len]; exact Nat.le_of_eq r.length⟩⟩
  obtain ⟨x, ex, rfl⟩ := pairs_get e
  obtain ⟨v, ev, rv⟩ := r.get ex
  refine ⟨⟨vs, v, seqL_same (s1.trans s2) h, ev⟩, fun y H'' hy => ?_⟩
  obtain ⟨T, x', rfl, nT, rfl, hx⟩ := hy
  have e2 := hx vs (seqL_same (s1.trans s2) h)
  rw [ev] at e2
  cases e2
  exact ⟨_, Step.fresh s2 dk nT, .tup (SqT.of upd_same) (.cons (.int _) (.cons (rv.same (s1.trans (Same.upd_new (Same.none s2 nT)))) .nil))⟩
theorem its_enumT {K : PySem.W.Frag} {a : Addr} {vs : List V} {F : Hp} {ds : List D} (h : SqT K F a vs) (r : RepL K F vs ds) : ItS K (Itet K a) F (pairs ds) := by
  refine ⟨fun dl i d F' H' s1 s2 dk e => ?_, fun F' H' s1 s2 => ⟨vs, seqT_same (s1.trans s2) h, by rw [pairs_len]; exact r.length⟩⟩
  obtain ⟨x, ex, rfl⟩ := pairs_get e
  obtain ⟨v, ev, rv⟩ := r.get ex
  refine ⟨⟨vs, v, seqT_same (s1.trans s2) h, ev⟩, fun y H'' hy => ?_⟩
  obtain ⟨T, x', rfl, nT, rfl, hx⟩ := hy
  have e2 := hx vs (seqT_same (s1.trans s2) h)
  rw [ev] at e2
  cases e2
  exact ⟨_, Step.fresh s2 dk nT, .tup (SqT.of upd_same) (.cons (.int _) (.cons (rv.same (s1.trans (Same.upd_new (Same.none s2 nT)))) .nil))⟩
def iEL (ff : FA) : FI := fun st Q E => ff st (fun ds => match ds with
  | [.lst xs] => Q (pairs xs)
  | _ => False) E
def iET (ff : FA) : FI := fun st Q E => ff st (fun ds => match ds with
  | [.tup xs] => Q (pairs xs)
  | _ => False) E
section
variable {P : Program} {w : World} {K : PySem.W.Frag} {mg : Str → Option Value} {base : Heap} {k : Nat} {ι : Type} {X : ι → Cx} {E : XK} {e : Expr} {elts : List Expr} {kk : Nat} {p pos tpos : Pos} {ff : FA}
theorem mi_enumL (φ : Fam P w K mg base k X) (hm : mg "enumerate" = none) (h : MA X E [e] ff) (hg : ∀ i, Gl (X i) "enumerate" := by intro _; rfl) (hs : ∀ i, starEach [e] (X i).env = [(false, eval e (X i).env)] := by intro _; rfl) : MI X E (.Tuple elts kk tpos) (.Call (.Name "enumerate" p) [e] [] pos) (iEL ff) := by
  obtain ⟨t, h⟩ := h
  refine ⟨fun σ H R => iEnum K t σ H fun J H1 => Sz K H1 → R J H1, fun i => ?_⟩
  refine ⟨by rw [← φ.K i]; exact pi_sz (pi_enum (hg i) (by rw [φ.mg i]; exact hm) (h i).1 (hs i)), fun H0 F H σ st R Qd Ed s x hh k => ?_⟩
  refine (h i).2 H0 F H σ st _ _ Ed s x hh fun F1 H1 vs ds s1 r1 h1 => ?_
  have eK := φ.K i
  match ds, r1, h1 with
  | [.lst xs], .cons r .nil, h1 =>
    cases r with
    | lst ha hr =>
      rw [eK] at hr
      exact ⟨_, _, rfl, SqL.of (s1.fh _ _ ha), fun z => k F1 H1 _ _ s1 (by rw [eK]; exact its_enumL (SqL.of ha) hr) (by rw [pairs_len, ← hr.length]; exact z _ _ (.inl (SqL.of (s1.fh _ _ ha)))) h1⟩
theorem mi_enumT (φ : Fam P w K mg base k X) (hm : mg "enumerate" = none) (h : MA X E [e] ff) (hg : ∀ i, Gl (X i) "enumerate" := by intro _; rfl) (hs : ∀ i, starEach [e] (X i).env = [(false, eval e (X i).env)] := by intro _; rfl) : MI X E (.Tuple elts kk tpos) (.Call (.Name "enumerate" p) [e] [] pos) (iET ff) := by
  obtain ⟨t, h⟩ := h
  refine ⟨fun σ H R => iEnumT K t σ H fun J H1 => Sz K H1 → R J H1, fun i => ?_⟩
  refine ⟨by rw [← φ.K i]; exact pi_sz (pi_enumT (hg i) (by rw [φ.mg i]; exact hm) (h i).1 (hs i)), fun H0 F H σ st R Qd Ed s x hh k => ?_⟩
  refine (h i).2 H0 F H σ st _ _ Ed s x hh fun F1 H1 vs ds s1 r1 h1 => ?_
  have eK := φ.K i
  match ds, r1, h1 with
  | [.tup xs], .cons r .nil, h1 =>
    cases r with
    | tup ha hr =>
      rw [eK] at hr ha
      exact ⟨_, _, rfl, seqT_same s1.fh ha, fun z => k F1 H1 _ _ s1 (by rw [eK]; exact its_enumT ha hr) (by rw [pairs_len, ← hr.length]; exact z _ _ (.inr (seqT_same s1.fh ha))) h1⟩
end
end DL

/-! DL, part n: repr; statements that change lists; stores of several names; calls; making. -/
namespace DL
open PySem PySem.Spec PyProof.Rows L2
/-! ### repr -/
def shownD (d : D) : Str := (toPy d).shown
def gRepr (ds : List D) (Q : D → Prop) : Prop := match ds with
  | [d] => okD d = true ∧ (toPy d).showable = true ∧ (shownD d).length ≤ sizeLine ∧ Q (.txt (shownD d))
  | _ => False
def rReprQ (K : PySem.W.Frag) : List V → Hp → VK → Prop := fun xs H Q => ∃ x d, xs = [x] ∧ Dp K H x d ∧ d.canLay0 = true ∧ d.showable = true ∧ d.shown.length ≤ sizeLine ∧ d.depth ≤ 60 ∧ Q (.str d.shown) H
theorem call_reprQ {X : Cx} (hu : X.A.units + 190 < cLine) (hg : X.A.guards = some []) : CallR X (.builtin "repr") (rReprQ X.K) := by
  intro pins s σ H xs us Q I r h
  obtain ⟨x, d, rfl, hd, hl, hs, hz, hp, q⟩ := h
  obtain ⟨u, rfl, rx⟩ := vals1 r
  obtain ⟨as, rd⟩ := Dp.reads I d x u hd rx
  have hsm := PyData.noDict_hsm (as := as) (PyData.hasDict_of_canLay d hl)
  have gen : ∀ {a : Addr}, u = .ref a → wpAny (model X.prog X.w) X.A (call (.builtin "repr") [u]) (EP X pins σ Q) X.xe s := fun {a} e => by
    subst e
    exact repr_of_reads' rd hs hsm hg (by omega) (fun _ _ e => e) (fun h' u tk hk => ⟨.str d.shown, H, I.kept (t' := tk) hk, ⟨u, rfl⟩, q⟩) hz
  cases rd with
  | none => exact P.repr_of_none ⟨.str "None", H, I.tok _, ⟨_, rfl⟩, by simpa only [PyData.shown] using q⟩
  | bool b => exact P.repr_of_bool ⟨.str (if b then "True" else "False"), H, I.tok _, ⟨_, rfl⟩, by simpa only [PyData.shown] using q⟩
  | int n t => exact P.repr_of_int (by simpa only [PyData.showable, decide_eq_true_eq] using hs) ⟨.str (toString n), H, I.tok _, ⟨_, rfl⟩, by simpa only [PyData.shown] using q⟩
  | str y t => exact P.repr_of_str ⟨.str (reprText y), H, I.tok _, ⟨_, rfl⟩, by simpa only [PyData.shown] using q⟩ (by simpa only [PyData.shown] using hz)
  | list h1 h2 h3 h4 => exact gen rfl
  | tuple h1 h2 h3 h4 => exact gen rfl
  | dict h1 h2 h3 h4 h5 => exact gen rfl
theorem cd_repr {K : PySem.W.Frag} : CallD K (rReprQ K) gRepr := fun dl F H xs ds Q Qd s d rx h k => by
  match ds, rx, h with
  | [y], .cons (a := x) r .nil, h =>
    obtain ⟨h1, h2, h3, h4⟩ := h
    obtain ⟨a1, a2⟩ := r.dp s (okD_plain h1)
    exact ⟨x, toPy y, rfl, a1, a2, h2, h3, okD_dep h1, k F H _ _ (Step.refl s d) (.txt _) h4⟩
section
variable {P : Program} {w : World} {K : PySem.W.Frag} {mg : Str → Option Value} {base : Heap} {k : Nat} {ι : Type} {X : ι → Cx}
theorem cb_repr (φ : Fam P w K mg base k X) : Cb X (.builtin "repr") gRepr := ⟨rReprQ K, fun i => ⟨by rw [← φ.K i]; exact call_reprQ (φ.hu i) (φ.gd i), by rw [φ.K i]; exact cd_repr⟩⟩
end
/-! ### join -/
def gJoin (z : Str) (x : D) (Q : D → Prop) : Prop := match seqItems x with
  | some ds => (match strsOf ds with
    | some ys => (ys.map (·.length)).sum + ys.length * z.length ≤ 16777216 ∧ strOk (Txt.join z ys) = true ∧ Q (.str (Txt.join z ys))
    | none => False)
  | none => False
def dJoin (fo f : FE) : FE := fun st Q E => fo st (fun o => match o with
  | .str z => f st (fun x => gJoin z x Q) E
  | _ => False) E
section
variable {ι : Type} {X : ι → Cx} {K : PySem.W.Frag} {E : XK} {s : Stmt} {ss : List Stmt} {o e e2 c tg iter : Expr} {fo f f2 : FE} {fx fx2 : FX} {pos pos' apos cpos p : Pos} {ta te : TE}
theorem me_join (ho : ME X E o fo) (he : MB X E e f) (hK : ∀ i, (X i).K = K) (hs : ∀ i, starEach [e] (X i).env = [(false, eval e (X i).env)] := by intro _; rfl) (hb : ∀ i, attributeBase o "join" (X i).env (eval o (X i).env) = eval o (X i).env := by intro _; rfl) (hl : (apos.endLine == pos.line) = true := by rfl) :
    ME X E (.Call (.Attribute o "join" apos) [e] [] pos) (dJoin fo f) := by
  obtain ⟨tO, ho⟩ := ho
  obtain ⟨te, he⟩ := he
  refine ⟨tM1 (fun x xs H Q => ∃ a p, ∃ ys : List Str, x = .str a ∧ xs = [.ref p] ∧ (SqL K H p (ys.map V.str) ∨ SqT K H p (ys.map V.str)) ∧
      (ys.map (·.length)).sum + ys.length * a.length ≤ 16777216 ∧ Q (.str (Txt.join a ys)) H) tO te, fun i => ⟨by rw [← hK i]; exact pe_join (ho i).1 (he i).1 (hs i) (hb i) hl, fun H0 F H σ st Q Qd Ed s x h k => ?_⟩⟩
  have eK := hK i
  refine (ho i).2 H0 F H σ st _ _ Ed s x h fun F1 H1 v1 d1 s1 r1 h1 => ?_
  cases d1 with
  | str z =>
    have e1 := r1.strI
    subst e1
    have k1 := s.step s1
    refine ⟨⟨z, rfl⟩, (he i).2 H0 F1 H1 σ st _ _ Ed k1 (x.step s1) h1 fun F2 H2 v2 d2 s2 r2 h2 => ?_⟩
    have k2 := k1.step s2
    unfold gJoin at h2
    cases e3 : seqItems d2 with
    | none => rw [e3] at h2; exact h2.elim
    | some ds =>
      rw [e3] at h2
      have h2' : (match strsOf ds with
        | some ys => (ys.map (·.length)).sum + ys.length * z.length ≤ 16777216 ∧ strOk (Txt.join z ys) = true ∧ Qd (.str (Txt.join z ys))
        | none => False) := h2
      cases e4 : strsOf ds with
      | none => rw [e4] at h2'; exact h2'.elim
      | some ys =>
        rw [e4] at h2'
        obtain ⟨p, vs, rfl, hp, r⟩ := rs_seq k2.fh (r2.rs k2) e3
        rw [strsOf_some e4] at r
        rw [r.strsInv, eK] at hp
        exact ⟨z, p, ys, rfl, rfl, hp, h2'.1, k F2 H2 _ _ (s1.trans s2) (.str h2'.2.1) h2'.2.2⟩
  | _ => exact h1.elim
/-! ### statements that change a slot's own list -/
def sX (f : FX) : FS := fun D st => f st (fun st' _ => D.nx st') D.ex
theorem ms_mut (h : MX X E e fx) (hs : ∀ i, swapsWith e none pos.line (X i).env = pure false := by intro _; rfl) : MS X E (.Expr e pos) (sX fx) := by
  obtain ⟨t, h⟩ := h
  exact ⟨_, fun i => ⟨ps_expr (h i).1 (hs i), fun φ F H σ st D Dd o x hh b => (h i).2 φ F H σ st _ _ _ o x hh fun F' H' st' v d o' r h1 => b.nx F' H' σ st' o' h1⟩⟩
theorem mx_append (i : Nat) {x : Str} (he : ME X E e f) (hK : ∀ j, (X j).K = K) (hN : ∀ j, (X j).N[i]? = some x := by intro _; rfl) (hv : ∀ j, Vis (X j).env.scope x := by intro _; first | exact Or.inl rfl | exact Or.inr (Or.inl rfl) | exact Or.inr (Or.inr rfl)) (hd : (x == ("__debug__" : Str)) = false := by decide)
    (hcd : (x == ("__classdict__" : Str)) = false := by decide) (hb : ∀ j, attributeBase (.Name x p) "append" (X j).env (eval (.Name x p) (X j).env) = eval (.Name x p) (X j).env := by intro _; rfl)
    (hfew : ∀ j, ((backTo cpos (starEach [e] (X j).env)).all (fun x => !x.1) && (backToKw cpos (keywordEach [] (X j).env)).all (fun x => x.1.isSome)
      && decide ([e].length + ([] : List Keyword).length + (if ([] : List Keyword).isEmpty then 0 else 1) < 30)) = true := by intro _; rfl)
    (hl : (apos.endLine == cpos.line) = true := by rfl) (hs : ∀ j, starEach [e] (X j).env = (false, eval e (X j).env) :: starEach [] (X j).env := by intro _; rfl) (hpl : ∀ j, (backTo cpos (starEach [] (X j).env)).any (·.1) = false := by intro _; rfl) :
    MX X E (.Call (.Attribute (.Name x p) "append" apos) [e] [] cpos) (xMut i gAppend (xE f)) := by
  obtain ⟨t, h⟩ := he
  refine ⟨tBM K "list" rAppend (tVar i) (tCons t tNil), fun j => ⟨?_, by have := SemX.mut i mutd_append (h j).2.toX; rw [hK j] at this ⊢; exact this⟩⟩
  rw [← hK j]
  exact pe_bm PySem.F.plainAttrs_list PySem.F.slot_list_append PySem.F.type_list_append mt_append (pe_var (hN j) (hv j) hd hcd) (pa_cons (h j).1 pa_nil (hs j)) (hb j) (hfew j) hl (hs j) (hpl j)
/-! insert -/
def gInsert (ds as : List D) (P : List D → D → Prop) : Prop := match as with
  | [.int i, a] => ds.length < sizeLine ∧ 0 ≤ i ∧ i < 2 ^ 63 ∧ P (ds.take i.toNat ++ [a] ++ ds.drop i.toNat) .non
  | _ => False
def rInsert : V → List V → Hp → VK → Prop := fun x vs H Q => ∃ (l : Addr) (xs : List V) (i : Int) (y : V), x = .ref l ∧ vs = [.int i, y] ∧ H l = some (.lst xs) ∧ xs.length < sizeLine ∧ 0 ≤ i ∧ i < 2 ^ 63 ∧
    Q .non (upd H l (.lst (xs.take i.toNat ++ [y] ++ xs.drop i.toNat)))
theorem mutd_insert : MutD K rInsert gInsert := fun F H p xs vs ds as Q P hp rx rv h k => by
  match as, rv, h with
  | [.int i, a], .cons (v := v) ri (.cons (v := y) ra .nil), h =>
    have e := ri.intI
    subst e
    exact ⟨p, xs, i, y, rfl, rfl, hp, by rw [rx.length]; exact h.1, h.2.1, h.2.2.1, k _ _ _ _ (((rx.take _).app (.cons ra .nil)).app (rx.drop _)) .non h.2.2.2⟩
def xMut2E (i : Nat) (g : List D → List D → (List D → D → Prop) → Prop) (f f2 : FE) : FX := fun st Q E => (∃ ds, st.sl[i]? = some (.mu (.lst ds))) ∧ f st (fun a => f2 st (fun b => match st.sl[i]? with
  | some (.mu (.lst ds)) => g ds [a, b] fun ds' d => Q (st.set i (.mu (.lst ds'))) d
  | _ => False) E) E
theorem SemX.mut2 (i : Nat) {te te2 : TE} {r : V → List V → Hp → VK → Prop} {g : List D → List D → (List D → D → Prop) → Prop} (hg : MutD K r g) (q : SemE K E te f) (q2 : SemE K E te2 f2) : SemX K E (tBM K "list" r (tVar i) (tCons te (tCons te2 tNil))) (xMut2E i g f f2) := by
  intro φ F H σ st Q Qd Ed o x h k
  obtain ⟨⟨ds0, e0⟩, h⟩ := h
  obtain ⟨p, ep, ow, xs0, hp, r0⟩ := o.so.sl i _ e0
  refine ⟨.ref p, ep, .inl ⟨rfl, xs0, SqL.of hp⟩, ?_⟩
  refine q φ.H0 F H σ st _ _ Ed o.so (x.xo o) h fun F1 H1 v a s1 rv h1 => ?_
  have o1 := o.step s1
  refine q2 φ.H0 F1 H1 σ st _ _ Ed o1.so (x.xo o1) h1 fun F2 H2 v2 b s2 rv2 h2 => ?_
  have o2 := o1.step s2
  rw [e0] at h2
  obtain ⟨p', ep', ow', xs, hp', r'⟩ := o2.so.sl i _ e0
  rw [ep] at ep'
  cases ep'
  refine hg F2 H2 p xs [v, v2] ds0 [a, b] Q _ hp' r' (.cons (rv.same s2.ff) (.cons rv2 .nil)) h2 fun xs' ds' w d rx rw' h2 => ?_
  exact k F2 _ _ w d (o2.write (d := .lst ds') e0 ep ⟨xs', upd_same, rx⟩) rw' h2
theorem mx_insert (i : Nat) {x : Str} (he : ME X E e f) (he2 : ME X E e2 f2) (hK : ∀ j, (X j).K = K) (hN : ∀ j, (X j).N[i]? = some x := by intro _; rfl) (hv : ∀ j, Vis (X j).env.scope x := by intro _; first | exact Or.inl rfl | exact Or.inr (Or.inl rfl) | exact Or.inr (Or.inr rfl)) (hd : (x == ("__debug__" : Str)) = false := by decide)
    (hcd : (x == ("__classdict__" : Str)) = false := by decide) (hb : ∀ j, attributeBase (.Name x p) "insert" (X j).env (eval (.Name x p) (X j).env) = eval (.Name x p) (X j).env := by intro _; rfl)
    (hfew : ∀ j, ((backTo cpos (starEach [e, e2] (X j).env)).all (fun x => !x.1) && (backToKw cpos (keywordEach [] (X j).env)).all (fun x => x.1.isSome)
      && decide ([e, e2].length + ([] : List Keyword).length + (if ([] : List Keyword).isEmpty then 0 else 1) < 30)) = true := by intro _; rfl)
    (hl : (apos.endLine == cpos.line) = true := by rfl) (hs : ∀ j, starEach [e, e2] (X j).env = (false, eval e (X j).env) :: starEach [e2] (X j).env := by intro _; rfl) (hs2 : ∀ j, starEach [e2] (X j).env = (false, eval e2 (X j).env) :: starEach [] (X j).env := by intro _; rfl) (hpl : ∀ j, (backTo cpos (starEach [e2] (X j).env)).any (·.1) = false := by intro _; rfl) :
    MX X E (.Call (.Attribute (.Name x p) "insert" apos) [e, e2] [] cpos) (xMut2E i gInsert f f2) := by
  obtain ⟨t, h⟩ := he
  obtain ⟨t2, h2⟩ := he2
  refine ⟨tBM K "list" rInsert (tVar i) (tCons t (tCons t2 tNil)), fun j => ⟨?_, by have := SemX.mut2 i mutd_insert (h j).2 (h2 j).2; rw [hK j] at this ⊢; exact this⟩⟩
  rw [← hK j]
  exact pe_bm PySem.F.plainAttrs_list PySem.F.slot_list_insert PySem.F.type_list_insert mt_insert (pe_var (hN j) (hv j) hd hcd) (pa_cons (h j).1 (pa_cons (h2 j).1 pa_nil (hs2 j)) (hs j)) (hb j) (hfew j) hl (hs j) (hpl j)
/-- x[e] = v, x a slot's own list -/
def sSetI (i : Nat) (f fi : FE) : FS := fun D st => (∃ ds, st.sl[i]? = some (.mu (.lst ds))) ∧ f st (fun v => fi st (fun ix => match st.sl[i]? with
  | some (.mu (.lst ds)) => (match ix with
    | .int n => (match ixN ds.length n with
      | some j => D.nx (st.set i (.mu (.lst (ds.set j v))))
      | none => False)
    | _ => False)
  | _ => False) D.ex) D.ex
theorem ms_setI (i : Nat) {x : Str} {sp : Pos} (he : ME X E e f) (hi : ME X E e2 f2) (hN : ∀ j, (X j).N[i]? = some x := by intro _; rfl) (hv : ∀ j, Vis (X j).env.scope x := by intro _; first | exact Or.inl rfl | exact Or.inr (Or.inl rfl) | exact Or.inr (Or.inr rfl)) (hd : (x == ("__debug__" : Str)) = false := by decide)
    (hcd : (x == ("__classdict__" : Str)) = false := by decide) (ha : ∀ j, ∀ v, assign (.Subscript (.Name x p) e2 sp) (X j).env v = (do
      let ov ← holding [v] (eval (.Name x p) (X j).env)
      let iv ← holding [v, ov] (eval e2 (X j).env)
      standAt sp
      holding [v, ov, iv] (setItem ov iv v)
      release [v, ov, iv] []) := by intro _ _; rfl)
    (hs : ∀ j, swapsWithSole [.Subscript (.Name x p) e2 sp] e pos.line (X j).env = pure false := by intro _; rfl) (hw : ∀ j, swappedStores [.Subscript (.Name x p) e2 sp] e (X j).env = pure none := by intro _; rfl)
    (h1 : ∀ j, (assignEach [.Subscript (.Name x p) e2 sp] (X j).env).map (·.2) = [assign (.Subscript (.Name x p) e2 sp) (X j).env] := by intro _; rfl) :
    MS X E (.Assign [.Subscript (.Name x p) e2 sp] e pos) (sSetI i f f2) := by
  obtain ⟨t, h⟩ := he
  obtain ⟨t2, h2⟩ := hi
  refine ⟨_, fun j => ⟨ps_asg (h j).1 (pg_sub (pe_var (hN j) (hv j) hd hcd) (h2 j).1 set_list (ha j)) (hs j) (hw j) (h1 j), fun φ F H σ st D Dd o x hh b => ?_⟩⟩
  obtain ⟨⟨ds0, e0⟩, hh⟩ := hh
  refine (h j).2 φ.H0 F H σ st _ _ _ o.so (x.xo o) hh fun F1 H1 v d s1 r1 h1 => ?_
  have o1 := o.step s1
  obtain ⟨p, ep, ow, xs0, hp, r0⟩ := o1.so.sl i _ e0
  refine ⟨.ref p, ep, ?_⟩
  refine (h2 j).2 φ.H0 F1 H1 σ st _ _ _ o1.so (x.xo o1) h1 fun F2 H2 v2 ix s2 r2 h2 => ?_
  have o2 := o1.step s2
  rw [e0] at h2
  cases ix with
  | int n =>
    have en := r2.intI
    subst en
    have h2' : (match ixN ds0.length n with
      | some j => Dd.nx (st.set i (.mu (.lst (ds0.set j d))))
      | none => False) := h2
    cases ej : ixN ds0.length n with
    | none => rw [ej] at h2'; exact h2'.elim
    | some l =>
      rw [ej] at h2'
      obtain ⟨p', ep', ow', xs, hp', r'⟩ := o2.so.sl i _ e0
      rw [ep] at ep'
      cases ep'
      exact ⟨p, xs, n, l, rfl, rfl, hp', by rw [r'.length]; exact ej, b.nx F2 _ _ _ (o2.write (d := .lst (ds0.set l d)) e0 ep ⟨_, upd_same, r'.set (r1.same s2.ff) l⟩) h2'⟩
  | _ => exact h2.elim
end
end DL

/-! DL, part o: stores of several names at once; defs as facts; calls. -/
namespace DL
open PySem PySem.Spec PyProof.Rows L2

/-! ### a, b = e, e' -/
abbrev FV := DSt → (List Sl → Prop) → (XD → Prop) → Prop
inductive PV (K : PySem.W.Frag) (F H : Hp) : (Addr → Prop) → List V → List Sl → Prop
  | nil {fr : Addr → Prop} : PV K F H fr [] []
  | val {fr : Addr → Prop} {v : V} {vs : List V} {d : D} {ss : List Sl} : Rep K F v d → PV K F H fr vs ss → PV K F H fr (v :: vs) (.val d :: ss)
  | mu {fr : Addr → Prop} {p : Addr} {vs : List V} {d : D} {ss : List Sl} : fr p → F p = none → MutRep K F H p d → PV K F H (fun q => fr q ∧ q ≠ p) vs ss → PV K F H fr (.ref p :: vs) (.mu d :: ss)
theorem PV.mono {K : PySem.W.Frag} {F H : Hp} : ∀ {fr fr' : Addr → Prop} {vs : List V} {ss : List Sl}, PV K F H fr vs ss → (∀ q, fr q → fr' q) → PV K F H fr' vs ss
  | _, _, _, _, .nil, _ => .nil
  | _, _, _, _, .val r t, h => .val r (t.mono h)
  | _, _, _, _, .mu a b c t, h => .mu (h _ a) b c (t.mono fun q z => ⟨h q z.1, z.2⟩)
theorem PV.len {K : PySem.W.Frag} {F H : Hp} : ∀ {fr : Addr → Prop} {vs : List V} {ss : List Sl}, PV K F H fr vs ss → vs.length = ss.length
  | _, _, _, .nil => rfl
  | _, _, _, .val _ t => by rw [List.length_cons, List.length_cons, t.len]
  | _, _, _, .mu _ _ _ t => by rw [List.length_cons, List.length_cons, t.len]
def SemV (K : PySem.W.Frag) (E : XK) (t : TA) (f : FV) : Prop := ∀ (H0 F H : Hp) (σ : L2.St) (st : DSt) (Q : List V → Hp → Prop) (Qd : List Sl → Prop) (Ed : XD → Prop),
  SOk K H0 F H σ st → XO K st.dl E F H Ed → f st Qd Ed → (∀ F' H' vs ss, Step st.dl F H F' H' → PV K F' H' (fun q => H q = none) vs ss → Qd ss → Q vs H') → t σ H Q
def MV {ι : Type} (X : ι → Cx) (E : XK) (es : List Expr) (f : FV) : Prop := ∃ t, ∀ i, PA (X i) es t ∧ SemV (X i).K E t f
def vNil : FV := fun _ Q _ => Q []
def vE (f : FE) (g : FV) : FV := fun st Q E => f st (fun d => g st (fun ss => Q (.val d :: ss)) E) E
def vF (f : FE) (g : FV) : FV := fun st Q E => f st (fun d => g st (fun ss => Q (.mu d :: ss)) E) E
section
variable {ι : Type} {X : ι → Cx} {K : PySem.W.Frag} {E : XK} {e : Expr} {es : List Expr} {f : FE} {g : FV}
theorem mv_nil : MV X E [] vNil := ⟨_, fun i => ⟨pa_nil, fun H0 F H σ st Q Qd Ed s _ h k => k F H [] [] s.rf .nil h⟩⟩
theorem mv_e (ha : ME X E e f) (hr : MV X E es g) (hs : ∀ i, starEach (e :: es) (X i).env = (false, eval e (X i).env) :: starEach es (X i).env := by intro _; rfl) : MV X E (e :: es) (vE f g) := by
  obtain ⟨ta, ha⟩ := ha
  obtain ⟨tb, hb⟩ := hr
  refine ⟨_, fun i => ⟨pa_cons (ha i).1 (hb i).1 (hs i), fun H0 F H σ st Q Qd Ed s x h k => ?_⟩⟩
  refine (ha i).2 H0 F H σ st _ _ Ed s x h fun F1 H1 v1 d1 s1 r1 h1 => ?_
  refine (hb i).2 H0 F1 H1 σ st _ _ Ed (s.step s1) (x.step s1) h1 fun F2 H2 v2 d2 s2 r2 h2 => ?_
  exact k F2 H2 _ _ (s1.trans s2) (.val (r1.same s2.ff) (r2.mono fun q hq => s1.hn hq)) h2
theorem mv_f (ha : MF X E e f) (hr : MV X E es g) (hs : ∀ i, starEach (e :: es) (X i).env = (false, eval e (X i).env) :: starEach es (X i).env := by intro _; rfl) : MV X E (e :: es) (vF f g) := by
  obtain ⟨ta, ha⟩ := ha
  obtain ⟨tb, hb⟩ := hr
  refine ⟨_, fun i => ⟨pa_cons (ha i).1 (hb i).1 (hs i), fun H0 F H σ st Q Qd Ed s x h k => ?_⟩⟩
  refine (ha i).2 H0 F H σ st _ _ Ed s x h fun F1 H1 p d1 s1 fp hp r1 h1 => ?_
  refine (hb i).2 H0 F1 H1 σ st _ _ Ed (s.step s1) (x.step s1) h1 fun F2 H2 v2 d2 s2 r2 h2 => ?_
  have nd : ¬ isDl st.dl p := fun z => by
    obtain ⟨u, w⟩ := s.dl.dom z
    rw [hp] at w
    cases w
  obtain ⟨o, eo⟩ := r1.dom
  exact k F2 H2 _ _ (s1.trans s2) (.mu hp (s2.toFStep.off fp eo) (r1.step s2 nd) (r2.mono fun q hq => ⟨s1.hn hq, fun z => by
    subst z
    rw [eo] at hq
    cases hq⟩)) h2
/-- these addresses are nobody's -/
def Nob (H0 : Hp) (σ : L2.St) (st : DSt) (fr : Addr → Prop) : Prop := ∀ q, fr q → H0 q = none ∧ ¬ isDl st.dl q ∧ ∀ (j : Nat), σ[j]? = some (some (V.ref q)) → ∀ (s : Sl), st.sl[j]? = some s → s.own = false
theorem FOk.storeHd {φ : Fm} {F H : Hp} {σ : L2.St} {st : DSt} {fr : Addr → Prop} {v : V} {vs : List V} {s : Sl} {ss : List Sl} (o : FOk K φ F H σ st) (p : PV K F H fr (v :: vs) (s :: ss)) (nb : Nob φ.H0 σ st fr) (i : Nat) :
    FOk K φ F H (σ.set i (some v)) (st.set i s) ∧ ∃ fr', PV K F H fr' vs ss ∧ Nob φ.H0 (σ.set i (some v)) (st.set i s) fr' := by
  cases p with
  | val r t =>
    rename_i d
    refine ⟨o.setVal r i, fr, t, fun q hq => ⟨(nb q hq).1, (nb q hq).2.1, fun j e s es => ?_⟩⟩
    have es' : (st.sl.set i (.val d))[j]? = some s := es
    by_cases hj : i = j
    · subst hj
      by_cases hi : i < st.sl.length
      · rw [List.getElem?_set_self hi] at es'
        cases es'
        rfl
      · rw [List.getElem?_eq_none (by rw [List.length_set]; omega)] at es'
        cases es'
    · rw [List.getElem?_set_ne hj] at es' e
      exact (nb q hq).2.2 j e s es'
  | mu hp fp r t =>
    rename_i p d
    refine ⟨o.setMu fp (nb _ hp).1 (nb _ hp).2.1 r (nb _ hp).2.2 i, _, t, fun q hq => ⟨(nb q hq.1).1, (nb q hq.1).2.1, fun j e s es => ?_⟩⟩
    have es' : (st.sl.set i (.mu d))[j]? = some s := es
    by_cases hj : i = j
    · subst hj
      by_cases hi : i < σ.length
      · rw [List.getElem?_set_self hi] at e
        cases e
        exact absurd rfl hq.2
      · rw [List.getElem?_eq_none (by rw [List.length_set]; omega)] at e
        cases e
    · rw [List.getElem?_set_ne hj] at es' e
      exact (nb q hq.1).2.2 j e s es'
theorem SOk.nob {H0 F H F' H' : Hp} {σ : L2.St} {st : DSt} (s : SOk K H0 F H σ st) (hd : ∀ q, H q = none → H0 q = none) : Nob H0 σ st (fun q => H q = none) := fun q hq => by
  refine ⟨hd q hq, fun z => ?_, fun j e sl es => s.newAt hq j e sl es⟩
  obtain ⟨u, w⟩ := s.dl.dom z
  have hq' : H q = none := hq
  rw [hq'] at w
  cases w
def sPar2 (i j : Nat) (g : FV) : FS := fun D st => g st (fun ss => match ss with
  | [s1, s2] => D.nx ((st.set i s1).set j s2)
  | _ => False) D.ex
def sPar3 (i j l : Nat) (g : FV) : FS := fun D st => g st (fun ss => match ss with
  | [s1, s2, s3] => D.nx (((st.set i s1).set j s2).set l s3)
  | _ => False) D.ex
theorem ms_par2 (i j : Nat) {x y : Str} {a b : Expr} {px py pt : Pos} {kt k2 pt2} {pos : Pos} (ha : MV X E [a, b] g) (hc : ∀ q, (X q).calm = true) (hN : ∀ q, (X q).N.Nodup) (hw : ∀ q, swappedStores [.Tuple [.Name x px, .Name y py] kt pt] (.Tuple [a, b] k2 pt2) (X q).env = pure (some [x, y]))
    (hi : ∀ q, (X q).N[i]? = some x := by intro _; rfl) (hj : ∀ q, (X q).N[j]? = some y := by intro _; rfl) (hij : i ≠ j := by decide)
    (hx : ∀ q, (X q).env.scope.names.lookup x = some .local := by intro _; rfl) (hy : ∀ q, (X q).env.scope.names.lookup y = some .local := by intro _; rfl)
    (hs : ∀ q, swapsWithSole [.Tuple [.Name x px, .Name y py] kt pt] (.Tuple [a, b] k2 pt2) pos.line (X q).env = pure false := by intro _; rfl) :
    MS X E (.Assign [.Tuple [.Name x px, .Name y py] kt pt] (.Tuple [a, b] k2 pt2) pos) (sPar2 i j g) := by
  obtain ⟨t, h⟩ := ha
  refine ⟨_, fun q => ⟨ps_par (hc q) (hN q) (hi q) (hj q) hij (hx q) (hy q) (h q).1 (hw q) (hs q), fun φ F H σ st D Dd o x hh b => ?_⟩⟩
  refine (h q).2 φ.H0 F H σ st _ _ _ o.so (x.xo o) hh fun F1 H1 vs ss s1 r1 h1 => ?_
  have o1 := o.step s1
  match ss, vs, r1, h1 with
  | [z1, z2], [v1, v2], r1, h1 =>
    have nb := o.so.nob (F' := F1) (H' := H1) o.fs.dom
    obtain ⟨o2, fr2, r2, nb2⟩ := o1.storeHd r1 nb i
    obtain ⟨o3, fr3, r3, nb3⟩ := o2.storeHd r2 nb2 j
    exact ⟨v1, v2, rfl, b.nx F1 H1 _ _ o3 h1⟩
  | [z1, z2], [], r1, h1 => cases r1
  | [z1, z2], [v1], r1, h1 => have := r1.len; cases this
  | [z1, z2], v1 :: v2 :: v3 :: r, r1, h1 => have := r1.len; cases this
theorem ms_par3 (i j l : Nat) {x y z : Str} {a b c : Expr} {px py pz pt : Pos} {kt k2 pt2} {pos : Pos} (ha : MV X E [a, b, c] g) (hc : ∀ q, (X q).calm = true) (hN : ∀ q, (X q).N.Nodup) (hw : ∀ q, swappedStores [.Tuple [.Name x px, .Name y py, .Name z pz] kt pt] (.Tuple [a, b, c] k2 pt2) (X q).env = pure (some [x, y, z]))
    (hi : ∀ q, (X q).N[i]? = some x := by intro _; rfl) (hj : ∀ q, (X q).N[j]? = some y := by intro _; rfl) (hl : ∀ q, (X q).N[l]? = some z := by intro _; rfl) (hij : i ≠ j := by decide) (hil : i ≠ l := by decide) (hjl : j ≠ l := by decide)
    (hx : ∀ q, (X q).env.scope.names.lookup x = some .local := by intro _; rfl) (hy : ∀ q, (X q).env.scope.names.lookup y = some .local := by intro _; rfl) (hz : ∀ q, (X q).env.scope.names.lookup z = some .local := by intro _; rfl)
    (hs : ∀ q, swapsWithSole [.Tuple [.Name x px, .Name y py, .Name z pz] kt pt] (.Tuple [a, b, c] k2 pt2) pos.line (X q).env = pure false := by intro _; rfl) :
    MS X E (.Assign [.Tuple [.Name x px, .Name y py, .Name z pz] kt pt] (.Tuple [a, b, c] k2 pt2) pos) (sPar3 i j l g) := by
  obtain ⟨t, h⟩ := ha
  refine ⟨_, fun q => ⟨ps_par3 (hc q) (hN q) (hi q) (hj q) (hl q) hij hil hjl (hx q) (hy q) (hz q) (h q).1 (hw q) (hs q), fun φ F H σ st D Dd o x hh b => ?_⟩⟩
  refine (h q).2 φ.H0 F H σ st _ _ _ o.so (x.xo o) hh fun F1 H1 vs ss s1 r1 h1 => ?_
  have o1 := o.step s1
  match ss, h1 with
  | [z1, z2, z3], h1 =>
    have len := r1.len
    match vs, len, r1 with
    | [v1, v2, v3], _, r1 =>
      have nb := o.so.nob (F' := F1) (H' := H1) o.fs.dom
      obtain ⟨o2, fr2, r2, nb2⟩ := o1.storeHd r1 nb i
      obtain ⟨o3, fr3, r3, nb3⟩ := o2.storeHd r2 nb2 j
      obtain ⟨o4, fr4, r4, nb4⟩ := o3.storeHd r3 nb3 l
      exact ⟨v1, v2, v3, rfl, b.nx F1 H1 _ _ o4 h1⟩
end

/-! ### a def as a fact -/
structure Dd (P : Program) (w : World) (K : PySem.W.Frag) (mg : Str → Option Value) (base : Heap) (x : Str) (j n : Nat) (sp : NSpec) : Prop where
  ex : ∃ f fd ps, FnG P w K mg base CX0 j f fd ps (spD K n (nS sp)) ∧ mg x = some (.ref f) ∧ PySem.W.keepIn K (.ref f) = true ∧ Binds K fd ps [] ∧ ps.length = n
structure DdL (P : Program) (w : World) (K : PySem.W.Frag) (mg : Str → Option Value) (base : Heap) (x : Str) (j n : Nat) (sp : NSpec) : Prop where
  ex : ∃ f fd ps, FnG P w K mg base CX0 j f fd ps (spL K n (nS sp)) ∧ mg x = some (.ref f) ∧ PySem.W.keepIn K (.ref f) = true ∧ Binds K fd ps [] ∧ ps.length = n
def gFn (n : Nat) (sp : NSpec) (ds : List D) (Q : D → Prop) : Prop := ds.length = n ∧ sp ds Q
def dFn (n : Nat) (sp : NSpec) (ff : FA) : FE := fun st Q E => ff st (fun ds => ds.length = n ∧ sp ds Q) E
def dFnL (i n : Nat) (sp : NSpec) (ff : FA) : FE := fun st Q E => st.sl[i]? = some .deal ∧ ff st (fun ds => ds.length + 1 = n ∧ sp ds Q) E
theorem FnG.imp {P : Program} {w : World} {K : PySem.W.Frag} {mg : Str → Option Value} {base : Heap} {CX : CXT} {k : Nat} {f : Addr} {fd : FuncData} {ps : List Str} {sp sp' : Sp} (F : FnG P w K mg base CX k f fd ps sp) (h : ∀ vs H Q E, sp' vs H Q E → sp vs H Q E) : FnG P w K mg base CX k f fd ps sp' :=
  ⟨fun vs H Q E z => F.len _ _ _ _ (h _ _ _ _ z), fun A outer s H args us vs Q E hg hr e0 b rv hsp => F.go A outer s H args us vs Q E hg hr e0 b rv (h _ _ _ _ hsp)⟩
theorem spD_imp {K : PySem.W.Frag} {n : Nat} {sp sp' : NSpec} (h : ∀ ds Q, sp' ds Q → sp ds Q) : ∀ vs H Q E, spD K n (nS sp') vs H Q E → spD K n (nS sp) vs H Q E := fun vs H Q E ⟨hl, F, ds, Qd, Ed, a, b, c, d⟩ => ⟨hl, F, ds, Qd, Ed, a, b, h _ _ c, d⟩
theorem spL_imp {K : PySem.W.Frag} {n : Nat} {sp sp' : NSpec} (h : ∀ ds Q, sp' ds Q → sp ds Q) : ∀ vs H Q E, spL K n (nS sp') vs H Q E → spL K n (nS sp) vs H Q E := fun vs H Q E ⟨hl, a, b, ws, F, ds, Qd, Ed, x1, x2, x3, x4, c, d⟩ => ⟨hl, a, b, ws, F, ds, Qd, Ed, x1, x2, x3, x4, h _ _ c, d⟩
theorem Dd.imp {P : Program} {w : World} {K : PySem.W.Frag} {mg : Str → Option Value} {base : Heap} {x : Str} {j n : Nat} {sp sp' : NSpec} (F : Dd P w K mg base x j n sp) (h : ∀ ds Q, ds.length = n → sp' ds Q → sp ds Q) : Dd P w K mg base x j n sp' := by
  obtain ⟨f, fd, ps, G, a, b, c, d⟩ := F.ex
  exact ⟨f, fd, ps, G.imp fun vs H Q E ⟨hl, F, ds, Qd, Ed, q1, q2, q3, q4⟩ => ⟨hl, F, ds, Qd, Ed, q1, q2, h _ _ (by rw [← all2_len q2]; exact hl) q3, q4⟩, a, b, c, d⟩
theorem DdL.imp {P : Program} {w : World} {K : PySem.W.Frag} {mg : Str → Option Value} {base : Heap} {x : Str} {j n : Nat} {sp sp' : NSpec} (F : DdL P w K mg base x j n sp) (h : ∀ ds Q, ds.length + 1 = n → sp' ds Q → sp ds Q) : DdL P w K mg base x j n sp' := by
  obtain ⟨f, fd, ps, G, a, b, c, d⟩ := F.ex
  exact ⟨f, fd, ps, G.imp fun vs H Q E ⟨hl, a, b, ws, F, ds, Qd, Ed, q0, q1, q2, q3, q4, q5⟩ => ⟨hl, a, b, ws, F, ds, Qd, Ed, q0, q1, q2, q3, h _ _ (by
    rw [q0, List.length_cons, all2_len q3] at hl
    exact hl) q4, q5⟩, a, b, c, d⟩
section
variable {P : Program} {w : World} {K : PySem.W.Frag} {mg : Str → Option Value} {base : Heap} {k : Nat} {ι : Type} {X : ι → Cx} {E : XK} {e : Expr} {es : List Expr} {ff fk : FA} {x : Str} {p pos : Pos} {kws : List Keyword} {ks : List Str}
/-- f(e, ..) -/
theorem k_fn (φ : Fam P w K mg base k X) {j n : Nat} {sp : NSpec} (Df : Dd P w K mg base x j n sp) (ha : MA X E (e :: es) ff) (hj : j ≤ k := by decide) (hg : ∀ i, Gl (X i) x := by intro _; rfl) (hdb : (x == ("__debug__" : Str)) = false := by decide)
    (he : ∀ i, starEach (e :: es) (X i).env = (false, eval e (X i).env) :: starEach es (X i).env := by intro _; rfl) (hpl : ∀ i, (backTo pos (starEach es (X i).env)).any (·.1) = false := by intro _; rfl) : ME X E (.Call (.Name x p) (e :: es) [] pos) (dFn n sp ff) := by
  obtain ⟨f, fd, ps, G, hm, hk, hb, hl⟩ := Df.ex
  subst hl
  refine me_call (K := K) (sp := gFn ps.length sp) (fun i => ?_) φ.gd (fun i => (φ.rm i).mono hj) (fun i => by rw [φ.mg i]; exact hm) (fun i => by rw [φ.K i]; exact hk) (fun i => by rw [φ.K i]; exact hb) (fun ds Q h => h.1) ha φ.K hg hdb he hpl
  rw [φ.p i, φ.w i, φ.K i, φ.mg i, φ.b i]
  exact G.imp (spD_imp fun ds Q h => h.2)
/-- f(deal, e, ..) -/
theorem k_fnL (φ : Fam P w K mg base k X) (i : Nat) {x0 : Str} {p0 : Pos} {j n : Nat} {sp : NSpec} (Df : DdL P w K mg base x j n sp) (ha : MA X E es ff) (hj : j ≤ k := by decide) (hN : ∀ j, (X j).N[i]? = some x0 := by intro _; rfl) (hv : ∀ j, Vis (X j).env.scope x0 := by intro _; first | exact Or.inl rfl | exact Or.inr (Or.inl rfl) | exact Or.inr (Or.inr rfl)) (hg : ∀ i, Gl (X i) x := by intro _; rfl)
    (hd0 : (x0 == ("__debug__" : Str)) = false := by decide) (hcd0 : (x0 == ("__classdict__" : Str)) = false := by decide) (hdb : (x == ("__debug__" : Str)) = false := by decide)
    (he : ∀ i, starEach (.Name x0 p0 :: es) (X i).env = (false, eval (.Name x0 p0) (X i).env) :: starEach es (X i).env := by intro _; rfl) (hpl : ∀ i, (backTo pos (starEach es (X i).env)).any (·.1) = false := by intro _; rfl) :
    ME X E (.Call (.Name x p) (.Name x0 p0 :: es) [] pos) (dFnL i n sp ff) := by
  obtain ⟨f, fd, ps, G, hm, hk, hb, hl⟩ := Df.ex
  subst hl
  refine me_callL (K := K) i (sp := fun ds Q => ds.length + 1 = ps.length ∧ sp ds Q) (fun i => ?_) φ.gd (fun i => (φ.rm i).mono hj) (fun i => by rw [φ.mg i]; exact hm) (fun i => by rw [φ.K i]; exact hk) (fun i => by rw [φ.K i]; exact hb) (fun ds Q h => h.1) ha φ.K hN hv hg hd0 hcd0 hdb he hpl
  rw [φ.p i, φ.w i, φ.K i, φ.mg i, φ.b i]
  exact G.imp (spL_imp fun ds Q h => h.2)
end
end DL

/-! DL, part p: classes with __init__; fields; calls by keywords; the deal. -/
namespace DL
open PySem PySem.Spec PyProof.Rows L2

abbrev ISpec := List D → (List (Str × D) → Prop) → Prop
/-- __init__: the instance first -/
def spI (K : PySem.W.Frag) (C : Addr) (n : Nat) (sp : ISpec) : Sp := fun vs H Q E => vs.length = n ∧ ∃ (a dx : Addr) (ws : List V) (F : Hp) (ds : List D) (Qd : List (Str × D) → Prop), vs = .ref a :: ws ∧ Same F H ∧ F a = none ∧ H a = some (.ins C dx []) ∧ All2 (Rep K F) ws ds ∧ sp ds Qd ∧
  (∀ F' H' dx' gs fs, FStep (fun b => b = a) F H F' H' → F' a = none → H' a = some (.ins C dx' gs) → gs.map (·.1) = fs.map (·.1) → RepL K F' (gs.map (·.2)) (fs.map (·.2)) → Qd fs → Q .non H')
def initI (n : Nat) (C : Addr) (ds : List D) : DSt := ⟨.ins C [] :: (ds.map Sl.val ++ List.replicate (n - 1 - ds.length) .no), none⟩
def endsI (C : Addr) (Q : List (Str × D) → Prop) : DEnds := { nx := fun st => ∃ fs, st.sl[0]? = some (.ins C fs) ∧ Q fs, rt := fun _ => False, ex := fun _ => False }
section
variable {P : Program} {w : World} {K : PySem.W.Frag} {mg : Str → Option Value} {base : Heap} {k : Nat} {f C : Addr} {fd : FuncData} {ps N : List Str} {x qual : Str} {st : Stmt}
theorem initI_lk {n : Nat} {ds : List D} {i : Nat} {z : Sl} (e : (initI n C ds).sl[i]? = some z) : (i = 0 ∧ z = .ins C []) ∨ z = .no ∨ ∃ d j, i = j + 1 ∧ ds[j]? = some d ∧ z = .val d := by
  cases i with
  | zero =>
    cases e
    exact .inl ⟨rfl, rfl⟩
  | succ i =>
    have e' : (ds.map Sl.val ++ List.replicate (n - 1 - ds.length) Sl.no)[i]? = some z := e
    by_cases hi : i < ds.length
    · rw [List.getElem?_append_left (by rw [List.length_map]; exact hi), List.getElem?_map, List.getElem?_eq_getElem hi] at e'
      cases e'
      exact .inr (.inr ⟨_, i, rfl, List.getElem?_eq_getElem hi, rfl⟩)
    · rw [List.getElem?_append_right (by rw [List.length_map]; omega), List.getElem?_replicate] at e'
      split at e'
      · cases e'
        exact .inr (.inl rfl)
      · cases e'
theorem Fun.okI {sp : ISpec} (F : Fun K x qual st f fd) (S : FnScope N ps (defScope st))
    (body : ∀ (cdv : Value) (A : Around) (outer : List Env) (s : Shared) (H : Hp) (E : XK), A.guards = some [] → Room k (A.deeper (envOfC qual (defScope st) s.heap.objs.size f cdv)) →
      ∃ fs, MSs (fun _ : Unit => (cxOf CX0 P w K mg base N qual (defScope st) f cdv A outer s H E).nox) E0 (defBody st) fs ∧ ∀ ds Qd, ds.length + 1 = ps.length → sp ds Qd → fs (endsI C Qd) (initI N.length C ds)) :
    FnG P w K mg base CX0 (k + 1) f fd ps (spI K C ps.length sp) := by
  refine Fun.okG F S (fun vs H Q E h => h.1) fun cdv A outer s H vs Q E hg hr h => ?_
  obtain ⟨hl, a, dx, ws, F1, ds, Qd, rfl, sm, fa, ha, r, hsp, hQ⟩ := h
  obtain ⟨fs, ⟨t, ht⟩, hf⟩ := body cdv A outer s H E hg hr
  rw [List.length_cons] at hl
  have hpl : ps.length ≤ N.length := by have := congrArg List.length S.pre; rw [List.length_take] at this; omega
  have len := all2_len r
  have so : SOk K H F1 H (start N (.ref a :: ws)) (initI N.length C ds) := by
    refine ⟨sm, trivial, ?_, fun i z e => ?_, fun i j y z p hij e1 e2 o1 o2 q1 q2 => ?_⟩
    · show (start N (.ref a :: ws)).length = (Sl.ins C [] :: (ds.map Sl.val ++ List.replicate (N.length - 1 - ds.length) Sl.no)).length
      unfold L2.start
      simp only [List.length_append, List.length_cons, List.length_map, List.length_replicate]
      omega
    · rcases initI_lk e with ⟨h0, h⟩ | h | ⟨d, j, hj, ed, h⟩
      · subst h0 h
        exact ⟨a, start_get rfl, fa, fun z => z, dx, [], ha, rfl, .nil⟩
      · subst h
        trivial
      · subst hj h
        obtain ⟨v, ev, rv⟩ := all2_get r ed
        exact ⟨v, start_get (show (V.ref a :: ws)[j + 1]? = some v from ev), rv⟩
    · rcases initI_lk e1 with ⟨h0, h⟩ | h | ⟨_, _, _, _, h⟩
      · rcases initI_lk e2 with ⟨h0', h'⟩ | h' | ⟨_, _, _, _, h'⟩
        · exact hij (h0.trans h0'.symm)
        · subst h'; cases o2
        · subst h'; cases o2
      · subst h; cases o1
      · subst h; cases o1
  refine ⟨t, (ht ()).1.nox, ?_⟩
  refine (ht ()).2 ⟨fun b => b = a, none, F1, H⟩ F1 H (start N (.ref a :: ws)) (initI N.length C ds) _ (endsI C Qd) ⟨so, FStep.refl sm, .inl rfl, fun b z => z.elim, fun i C gs p e q => ?_⟩ (fun _ _ _ _ _ _ _ _ z => z.elim) (hf ds Qd (by rw [← len]; exact hl) hsp) ⟨?_, ?_, ?_, ?_, fun _ _ _ _ _ _ _ _ z => z.elim⟩
  · rcases initI_lk e with ⟨h0, h⟩ | h | ⟨_, _, _, _, h⟩
    · subst h0
      have z : (start N (V.ref a :: ws))[0]? = some (some (.ref a)) := start_get rfl
      rw [z] at q
      cases q
      rfl
    · cases h
    · cases h
  · intro F' H' σ' st' o ⟨fs, e, q⟩
    obtain ⟨p, ep, fp, _, dx', gs, hp, hm, hr⟩ := o.so.sl 0 _ e
    have hpa : p = a := o.insc 0 _ _ _ e ep
    subst hpa
    exact hQ F' H' dx' gs fs o.fs fp hp hm hr q
  · intro F' H' σ' st' o q
    exact q.elim
  · intro F' H' σ' st' o q
    exact q.elim
  · intro F' H' v d s1 dk r1 q
    exact q.elim
end
/-! ### a field is stored -/
def putD (n : Str) (d : D) : List (Str × D) → List (Str × D)
  | [] => [(n, d)]
  | (g, x) :: r => if g = n then (g, d) :: r else (g, x) :: putD n d r
theorem put_rep {K : PySem.W.Frag} {F : Hp} {n : Str} {v : V} {d : D} (r : Rep K F v d) : ∀ {gs : List (Str × V)} {fs : List (Str × D)}, gs.map (·.1) = fs.map (·.1) → RepL K F (gs.map (·.2)) (fs.map (·.2)) →
    (putF n v gs).map (·.1) = (putD n d fs).map (·.1) ∧ RepL K F ((putF n v gs).map (·.2)) ((putD n d fs).map (·.2))
  | [], [], _, _ => ⟨rfl, .cons r .nil⟩
  | [], _ :: _, e, _ => by cases e
  | _ :: _, [], e, _ => by cases e
  | (x, u) :: gs, (y, z) :: fs, e, h => by
    rw [List.map_cons, List.map_cons] at e
    injection e with e1 e2
    have e1' : x = y := e1
    subst e1'
    cases h with
    | cons r1 r2 =>
      unfold putF putD
      by_cases hx : x = n
      · rw [if_pos hx, if_pos hx]
        exact ⟨by rw [List.map_cons, List.map_cons, e2], .cons r r2⟩
      · rw [if_neg hx, if_neg hx]
        obtain ⟨a, b⟩ := put_rep (n := n) r e2 r2
        exact ⟨by rw [List.map_cons, List.map_cons, a], .cons r1 b⟩
section
variable {K : PySem.W.Frag} {φ : Fm} {F H : Hp} {σ : L2.St} {st : DSt}
theorem FOk.writeI {p C dx : Addr} {fs fs' : List (Str × D)} {gs' : List (Str × V)} {i : Nat} (h : FOk K φ F H σ st) (e0 : st.sl[i]? = some (.ins C fs)) (q0 : σ[i]? = some (some (.ref p))) (em : gs'.map (·.1) = fs'.map (·.1)) (er : RepL K F (gs'.map (·.2)) (fs'.map (·.2))) :
    FOk K φ F (upd H p (.ins C dx gs')) σ (st.set i (.ins C fs')) := by
  obtain ⟨p', e1, fp, nd, r0⟩ := h.so.sl i _ e0
  rw [q0] at e1
  cases e1
  have hi : i < st.sl.length := (List.getElem?_eq_some_iff.mp e0).1
  have lk : ∀ (j : Nat) (s : Sl), (st.sl.set i (.ins C fs'))[j]? = some s → (i = j ∧ s = .ins C fs') ∨ (i ≠ j ∧ st.sl[j]? = some s) := fun j s e => by
    by_cases hj : i = j
    · subst hj
      rw [List.getElem?_set_self hi] at e
      cases e
      exact .inl ⟨rfl, rfl⟩
    · rw [List.getElem?_set_ne hj] at e
      exact .inr ⟨hj, e⟩
  have dlm : DlOk st.dl F (upd H p (.ins C dx gs')) := h.so.dl.move (fun b hb => h.so.dl.off hb) fun b u hb e => by
    have hne : b ≠ p := fun z => by
      subst z
      exact nd hb
    rw [upd_ne hne]
    exact e
  have fs0 := h.fs.write (o := .ins C dx gs') fp (.inl (h.insc i _ _ _ e0 q0))
  refine ⟨⟨fs0.fh, dlm, by show σ.length = (st.sl.set i _).length; rw [List.length_set]; exact h.so.len, fun j s e => ?_, fun j l s t q hjl e1 e2 o1 o2 q1 q2 => ?_⟩, fs0, h.dlk, h.dlc, fun j C gs q e eq => ?_⟩
  · rcases lk j s e with ⟨e1, e2⟩ | ⟨hj, e⟩
    · subst e1 e2
      exact ⟨p, q0, fp, nd, dx, gs', upd_same, em, er⟩
    · have old := h.so.sl j s e
      have ap : ∀ q, s.own = true → σ[j]? = some (some (.ref q)) → q ≠ p := fun q os eq z => by
        subst z
        exact h.so.sep i j _ s q hj e0 e rfl os q0 eq
      show SlOk K φ.H0 F (upd H p _) st.dl (σ[j]?) s
      cases s with
      | mu d1 =>
        obtain ⟨q, eq, ow1, r1⟩ := old
        have hne := ap q rfl eq
        refine ⟨q, eq, ow1, ?_⟩
        cases d1 with
        | lst ds => obtain ⟨vs, z, w⟩ := r1; exact ⟨vs, by rw [upd_ne hne]; exact z, w⟩
        | dK ds => obtain ⟨vs, z, w⟩ := r1; exact ⟨vs, by rw [upd_ne hne]; exact z, w⟩
        | dT ds => obtain ⟨vs, z, w⟩ := r1; exact ⟨vs, by rw [upd_ne hne]; exact z, w⟩
        | _ => exact r1.elim
      | ins C gs =>
        obtain ⟨q, eq, f1, nd, dx, gs', z, w⟩ := old
        have hne := ap q rfl eq
        exact ⟨q, eq, f1, nd, dx, gs', by rw [upd_ne hne]; exact z, w⟩
      | no => trivial
      | val d1 => exact old
      | deal => exact old
  · have b1 : ∃ s', st.sl[j]? = some s' ∧ s'.own = true := by
      rcases lk j s e1 with ⟨a1, a2⟩ | ⟨_, b⟩
      · subst a1
        exact ⟨_, e0, rfl⟩
      · exact ⟨s, b, o1⟩
    have b2 : ∃ s', st.sl[l]? = some s' ∧ s'.own = true := by
      rcases lk l t e2 with ⟨a1, a2⟩ | ⟨_, b⟩
      · subst a1
        exact ⟨_, e0, rfl⟩
      · exact ⟨t, b, o2⟩
    obtain ⟨s1, x1, y1⟩ := b1
    obtain ⟨s2, x2, y2⟩ := b2
    exact h.so.sep j l s1 s2 q hjl x1 x2 y1 y2 q1 q2
  · rcases lk j _ e with ⟨e1, e2⟩ | ⟨_, e⟩
    · subst e1
      rw [q0] at eq
      cases eq
      exact h.insc _ _ _ _ e0 q0
    · exact h.insc j C gs q e eq
end
section
variable {P : Program} {w : World} {K : PySem.W.Frag} {mg : Str → Option Value} {base : Heap} {k : Nat} {ι : Type} {X : ι → Cx} {E : XK} {e o : Expr} {es : List Expr} {f : FE} {ff fk : FA} {x : Str} {p pos pos' : Pos} {kws : List Keyword} {ks : List Str} {C : Addr}
/-- self.n = e -/
def sFldI (C : Addr) (i : Nat) (n : Str) (f : FE) : FS := fun D st => f st (fun d => match st.sl[i]? with
  | some (.ins C' fs) => C' = C ∧ fs.length < 1000 ∧ D.nx (st.set i (.ins C (putD n d fs)))
  | _ => False) D.ex
theorem ms_fldI (φ : Fam P w K mg base k X) (i : Nat) {n : Str} (hc : Cls K C) (hn : NoAttr K C n) (he : ME X E e f) (hN : ∀ j, (X j).N[i]? = some x := by intro _; rfl) (hv : ∀ j, Vis (X j).env.scope x := by intro _; first | exact Or.inl rfl | exact Or.inr (Or.inl rfl) | exact Or.inr (Or.inr rfl)) (hd : (x == ("__debug__" : Str)) = false := by decide)
    (hcd : (x == ("__classdict__" : Str)) = false := by decide) (hs : ∀ j, swapsWith e (some (.Attribute (.Name x p) n pos')) pos.line (X j).env = pure false := by intro _; rfl) :
    MS X E (.Assign [.Attribute (.Name x p) n pos'] e pos) (sFldI C i n f) := by
  obtain ⟨t, h⟩ := he
  refine ⟨sFld K (tVar i) t n, fun j => ⟨by rw [← φ.K j]; exact ps_fld (pe_var (hN j) (hv j) hd hcd) (h j).1 (hs j), fun φ' F H σ st D Dd o x hh b => ?_⟩⟩
  have eK := φ.K j
  refine (h j).2 φ'.H0 F H σ st _ _ _ o.so (x.xo o) hh fun F1 H1 v d s1 r1 h1 => ?_
  have o1 := o.step s1
  cases e0 : st.sl[i]? with
  | none => rw [e0] at h1; exact h1.elim
  | some sl =>
    rw [e0] at h1
    cases sl with
    | ins C' fs =>
      obtain ⟨rfl, hl, h1⟩ := h1
      obtain ⟨a, ea, fa, nd, dx, gs, ha, hm, hr⟩ := o1.so.sl i _ e0
      obtain ⟨p1, p2⟩ := put_rep (n := n) r1 hm hr
      have gl : gs.length = fs.length := by have := congrArg List.length hm; rwa [List.length_map, List.length_map] at this
      exact ⟨_, ea, a, _, dx, gs, rfl, ha, hc, hn, by omega, b.nx F1 _ _ _ (o1.writeI e0 ea p1 p2) h1⟩
    | _ => exact h1.elim
theorem k_fld (φ : Fam P w K mg base k X) {n : Str} (hc : Cls K C) (hn : NoAttr K C n) (h : ME X E e f) (hb : ∀ i, attributeBase e n (X i).env (eval e (X i).env) = eval e (X i).env := by intro _; rfl) : ME X E (.Attribute e n pos) (dFldC C n f) := me_fld h hc hn φ.K hb
/-! ### making -/
structure DdI (P : Program) (w : World) (K : PySem.W.Frag) (mg : Str → Option Value) (base : Heap) (x : Str) (C : Addr) (j n : Nat) (sp : ISpec) : Prop where
  ex : ∃ f fd ps, Mk K C f ∧ FnG P w K mg base CX0 j f fd ps (spI K C n sp) ∧ mg x = some (.ref C) ∧ Binds K fd ps [] ∧ ps.length = n
def dMake (C : Addr) (n : Nat) (sp : ISpec) (ff : FA) : FE := fun st Q E => ff st (fun ds => ds.length + 1 = n ∧ sp ds fun fs => Q (.obj C fs)) E
theorem k_make (φ : Fam P w K mg base k X) {j n : Nat} {sp : ISpec} (Df : DdI P w K mg base x C j n sp) (ha : MA X E (e :: es) ff) (hj : j + 1 ≤ k := by decide) (hg : ∀ i, Gl (X i) x := by intro _; rfl) (hdb : (x == ("__debug__" : Str)) = false := by decide)
    (he : ∀ i, starEach (e :: es) (X i).env = (false, eval e (X i).env) :: starEach es (X i).env := by intro _; rfl) (hpl : ∀ i, (backTo pos (starEach es (X i).env)).any (·.1) = false := by intro _; rfl) : ME X E (.Call (.Name x p) (e :: es) [] pos) (dMake C n sp ff) := by
  obtain ⟨f, fd, ps, M, G, hm, hb, hl⟩ := Df.ex
  obtain ⟨t, h⟩ := ha
  refine ⟨tMake C (spI K C n sp) [] E0 t, fun i => ⟨pe_makeG (CX := CX0) (by rw [φ.K i]; exact M) (by rw [φ.p i, φ.w i, φ.K i, φ.mg i, φ.b i]; exact G) (φ.gd i) ((φ.rm i).mono hj) (by rw [φ.mg i]; exact hm) (by rw [φ.K i]; exact hb) pass0 (h i).1 (hg i) hdb (he i) (hpl i), ?_⟩⟩
  have eK := φ.K i
  intro H0 F H σ st Q Qd Ed s x hh k
  refine (h i).2 H0 F H σ st _ _ Ed s x hh fun F1 H1 vs ds s1 r1 h1 => ?_
  have k1 := s.step s1
  obtain ⟨hn, h1⟩ := h1
  intro y dx ny ndx hne
  have hyd : dx ≠ y := hne
  have hy1 : upd H1 dx (.own y) y = none := by rw [upd_ne (Ne.symm hyd)]; exact ny
  have sm1 : Same H1 (upd (upd H1 dx (.own y)) y (.ins C dx [])) := (Same.upd_new ndx).trans (Same.upd_new hy1)
  refine ⟨by rw [List.length_cons, List.append_nil, all2_len r1]; exact hn, y, dx, vs, F1, ds, _, by rw [List.append_nil], k1.fh.trans sm1, Same.none k1.fh ny, upd_same, by rw [← eK]; exact r1, h1, fun F' H' dx' gs fs s2 fa ha hm hr q => ⟨rfl, ?_⟩⟩
  have bk : ∀ b, isDl st.dl b → b ≠ y := fun b hb z => by
    subst z
    obtain ⟨u, w⟩ := k1.dl.dom hb
    rw [ny] at w
    cases w
  have kp : ∀ b o, H1 b = some o → H' b = some o := fun b o e => s2.keep b o (sm1 b o e) (fun z => by
    subst z
    rw [ny] at e
    cases e)
  have sf : Same F' (upd F' y (.ins C dx' gs)) := Same.upd_new fa
  have s3 : Step st.dl F1 H1 (upd F' y (.ins C dx' gs)) H' := by
    refine ⟨⟨s2.ff.trans sf, fun b u e => ?_, fun b o e _ => kp b o e, fun b o e => ?_, fun b e => ?_⟩, k1.dl.move (fun b hb => ?_) fun b o _ e => kp b o e⟩
    · by_cases hb : b = y
      · subst hb
        rw [upd_same] at e
        cases e
        exact ha
      · rw [upd_ne hb] at e
        exact s2.fh b u e
    · by_cases hb : b = y
      · subst hb
        exact .inr ny
      · rw [upd_ne hb] at e
        rcases s2.new b o e with z | z
        · exact .inl z
        · exact .inr (upd_none (upd_none z))
    · exact upd_none (upd_none (s2.dom b e))
    · have hby := bk b hb
      rw [upd_ne hby]
      obtain ⟨u, w⟩ := k1.dl.dom hb
      exact s2.off (k1.dl.off hb) (sm1 b u w)
  exact k _ H' _ (.obj C fs) (s1.trans s3) (.obj upd_same hm (by rw [eK]; exact hr.same sf)) q
/-! ### calls by keywords -/
structure DdK (P : Program) (w : World) (K : PySem.W.Frag) (mg : Str → Option Value) (base : Heap) (x : Str) (j n : Nat) (ks : List Str) (gD : List D → List D → List D) (sp : NSpec) : Prop where
  ex : ∃ f fd ps g gV, FnG P w K mg base CX0 j f fd ps (spD K n (nS sp)) ∧ mg x = some (.ref f) ∧ PySem.W.keepIn K (.ref f) = true ∧ KBinds K fd ps ks g gV ∧ KPerm gV gD ∧ ps.length = n
def dFnK (n : Nat) (sp : NSpec) (gD : List D → List D → List D) (ff fk : FA) : FE := fun st Q E => ff st (fun ds => fk st (fun es => (gD ds es).length = n ∧ sp (gD ds es) Q) E) E
theorem k_fnK0 (φ : Fam P w K mg base k X) {j n : Nat} {sp : NSpec} {gD : List D → List D → List D} (Df : DdK P w K mg base x j n ks gD sp) (hw : MK X E kws fk) (hj : j ≤ k := by decide) (hg : ∀ i, Gl (X i) x := by intro _; rfl)
    (hall : ∀ i, (backToKw pos (keywordEach kws (X i).env)).all (·.1.isSome) = true := by intro _; rfl) (hks : ∀ i, (backToKw pos (keywordEach kws (X i).env)).filterMap (·.1) = ks := by intro _; rfl) (hdb : (x == ("__debug__" : Str)) = false := by decide)
    (hpl : ∀ i, ((backTo pos (starEach [] (X i).env)).any (·.1) || (backToKw pos (keywordEach kws (X i).env)).any (·.1.isNone)) = false := by intro _; rfl) :
    ME X E (.Call (.Name x p) [] kws pos) (dFnK n sp gD dNil fk) := by
  obtain ⟨f, fd, ps, g, gV, G, hm, hk, hb, kp, hl⟩ := Df.ex
  subst hl
  refine me_callK0 (K := K) (sp := gFn ps.length sp) kp (fun i => ?_) φ.gd (fun i => (φ.rm i).mono hj) (fun i => by rw [φ.mg i]; exact hm) (fun i => by rw [φ.K i]; exact hk) (fun i => by rw [φ.K i]; exact hb) (fun ds Q h => h.1) hw φ.K hg hall hks hdb hpl
  rw [φ.p i, φ.w i, φ.K i, φ.mg i, φ.b i]
  exact G.imp (spD_imp fun ds Q h => h.2)
theorem k_fnK (φ : Fam P w K mg base k X) {j n : Nat} {sp : NSpec} {gD : List D → List D → List D} (Df : DdK P w K mg base x j n ks gD sp) (ha : MA X E (e :: es) ff) (hw : MK X E kws fk) (hj : j ≤ k := by decide) (hg : ∀ i, Gl (X i) x := by intro _; rfl)
    (hall : ∀ i, (backToKw pos (keywordEach kws (X i).env)).all (·.1.isSome) = true := by intro _; rfl) (hks : ∀ i, (backToKw pos (keywordEach kws (X i).env)).filterMap (·.1) = ks := by intro _; rfl) (hdb : (x == ("__debug__" : Str)) = false := by decide)
    (he : ∀ i, starEach (e :: es) (X i).env = (false, eval e (X i).env) :: starEach es (X i).env := by intro _; rfl) (hpl : ∀ i, ((backTo pos (starEach (e :: es) (X i).env)).any (·.1) || (backToKw pos (keywordEach kws (X i).env)).any (·.1.isNone)) = false := by intro _; rfl) :
    ME X E (.Call (.Name x p) (e :: es) kws pos) (dFnK n sp gD ff fk) := by
  obtain ⟨f, fd, ps, g, gV, G, hm, hk, hb, kp, hl⟩ := Df.ex
  subst hl
  refine me_callK (K := K) (sp := gFn ps.length sp) kp (fun i => ?_) φ.gd (fun i => (φ.rm i).mono hj) (fun i => by rw [φ.mg i]; exact hm) (fun i => by rw [φ.K i]; exact hk) (fun i => by rw [φ.K i]; exact hb) (fun ds Q h => h.1) ha hw φ.K hg hall hks hdb he hpl
  rw [φ.p i, φ.w i, φ.K i, φ.mg i, φ.b i]
  exact G.imp (spD_imp fun ds Q h => h.2)
end
theorem Fun.kbinds {K : PySem.W.Frag} {x qual : Str} {st : Stmt} {f : Addr} {fd : FuncData} {ps ks : List Str} {g : List Value → List Value → List Value} {gV : List V → List V → List V} (F : Fun K x qual st f fd) (rel : ∀ {vs : List V} {us : List Value} {zs : List V} {ws : List Value}, Vals vs us → Vals zs ws → Vals (gV vs zs) (g us ws))
    (h : ∀ (kV doc pm : Value) (an : Option Addr) (cdv ct : Value) (us ws : List Value), (g us ws).length = ps.length → bindArgs (PySem.W.fnOf x qual (defArgs st) (defBody st) (defScope st) .none kV doc pm an cdv ct) ⟨us, ks.zip ws⟩ = pure (ps.zip (g us ws))) : KBinds K fd ps ks g gV := by
  obtain ⟨oc, od, kV, doc, pm, an, cdv, ct, osl, rfl, lk, hcd⟩ := F.ex
  exact ⟨fun s us ws _ hl => .of_eq (h kV doc pm an cdv ct us ws hl), rel⟩
/-! ### the deal is made -/
structure DdM (P : Program) (w : World) (K : PySem.W.Frag) (mg : Str → Option Value) (base : Heap) (x : Str) (j n : Nat) (sp : List D → Prop → Prop) : Prop where
  ex : ∃ f fd ps, FnG P w K mg base CX0 j f fd ps (spM K n sp) ∧ mg x = some (.ref f) ∧ PySem.W.keepIn K (.ref f) = true ∧ Binds K fd ps [] ∧ ps.length = n
/-- x = f(e, ..), the deal -/
def sMk (i n : Nat) (sp : List D → Prop → Prop) (ff : FA) : FS := fun D st => st.dl = none ∧ ff st (fun ds => ds.length = n ∧ sp ds (∀ a b, D.nx ⟨st.sl.set i .deal, some (a, b)⟩)) D.ex
section
variable {P : Program} {w : World} {K : PySem.W.Frag} {mg : Str → Option Value} {base : Heap} {k : Nat} {ι : Type} {X : ι → Cx} {E : XK} {e o : Expr} {es : List Expr} {f : FE} {ff fk : FA} {x y : Str} {p pos pos' pos2 : Pos}
theorem ms_mk (φ : Fam P w K mg base k X) (i : Nat) {j n : Nat} {sp : List D → Prop → Prop} (Df : DdM P w K mg base x j n sp) (ha : MA X E (e :: es) ff) (hj : j ≤ k := by decide) (hg : ∀ i, Gl (X i) x := by intro _; rfl) (hdb : (x == ("__debug__" : Str)) = false := by decide)
    (he : ∀ i, starEach (e :: es) (X i).env = (false, eval e (X i).env) :: starEach es (X i).env := by intro _; rfl) (hpl : ∀ i, (backTo pos2 (starEach es (X i).env)).any (·.1) = false := by intro _; rfl)
    (hi : ∀ j, (X j).N[i]? = some y := by intro _; rfl) (hx : ∀ j, Loc (X j).env.scope y := by intro _; first | exact Or.inl rfl | exact Or.inr rfl)
    (hs : ∀ j, swapsWith (.Call (.Name x p) (e :: es) [] pos2) (some (.Name y pos')) pos.line (X j).env = pure false := by intro _; rfl) (hf : ∀ j, (X j).fn y = true ∨ (X j).env.scope.names.lookup y = some .local := by intro _; first | exact .inl rfl | exact .inr rfl) :
    MS X E (.Assign [.Name y pos'] (.Call (.Name x p) (e :: es) [] pos2) pos) (sMk i n sp ff) := by
  obtain ⟨f, fd, ps, G, hm, hk, hb, hl⟩ := Df.ex
  subst hl
  obtain ⟨t, h⟩ := ha
  refine ⟨tAsg (tCall (spM K ps.length sp) [] E0 t) (gName i), fun q => ⟨ps_set (φ.nd q) (hi q) (hx q) (pe_callG (CX := CX0) (by rw [φ.p q, φ.w q, φ.K q, φ.mg q, φ.b q]; exact G) (φ.gd q) ((φ.rm q).mono hj) (by rw [φ.mg q]; exact hm) (by rw [φ.K q]; exact hk) (by rw [φ.K q]; exact hb) pass0 (h q).1 (hg q) hdb (he q) (hpl q)) (hs q) (hf q), fun φ' F H σ st D Dd o x hh b => ?_⟩⟩
  have eK := φ.K q
  obtain ⟨hdl, hh⟩ := hh
  refine (h q).2 φ'.H0 F H σ st _ _ _ o.so (x.xo o) hh fun F1 H1 vs ds s1 r1 h1 => ?_
  have o1 := o.step s1
  rw [eK] at r1
  refine ⟨by rw [List.append_nil, all2_len r1]; exact h1.1, F1, ds, _, o1.so.fh, by rw [List.append_nil]; exact r1, h1.2, fun F2 H2 a c s2 na nc dk hn => ?_⟩
  have s2' : Step st.dl F1 H1 F2 H2 := by rw [hdl]; exact s2
  have o2 := o1.step s2'
  have fr : ∀ z, isDl (some (a, c)) z → H1 z = none := fun z hz => by
    rcases hz with hz | hz
    · rw [hz]; exact na
    · rw [hz]; exact nc
  have lk : ∀ (j : Nat) (s : Sl), (st.sl.set i Sl.deal)[j]? = some s → (i = j ∧ s = .deal ∧ i < st.sl.length) ∨ (i ≠ j ∧ st.sl[j]? = some s) := fun j s e => by
    by_cases hj : i = j
    · subst hj
      by_cases hi : i < st.sl.length
      · rw [List.getElem?_set_self hi] at e
        cases e
        exact .inl ⟨rfl, rfl, hi⟩
      · rw [List.getElem?_eq_none (by rw [List.length_set]; omega)] at e
        cases e
    · rw [List.getElem?_set_ne hj] at e
      exact .inr ⟨hj, e⟩
  refine b.nx F2 H2 _ ⟨st.sl.set i .deal, some (a, c)⟩ ⟨⟨o2.so.fh, dk, ?_, fun j s e => ?_, fun j l s t p hjl e1 e2 y1 y2 q1 q2 => ?_⟩, o2.fs, ?_, fun z hz => .inr (o1.fs.dom z (fr z hz)), fun j C fs p e eq => ?_⟩ (hn a c)
  · show (σ.set i _).length = (st.sl.set i _).length
    rw [List.length_set, List.length_set]
    exact o2.so.len
  · rcases lk j s e with ⟨e1, e2, hi⟩ | ⟨hj, e⟩
    · subst e1 e2
      have hi' : i < σ.length := by rw [o2.so.len]; exact hi
      exact ⟨a, c, rfl, by rw [List.getElem?_set_self hi']⟩
    · show SlOk _ _ F2 H2 (some (a, c)) ((σ.set i _)[j]?) s
      rw [List.getElem?_set_ne hj]
      have old := o2.so.sl j s e
      have old1 := o1.so.sl j s e
      cases s with
      | no => trivial
      | val d => exact old
      | mu d =>
        obtain ⟨p', e1, ow, r⟩ := old
        obtain ⟨p1, e1', ow1, r1'⟩ := old1
        rw [e1] at e1'
        cases e1'
        obtain ⟨u, hu⟩ := r1'.dom
        exact ⟨p', e1, ⟨ow.f, ow.h0, fun z => by rw [fr _ z] at hu; cases hu⟩, r⟩
      | deal =>
        obtain ⟨a', b', z, _⟩ := old
        rw [hdl] at z
        cases z
      | ins C fs =>
        obtain ⟨p', e1, f1, nd, r⟩ := old
        obtain ⟨p1, e1', f1', nd', dx, gs, hu, _⟩ := old1
        rw [e1] at e1'
        cases e1'
        exact ⟨p', e1, f1, (fun z => by rw [fr _ z] at hu; cases hu), r⟩
  · rcases lk j s e1 with ⟨a1, a2, _⟩ | ⟨hj, b1⟩
    · subst a2; cases y1
    · rcases lk l t e2 with ⟨a3, a4, _⟩ | ⟨hl, b2⟩
      · subst a4; cases y2
      · rw [List.getElem?_set_ne hj] at q1
        rw [List.getElem?_set_ne hl] at q2
        exact o2.so.sep j l s t p hjl b1 b2 y1 y2 q1 q2
  · rcases o2.dlk with z | z
    · exact .inr (by rw [← z]; exact hdl)
    · exact .inr z
  · rcases lk j _ e with ⟨_, e2, _⟩ | ⟨hj, e⟩
    · cases e2
    · rw [List.getElem?_set_ne hj] at eq
      exact o2.insc j C fs p e eq
end
end DL

/-! DL, part q: a law's end, from a promise that holds where no display is under way. -/
namespace DL
open PySem PySem.Spec PyProof.Rows L2
/-- the law called as the judge calls it, over a heap H in which at most the script stands -/
theorem end_core {P : Program} {w : World} {K : PySem.W.Frag} {mg mb : Str → Option Value} {k : Nat} {fa a : Addr} {fd : FuncData} {x : Str} {sp : Sp} {s : Shared} {H : Hp}
    (KX : K.In s.heap) (hns : s.heap.Ns mainGlobals mg) (hb : s.heap.Ns builtinsNs mb) (hbb : ∀ x : Str, x ≠ "__name__" → mb x = bootBuiltins x) (hlim : s.heap.NoLimit) (hg : s.gens = #[]) (hr : Room k callerA)
    (F : ∀ base : Heap, K.In base → base.Ns mainGlobals mg → FnG P w K mg base CX0 k fa fd [x] sp) (hbind : ∀ (s : Shared) (u : Value), BindsTo s fd ⟨[u], []⟩ [(x, u)])
    (hsp : sp [.ref a] H (fun v _ => v = .bl true) fun _ _ _ => False) (hO : Only H) (hok : HOk P w H s.heap)
    (one : ∀ b o, s.heap.get? b = some o → H b ≠ none → K.lookup b = none ∧ ∀ es ep, o.data ≠ .dict es ep) :
    codeAny (model P w) callerA (.call (.ref fa) ⟨[.ref a], []⟩) (fun r s' => r = .ok (.ret (.bool true)) ∧ OldK s.heap s'.heap ∧ s'.os = s.os ∧ AllBare s'.gens) s := by
  have free : ∀ {b : Addr} {o : Obj}, s.heap.get? b = some o → (∃ o, K.lookup b = some o) ∨ (∃ es ep, o.data = .dict es ep) → H b = none := fun {b o} e h => by
    refine Classical.byContradiction fun z => ?_
    obtain ⟨z1, z2⟩ := one b o e z
    rcases h with ⟨u, h⟩ | ⟨es, ep, h⟩
    · rw [z1] at h; cases h
    · exact z2 es ep h
  have nsK : ∀ {b : Addr} {m : Str → Option Value}, s.heap.Ns b m → (hidT s.heap H).Ns b m := fun {b m} ⟨o, es, ep, e, d, r⟩ => ⟨o, es, ep, hidT_get e (free e (.inr ⟨es, ep, d⟩)), d, r⟩
  have kb : K.In (hidT s.heap H) := fun b o e => hidT_get (KX b o e) (free (KX b o e) (.inl ⟨o, e⟩))
  obtain ⟨mc, l1, l2⟩ := hlim
  have e0 : Env0 P w K mg (hidT s.heap H) callerA [] s H := ⟨rfl, ⟨kb, nsK hns, ⟨mb, nsK hb, hbb⟩, mc, nsK l1, l2⟩, fun b o e => of_hidT e, Nat.le_of_eq (hidT_size _ _), trivial, (fun b hb => nomatch hb), hok, AllBare.of_eq hg⟩
  have run := (F _ kb (nsK hns)).go callerA [] s H ⟨[.ref a], []⟩ [.ref a] [.ref a] _ _ rfl hr e0 (hbind s (.ref a)) (.cons rfl .nil) hsp
  refine codeAny_mono run fun r s' h => ?_
  match r, h with
  | .error e, h => exact (False.elim h)
  | .ok (.next), h => exact (False.elim h)
  | .ok (.brk), h => exact (False.elim h)
  | .ok (.cont), h => exact (False.elim h)
  | .ok (.ret u), h =>
    obtain ⟨v, H', os, bare, un, hok', r', q⟩ := h
    have ev : v = .bl true := q
    rw [ev] at r'
    obtain rfl : u = Value.bool true := r'
    refine ⟨rfl, OldK.of_keep fun b o e => ?_, os, bare⟩
    rcases hO b with z | ⟨ob, xs, z⟩
    · exact un.keep b o e z (fun y => by cases y) (by simp)
    · have t1 := (hok b _ z).1
      have t2 := (hok' b _ (un.frzs b ob _ z)).1
      rw [e] at t1
      cases t1
      exact t2
theorem end_call {P : Program} {w : World} {K : PySem.W.Frag} {mg mb : Str → Option Value} {k : Nat} {fa a : Addr} {fd : FuncData} {x : Str} {sp : Sp} {s : Shared} {vs : List Value} {ns : List Int}
    (KX : K.In s.heap) (hns : s.heap.Ns mainGlobals mg) (hb : s.heap.Ns builtinsNs mb) (hbb : ∀ x : Str, x ≠ "__name__" → mb x = bootBuiltins x) (hlim : s.heap.NoLimit) (hg : s.gens = #[])
    (ha : s.heap.get? a = some { cls := .type "list", data := .seq vs.toArray }) (hi : IntsAre vs ns) (hl : ns.length ≤ sizeLine) (hr : Room k callerA)
    (F : ∀ base : Heap, K.In base → base.Ns mainGlobals mg → FnG P w K mg base CX0 k fa fd [x] sp) (hbind : ∀ (s : Shared) (u : Value), BindsTo s fd ⟨[u], []⟩ [(x, u)])
    (hsp : ∀ H : Hp, Only H → SqL K H a (ns.map V.int) → sp [.ref a] H (fun v _ => v = .bl true) fun _ _ _ => False) :
    codeAny (model P w) callerA (.call (.ref fa) ⟨[.ref a], []⟩) (fun r s' => r = .ok (.ret (.bool true)) ∧ OldK s.heap s'.heap ∧ s'.os = s.os ∧ AllBare s'.gens) s := by
  have rv := vals_ints hi
  cases hk : K.lookup a with
  | some o =>
    have e := KX a o hk
    rw [ha] at e
    cases e
    have O : Only fun _ => none := fun _ => .inl rfl
    refine end_core KX hns hb hbb hlim hg hr F hbind (hsp _ O (.inr ⟨_, vs.toArray, _, hk, rfl, rfl, rfl, ?_, by simpa using rv⟩)) O (fun b u z => ?_) fun b o _ z => absurd rfl z
    · rw [List.size_toArray, hi.length]; exact hl
    · have z' : (none : Option HO) = some u := z
      cases z'
  | none =>
    let H1 : Hp := fun b => if b = a then some (.frz { cls := .type "list", data := .seq vs.toArray } (.lst (ns.map V.int))) else none
    have h1 : H1 a = some (.frz { cls := .type "list", data := .seq vs.toArray } (.lst (ns.map V.int))) := if_pos rfl
    have h0 : ∀ b, b ≠ a → H1 b = none := fun b hb => if_neg hb
    have O : Only H1 := fun b => by
      by_cases hb : b = a
      · exact .inr ⟨_, _, by rw [hb]; exact h1⟩
      · exact .inl (h0 b hb)
    refine end_core KX hns hb hbb hlim hg hr F hbind (hsp _ O (.inl (.inr ⟨_, h1⟩))) O (fun b u z => ?_) fun b o e z => ?_
    · by_cases hb : b = a
      · subst hb
        rw [h1] at z
        cases z
        exact ⟨ha, by rw [List.length_map]; exact hl, vs, _, rv, ha⟩
      · rw [h0 b hb] at z
        cases z
    · by_cases hb : b = a
      · subst hb
        rw [ha] at e
        cases e
        exact ⟨hk, fun es ep d => nomatch d⟩
      · exact absurd (h0 b hb) z
/-- a law's walk -/
theorem end_walk {l : PySem.W.OpenLaw} {n k : Nat} {q : Program} {loose : List Str} {XP : (Str → Option Value) → Heap → Prop} {YP : World → Heap → Prop} {d : DefRec} {x : Str}
    (hn : l.most = some n) (hn2 : n ≤ sizeLine) (hdf : d.params.defaults = []) (hr : Room k callerA)
    (F : ∀ (w : World) (mg : Str → Option Value) (fa : Addr) (h : Heap), YP w h → h.Ns mainGlobals mg → mg d.name = some (.ref fa) →
      ∃ (K : PySem.W.Frag) (fd : FuncData) (sp : Sp), K.In h ∧ (∀ (s : Shared) (u : Value), BindsTo s fd ⟨[u], []⟩ [(x, u)]) ∧
        (∀ (H : Hp) (a : Addr) (ns : List Int), ns.length ≤ n → Only H → SqL K H a (ns.map V.int) → sp [.ref a] H (fun v _ => v = .bl true) fun _ _ _ => False) ∧
        ∀ base : Heap, K.In base → base.Ns mainGlobals mg → FnG l.prog w K mg base CX0 k fa fd [x] sp) :
    PySem.W.WalkO q loose XP YP l.row.toRowW d [] (fun f vs => PySem.call f vs) := by
  refine Att.attach_call hn hdf fun w s₀ s₁ mg mb fa o pm cd doc a vs ns G Y ho hd hcd hmg hobj hints hlen hg => ?_
  obtain ⟨K, fd, sp, KX, hb, hsp, hF⟩ := F w mg fa _ Y G.T.g hmg
  exact end_call KX G.T.g G.T.b G.T.builtins G.T.nolimit hg hobj hints (Nat.le_trans hlen hn2) hr hF hb fun H hO hS => hsp H a ns hlen hO hS
/-- the script is data -/
theorem sp_script {K : PySem.W.Frag} {sp : NSpec} {H : Hp} {a : Addr} {ns : List Int} (hO : Only H) (hS : SqL K H a (ns.map V.int)) (h : sp [.scr ns] fun d => d = .bl true) : spD K 1 (nS sp) [.ref a] H (fun v _ => v = .bl true) fun _ _ _ => False := by
  refine ⟨rfl, H, [.scr ns], fun d => d = .bl true, fun _ => False, Same.refl H, .cons (.scr hS) .nil, h, fun F' H' v d _ r e => ?_, XO.none⟩
  subst e
  exact r.blI
end DL

/-! DL, part r: walks over whatever comes (a list, a tuple, a text); what generated texts use. -/
namespace DL
open PySem PySem.Spec PyProof.Rows L2
def iAnyV (K : PySem.W.Frag) (tl : TE) : TI := fun σ H R => tl σ H fun x H1 =>
  (∃ a, x = .ref a ∧ (∃ xs, SqL K H1 a xs) ∧ R (Itl K a) H1) ∨ (∃ a, x = .ref a ∧ (∃ xs, SqT K H1 a xs) ∧ R (Itt K a) H1) ∨ ∃ z, x = .str z ∧ R (Its z) H1
theorem pi_any {X : Cx} {tg l : Expr} {tl : TE} (hl : PE X l tl) : PI X tg l (iAnyV X.K tl) := by
  refine ⟨fun pins s σ H R I h => thn (hl.run pins s σ H _ I h) fun v s1 ⟨x, H1, I1, r1, q1⟩ => ?_⟩
  have own : ∀ b ∈ [s1.heap.objs.size], FpOk X pins H1 b := fun b hb => by
    obtain rfl : b = s1.heap.objs.size := by simpa using hb
    exact I1.fpOk (Nat.le_refl _) (I1.hok.fresh (Nat.le_refl _))
  rcases q1 with ⟨a, rfl, ⟨xs, hq⟩, q⟩ | ⟨a, rfl, ⟨xs, hq⟩, q⟩ | ⟨z, rfl, q⟩
  · obtain rfl : v = Value.ref a := r1
    obtain ⟨its, rv, p, hz⟩ := I1.list hq
    exact wpAny_pyIter_list p.isList ⟨s1.heap.objs.size, [s1.heap.objs.size], _, _, H1, rfl, I1.kept (t' := s1.toks) fun b o e => Heap.get?_push_of_some _ e, turn_list a _, ⟨_, Heap.get?_push_size _ rfl, rfl, rfl⟩, own, q⟩
  · obtain rfl : v = Value.ref a := r1
    obtain ⟨its, rv, p, hz⟩ := I1.tuple hq
    exact wpAny_pyIter_tuple (show s1.heap.IsTuple a its.toArray from p) ⟨s1.heap.objs.size, [s1.heap.objs.size], _, _, H1, rfl, I1.kept (t' := s1.toks) fun b o e => Heap.get?_push_of_some _ e, turn_tuple a _, ⟨_, Heap.get?_push_size _ rfl, rfl, rfl⟩, own, q⟩
  · obtain ⟨t, rfl⟩ := r1
    cases ha : z.cps.all (· < 128)
    · exact wpAny_pyIter_wide ha (pi_one (tk := s1.toks) I1 _ (turn_str _ z t "str_iterator" (.inr rfl)) ⟨_, Heap.get?_push_size _ rfl, rfl, rfl⟩ q)
    · exact wpAny_pyIter_ascii ha (pi_one (tk := s1.toks) I1 _ (turn_str _ z t "str_ascii_iterator" (.inl rfl)) ⟨_, Heap.get?_push_size _ rfl, rfl, rfl⟩ q)
def iA (f : FE) : FI := fun st Q E => f st (fun d => match d with
  | .lst ds => Q ds
  | .scr ns => Q (ns.map D.int)
  | .tup ds => Q ds
  | .str z => z.length ≤ sizeLine ∧ Q (z.cps.toList.map sgn)
  | _ => False) E
section
variable {P : Program} {w : World} {K : PySem.W.Frag} {mg : Str → Option Value} {base : Heap} {k : Nat} {ι : Type} {X : ι → Cx} {E : XK} {tg iter e : Expr} {f : FE} {ff : FA} {elts : List Expr} {kk : Nat} {p pos tpos : Pos}
theorem mi_any (φ : Fam P w K mg base k X) (h : ME X E iter f) : MI X E tg iter (iA f) := by
  obtain ⟨t, h⟩ := h
  refine ⟨fun σ H R => iAnyV K t σ H fun J H1 => Sz K H1 → R J H1, fun i => ⟨by rw [← φ.K i]; exact pi_sz (pi_any (h i).1), fun H0 F H σ st R Qd Ed s x hh k => ?_⟩⟩
  have eK := φ.K i
  refine (h i).2 H0 F H σ st _ _ Ed s x hh fun F1 H1 v d s1 r1 h1 => ?_
  rw [eK] at r1
  cases d with
  | lst ds =>
    cases r1 with
    | lst ha hr => exact .inl ⟨_, rfl, ⟨_, SqL.of (s1.fh _ _ ha)⟩, fun z => k F1 H1 _ ds s1 (by rw [eK]; exact its_list (SqL.of ha) hr) (by rw [← hr.length]; exact z _ _ (.inl (SqL.of (s1.fh _ _ ha)))) h1⟩
  | scr ns =>
    cases r1 with
    | scr ha => exact .inl ⟨_, rfl, ⟨_, seqL_same s1.fh ha⟩, fun z => k F1 H1 _ (ns.map D.int) s1 (by rw [eK]; exact its_list ha (RepL.ints ns)) (by have := z _ _ (.inl (seqL_same s1.fh ha)); rwa [List.length_map] at this ⊢) h1⟩
  | tup ds =>
    cases r1 with
    | tup ha hr => exact .inr (.inl ⟨_, rfl, ⟨_, seqT_same s1.fh ha⟩, fun z => k F1 H1 _ ds s1 (by rw [eK]; exact its_tup ha hr) (by rw [← hr.length]; exact z _ _ (.inr (seqT_same s1.fh ha))) h1⟩)
  | str z =>
    obtain ⟨hz, h1⟩ := h1
    cases r1
    rename_i hok
    exact .inr (.inr ⟨z, rfl, fun _ => k F1 H1 _ _ s1 (its_str hok) (by rw [List.length_map, Array.length_toList]; exact hz) h1⟩)
  | _ => exact h1.elim
/-- what is walked may be a slot's own list -/
theorem mib_any (φ : Fam P w K mg base k X) (h : MB X E iter f) : MIB X E tg iter (iA f) := by
  obtain ⟨t, h⟩ := h
  refine ⟨fun σ H R => iAnyV K t σ H fun J H1 => Sz K H1 → R J H1, fun i => ⟨by rw [← φ.K i]; exact pi_sz (pi_any (h i).1), fun H0 F H σ st R Qd Ed s x hh k => ?_⟩⟩
  have eK := φ.K i
  refine (h i).2 H0 F H σ st _ _ Ed s x hh fun F1 H1 v d s1 r1 h1 => ?_
  have k1 := s.step s1
  rw [eK] at r1
  rcases r1 with r1 | ⟨j, ej, qj⟩
  · cases d with
    | lst ds =>
      cases r1 with
      | lst ha hr => exact .inl ⟨_, rfl, ⟨_, SqL.of (s1.fh _ _ ha)⟩, fun z => k F1 H1 _ ds s1 (by rw [eK]; exact (its_list (SqL.of ha) hr).toB _ _) (by rw [← hr.length]; exact z _ _ (.inl (SqL.of (s1.fh _ _ ha)))) h1⟩
    | scr ns =>
      cases r1 with
      | scr ha => exact .inl ⟨_, rfl, ⟨_, seqL_same s1.fh ha⟩, fun z => k F1 H1 _ (ns.map D.int) s1 (by rw [eK]; exact (its_list ha (RepL.ints ns)).toB _ _) (by have := z _ _ (.inl (seqL_same s1.fh ha)); rwa [List.length_map] at this ⊢) h1⟩
    | tup ds =>
      cases r1 with
      | tup ha hr => exact .inr (.inl ⟨_, rfl, ⟨_, seqT_same s1.fh ha⟩, fun z => k F1 H1 _ ds s1 (by rw [eK]; exact (its_tup ha hr).toB _ _) (by rw [← hr.length]; exact z _ _ (.inr (seqT_same s1.fh ha))) h1⟩)
    | str z =>
      obtain ⟨hz, h1⟩ := h1
      cases r1
      rename_i hok
      exact .inr (.inr ⟨z, rfl, fun _ => k F1 H1 _ _ s1 ((its_str hok).toB _ _) (by rw [List.length_map, Array.length_toList]; exact hz) h1⟩)
    | _ => exact h1.elim
  · cases d with
    | lst ds =>
      obtain ⟨a, eo, ow, vs, ha, hr⟩ := k1.sl j _ ej
      rw [qj] at eo
      cases eo
      refine .inl ⟨a, rfl, ⟨vs, SqL.of ha⟩, fun z => k F1 H1 _ ds s1 ⟨fun i' d F' H' s2 e => ?_, fun F' H' s2 => ⟨vs, SqL.of (s2.keep _ _ ha ow.d), Nat.le_of_eq hr.length⟩⟩ (by rw [← hr.length]; exact z _ _ (.inl (SqL.of ha))) h1⟩
      obtain ⟨v, ev, rv⟩ := hr.get e
      have hq : SqL K H' a vs := SqL.of (s2.keep _ _ ha ow.d)
      refine ⟨⟨vs, v, hq, ev⟩, fun x H'' y => ?_⟩
      obtain ⟨e1, y⟩ := y
      subst e1
      have e2 := y vs hq
      rw [ev] at e2
      cases e2
      exact ⟨F', Step.refl s2.fh s2.deal, rv.same s2.ff⟩
    | scr ns =>
      obtain ⟨a, eo, ow, z⟩ := k1.sl j _ ej
      exact z.elim
    | tup ns =>
      obtain ⟨a, eo, ow, z⟩ := k1.sl j _ ej
      exact z.elim
    | str ns =>
      obtain ⟨a, eo, ow, z⟩ := k1.sl j _ ej
      exact z.elim
    | _ => exact h1.elim
/-- enumerate of a list or a tuple -/
def iEV (K : PySem.W.Frag) (ta : TA) : TI := fun σ H R => ta σ H fun vs H1 => (∃ a xs, vs = [.ref a] ∧ SqL K H1 a xs ∧ R (Ite K a) H1) ∨ ∃ a xs, vs = [.ref a] ∧ SqT K H1 a xs ∧ R (Itet K a) H1
theorem pi_enumA {X : Cx} {ta : TA} (hg : Gl X "enumerate") (hm : X.mg "enumerate" = none) (ha : PA X [e] ta) (hs : starEach [e] X.env = [(false, eval e X.env)] := by rfl) :
    PI X (.Tuple elts kk tpos) (.Call (.Name "enumerate" p) [e] [] pos) (iEV X.K ta) := by
  refine ⟨fun pins s σ H R I h => ?_⟩
  refine Call_ (ld_blt I hg hm boot_enumerate (PyProof.Rows.callWith_type1 (thn (ha.run pos pins s σ H _ I h) fun us s1 ⟨vs, H1, I1, r1, q1⟩ => ?_) hs rfl))
  have two : ∀ b ∈ [s1.heap.objs.size + 1, s1.heap.objs.size], FpOk X pins H1 b := fun b hb => by
    have hle : s1.heap.objs.size ≤ b := by
      rcases List.mem_cons.mp hb with rfl | hb
      · exact Nat.le_add_right _ _
      · rw [List.mem_singleton.mp hb]
        exact Nat.le_refl _
    exact I1.fpOk hle (I1.hok.fresh hle)
  rcases q1 with ⟨a, xs, rfl, hq, q⟩ | ⟨a, xs, rfl, hq, q⟩
  · obtain ⟨u, rfl, ru⟩ := vals1 r1
    obtain rfl : u = Value.ref a := ru
    obtain ⟨its, rv, p', hz⟩ := I1.list hq
    refine call_enumerate_list p'.isList fun h' he hit hsz hk => wpAny_pyIter_enum he ?_
    exact ⟨s1.heap.objs.size + 1, [s1.heap.objs.size + 1, s1.heap.objs.size], _, _, H1, rfl, I1.kept (t' := s1.toks) hk, turn_enum a (s1.heap.objs.size + 1) s1.heap.objs.size, ⟨⟨.none, he⟩, hit, Nat.succ_ne_self _⟩, two, q⟩
  · obtain ⟨u, rfl, ru⟩ := vals1 r1
    obtain rfl : u = Value.ref a := ru
    obtain ⟨its, rv, p', hz⟩ := I1.tuple hq
    obtain ⟨oa, hoa, hca, na, hda⟩ := p'
    have hal : a < s1.heap.objs.size := Heap.lt_size hoa
    refine enum_begins1 (begins_tuple a its.toArray) ⟨oa, hoa, hca, na, hda⟩ fun h' he hit hsz hk => wpAny_pyIter_enum he ?_
    exact ⟨s1.heap.objs.size + 1, [s1.heap.objs.size + 1, s1.heap.objs.size], _, _, H1, rfl, I1.kept (t' := s1.toks) hk, turn_enumT a (s1.heap.objs.size + 1) s1.heap.objs.size, ⟨⟨.none, he⟩, ⟨_, hit, rfl, rfl⟩, Nat.succ_ne_self _, Nat.ne_of_lt hal, Nat.ne_of_gt (Nat.lt_succ_of_lt hal)⟩, two, q⟩
def iE (ff : FA) : FI := fun st Q E => ff st (fun ds => match ds with
  | [.lst xs] => Q (pairs xs)
  | [.tup xs] => Q (pairs xs)
  | _ => False) E
theorem mi_enum (φ : Fam P w K mg base k X) (hm : mg "enumerate" = none) (h : MA X E [e] ff) (hg : ∀ i, Gl (X i) "enumerate" := by intro _; rfl) (hs : ∀ i, starEach [e] (X i).env = [(false, eval e (X i).env)] := by intro _; rfl) : MI X E (.Tuple elts kk tpos) (.Call (.Name "enumerate" p) [e] [] pos) (iE ff) := by
  obtain ⟨t, h⟩ := h
  refine ⟨fun σ H R => iEV K t σ H fun J H1 => Sz K H1 → R J H1, fun i => ⟨by rw [← φ.K i]; exact pi_sz (pi_enumA (hg i) (by rw [φ.mg i]; exact hm) (h i).1 (hs i)), fun H0 F H σ st R Qd Ed s x hh k => ?_⟩⟩
  refine (h i).2 H0 F H σ st _ _ Ed s x hh fun F1 H1 vs ds s1 r1 h1 => ?_
  have eK := φ.K i
  rw [eK] at r1
  match ds, r1, h1 with
  | [.lst xs], .cons r .nil, h1 =>
    cases r with
    | lst ha hr => exact .inl ⟨_, _, rfl, SqL.of (s1.fh _ _ ha), fun z => k F1 H1 _ _ s1 (by rw [eK]; exact its_enumL (SqL.of ha) hr) (by rw [pairs_len, ← hr.length]; exact z _ _ (.inl (SqL.of (s1.fh _ _ ha)))) h1⟩
  | [.tup xs], .cons r .nil, h1 =>
    cases r with
    | tup ha hr => exact .inr ⟨_, _, rfl, seqT_same s1.fh ha, fun z => k F1 H1 _ _ s1 (by rw [eK]; exact its_enumT ha hr) (by rw [pairs_len, ← hr.length]; exact z _ _ (.inr (seqT_same s1.fh ha))) h1⟩
theorem mi_rng1 (φ : Fam P w K mg base k X) (hm : mg "range" = none) (h : MAB X E [e] ff) (hg : ∀ i, Gl (X i) "range" := by intro _; rfl) (hs : ∀ i, starEach [e] (X i).env = [(false, eval e (X i).env)] := by intro _; rfl) : MI X E tg (.Call (.Name "range" p) [e] [] pos) (iR1 ff) :=
  mi_range1 h (fun i => by rw [φ.mg i]; exact hm) hg hs
theorem mi_rng2 {e2 : Expr} (φ : Fam P w K mg base k X) (hm : mg "range" = none) (h : MAB X E [e, e2] ff) (hg : ∀ i, Gl (X i) "range" := by intro _; rfl) (hs : ∀ i, starEach [e, e2] (X i).env = [(false, eval e (X i).env), (false, eval e2 (X i).env)] := by intro _; rfl) (hs2 : ∀ i, starEach [e2] (X i).env = [(false, eval e2 (X i).env)] := by intro _; rfl) : MI X E tg (.Call (.Name "range" p) [e, e2] [] pos) (iR2 ff) :=
  mi_range2 h (fun i => by rw [φ.mg i]; exact hm) hg hs hs2
end
/-! ### what generated texts use -/
/-- a class's body -/
def clsBody : Stmt → List Stmt
  | .ClassDef _ _ _ body _ _ _ _ _ _ _ => body
  | _ => []
theorem fam_of {P : Program} {w : World} {K : PySem.W.Frag} {mg : Str → Option Value} {base : Heap} {k : Nat} {N ps : List Str} {qual : Str} {scope : Scope} {f : Addr} {cdv : Value} {A : Around} {outer : List Env} {s : Shared} {H : Hp} {E : XK}
    (S : FnScope N ps scope) (hg : A.guards = some []) (hr : Room k (A.deeper (envOfC qual scope s.heap.objs.size f cdv))) : Fam P w K mg base k fun _ : Unit => (cxOf CX0 P w K mg base N qual scope f cdv A outer s H E).nox :=
  ⟨fun _ => rfl, fun _ => rfl, fun _ => rfl, fun _ => rfl, fun _ => rfl, fun _ => rfl, fun _ => S.nd, fun _ => hg, fun _ => hr⟩
theorem fun_ofD {K : PySem.W.Frag} {x qual : Str} {st : Stmt} {f : Addr} {fd : FuncData} (F : FunD K x qual (defArgs st) (defBody st) (defScope st) [] [] f fd) : Fun K x qual st f fd := by
  obtain ⟨oc, od, dV, kV, doc, pm, an, cdv, ct, osl, h1, h2, h3, h4, h5⟩ := F.ex
  have e : dV = .none := by
    rcases h4 with h4 | h4
    · exact h4.2
    · exact absurd rfl h4.1
  subst e
  exact ⟨⟨oc, od, kV, doc, pm, an, cdv, ct, osl, h1, h2, h3⟩, F.kp⟩
section
variable {P : Program} {w : World} {K : PySem.W.Frag} {mg : Str → Option Value} {base : Heap} {k n : Nat} {f : Addr} {fd : FuncData} {ps N : List Str} {x qual : Str} {st : Stmt}
theorem Dd.mk0 {sp : NSpec} {fs : FS} (F : Fun K x qual st f fd) (hm : mg x = some (.ref f)) (S : FnScope N ps (defScope st)) (hb : Binds K fd ps []) (hl : ps.length = n)
    (body : ∀ (ι : Unit) (cdv : Value) (A : Around) (outer : List Env) (s : Shared) (H : Hp) (E : XK), Fam P w K mg base k (fun _ : Unit => (cxOf CX0 P w K mg base N qual (defScope st) f cdv A outer s H E).nox) → MSs (fun _ : Unit => (cxOf CX0 P w K mg base N qual (defScope st) f cdv A outer s H E).nox) E0 (defBody st) fs)
    (law : ∀ ds Qd, ds.length = n → sp ds Qd → fs (endsD Qd fun _ => False) (init N.length ds)) : Dd P w K mg base x (k + 1) n sp :=
  ⟨f, fd, ps, by
    subst hl
    exact Fun.okN F S fun cdv A outer s H E hg hr => ⟨fs, body () cdv A outer s H E (fam_of S hg hr), law⟩, hm, F.kp, hb, hl⟩
theorem DdL.mk0 {sp : NSpec} {fs : FS} (F : Fun K x qual st f fd) (hm : mg x = some (.ref f)) (S : FnScope N ps (defScope st)) (hb : Binds K fd ps []) (hl : ps.length = n)
    (body : ∀ (ι : Unit) (cdv : Value) (A : Around) (outer : List Env) (s : Shared) (H : Hp) (E : XK), Fam P w K mg base k (fun _ : Unit => (cxOf CX0 P w K mg base N qual (defScope st) f cdv A outer s H E).nox) → MSs (fun _ : Unit => (cxOf CX0 P w K mg base N qual (defScope st) f cdv A outer s H E).nox) E0 (defBody st) fs)
    (law : ∀ a b ds Qd, ds.length + 1 = n → sp ds Qd → fs (endsD Qd fun _ => False) (initL N.length ds a b)) : DdL P w K mg base x (k + 1) n sp :=
  ⟨f, fd, ps, by
    subst hl
    exact Fun.okL F S fun cdv A outer s H E hg hr => ⟨fs, body () cdv A outer s H E (fam_of S hg hr), law⟩, hm, F.kp, hb, hl⟩
theorem DdI.mk0 {C : Addr} {y : Str} {sp : ISpec} {fs : FS} (F : Fun K y qual st f fd) (M : Mk K C f) (hm : mg x = some (.ref C)) (S : FnScope N ps (defScope st)) (hb : Binds K fd ps []) (hl : ps.length = n)
    (body : ∀ (ι : Unit) (cdv : Value) (A : Around) (outer : List Env) (s : Shared) (H : Hp) (E : XK), Fam P w K mg base k (fun _ : Unit => (cxOf CX0 P w K mg base N qual (defScope st) f cdv A outer s H E).nox) → MSs (fun _ : Unit => (cxOf CX0 P w K mg base N qual (defScope st) f cdv A outer s H E).nox) E0 (defBody st) fs)
    (law : ∀ ds Qd, ds.length + 1 = n → sp ds Qd → fs (endsI C Qd) (initI N.length C ds)) : DdI P w K mg base x C (k + 1) n sp :=
  ⟨f, fd, ps, M, by
    subst hl
    exact Fun.okI F S fun cdv A outer s H E hg hr => ⟨fs, body () cdv A outer s H E (fam_of S hg hr), law⟩, hm, hb, hl⟩
theorem okN0 {sp : NSpec} {fs : FS} (F : Fun K x qual st f fd) (S : FnScope N ps (defScope st)) (hl : ps.length = n)
    (body : ∀ (ι : Unit) (cdv : Value) (A : Around) (outer : List Env) (s : Shared) (H : Hp) (E : XK), Fam P w K mg base k (fun _ : Unit => (cxOf CX0 P w K mg base N qual (defScope st) f cdv A outer s H E).nox) → MSs (fun _ : Unit => (cxOf CX0 P w K mg base N qual (defScope st) f cdv A outer s H E).nox) E0 (defBody st) fs)
    (law : ∀ ds Qd, ds.length = n → sp ds Qd → fs (endsD Qd fun _ => False) (init N.length ds)) : FnG P w K mg base CX0 (k + 1) f fd ps (spD K n (nS sp)) := by
  subst hl
  exact Fun.okN F S fun cdv A outer s H E hg hr => ⟨fs, body () cdv A outer s H E (fam_of S hg hr), law⟩
theorem DdK.of {sp : NSpec} {ks : List Str} {g : List Value → List Value → List Value} {gV : List V → List V → List V} {gD : List D → List D → List D} {j : Nat} (F : Fun K x qual st f fd) (hm : mg x = some (.ref f)) (G : FnG P w K mg base CX0 j f fd ps (spD K n (nS sp))) (hl : ps.length = n) (kb : KBinds K fd ps ks g gV) (kp : KPerm gV gD) : DdK P w K mg base x j n ks gD sp :=
  ⟨f, fd, ps, g, gV, G, hm, F.kp, kb, kp, hl⟩
end
end DL

/-! DL, part s: several names stored by way of a tuple. -/
namespace DL
open PySem PySem.Spec PyProof.Rows L2
def setAll : List Nat → List V → L2.St → L2.St
  | i :: is, v :: vs, σ => setAll is vs (σ.set i (some v))
  | _, _, σ => σ
def setAllD : List Nat → List Sl → DSt → DSt
  | i :: is, s :: ss, st => setAllD is ss (st.set i s)
  | _, _, st => st
/-- names in these slots -/
def MN {ι : Type} (X : ι → Cx) (tgs : List Expr) (is : List Nat) : Prop := ∃ gs, ∀ i, PGs (X i) tgs gs ∧ ∀ (vs : List V) (σ : L2.St) (H : Hp) (Q : L2.St → Hp → Prop), vs.length = is.length → Q (setAll is vs σ) H → gs vs σ H Q
section
variable {P : Program} {w : World} {K : PySem.W.Frag} {mg : Str → Option Value} {base : Heap} {k : Nat} {ι : Type} {X : ι → Cx} {E : XK} {es tgs : List Expr} {g : FV} {pos p1 p2 : Pos} {is : List Nat}
theorem mn_nil : MN X [] [] := ⟨_, fun i => ⟨pgs_nil, fun vs σ H Q hl h => by
  cases vs with
  | nil => exact ⟨rfl, h⟩
  | cons _ _ => cases hl⟩⟩
theorem mn_cons (i : Nat) {x : Str} (φ : Fam P w K mg base k X) (hr : MN X tgs is) (hi : ∀ j, (X j).N[i]? = some x := by intro _; rfl) (hx : ∀ j, Loc (X j).env.scope x := by intro _; first | exact Or.inl rfl | exact Or.inr rfl)
    (hf : ∀ j, (X j).fn x = true ∨ (X j).env.scope.names.lookup x = some .local := by intro _; first | exact .inl rfl | exact .inr rfl)
    (hs : ∀ j, (assignEach (.Name x pos :: tgs) (X j).env).map (·.2) = assign (.Name x pos) (X j).env :: (assignEach tgs (X j).env).map (·.2) := by intro _; rfl) : MN X (.Name x pos :: tgs) (i :: is) := by
  obtain ⟨gs, h⟩ := hr
  refine ⟨_, fun j => ⟨pgs_cons (pg_name (φ.nd j) (hi j) (hx j) (hf j)) (h j).1 (hs j), fun vs σ H Q hl hq => ?_⟩⟩
  cases vs with
  | nil => cases hl
  | cons v vs => exact ⟨v, vs, rfl, (h j).2 vs _ H Q (Nat.succ.inj hl) hq⟩
theorem FOk.storeAll {φ : Fm} {F H : Hp} : ∀ {is : List Nat} {vs : List V} {ss : List Sl} {σ : L2.St} {st : DSt} {fr : Addr → Prop}, FOk K φ F H σ st → PV K F H fr vs ss → Nob φ.H0 σ st fr → FOk K φ F H (setAll is vs σ) (setAllD is ss st)
  | [], vs, ss, σ, st, fr, o, p, nb => by
    cases vs <;> cases ss <;> exact o
  | i :: is, [], ss, σ, st, fr, o, p, nb => by
    cases p
    exact o
  | i :: is, v :: vs, [], σ, st, fr, o, p, nb => by cases p
  | i :: is, v :: vs, s :: ss, σ, st, fr, o, p, nb => by
    obtain ⟨o2, fr2, p2, nb2⟩ := o.storeHd p nb i
    exact FOk.storeAll (is := is) o2 p2 nb2
def sPars (is : List Nat) (g : FV) : FS := fun D st => g st (fun ss => ss.length = is.length ∧ ss.length ≤ sizeLine ∧ D.nx (setAllD is ss st)) D.ex
theorem PV.step {F H F' H' : Hp} {dl : Dl} : ∀ {fr : Addr → Prop} {vs : List V} {ss : List Sl}, Step dl F H F' H' → (∀ q, fr q → ¬ isDl dl q) → PV K F H fr vs ss → PV K F' H' fr vs ss
  | _, _, _, s, nd, .nil => .nil
  | _, _, _, s, nd, .val r t => .val (r.same s.ff) (t.step s nd)
  | _, _, _, s, nd, .mu a b c t => by
    obtain ⟨o, e⟩ := c.dom
    exact .mu a (s.toFStep.off b e) (c.step s (nd _ a)) (t.step s fun q hq => nd q hq.1)
theorem ms_pars (is : List Nat) {kt k2 pt2} (φ : Fam P w K mg base k X) (ha : MV X E es g) (hg : MN X tgs is) (hl : tgs.length = is.length := by rfl)
    (hn : ∀ i, (assignEach tgs (X i).env).length = is.length := by intro _; rfl) (hst : ∀ i, (assignEach tgs (X i).env).findIdx? (·.1) = none := by intro _; rfl)
    (hs : ∀ i, swapsWithSole [.Tuple tgs kt p1] (.Tuple es k2 pt2) pos.line (X i).env = pure false := by intro _; rfl) (hw : ∀ i, swappedStores [.Tuple tgs kt p1] (.Tuple es k2 pt2) (X i).env = pure none := by intro _; rfl)
    (h1 : ∀ i, (assignEach [.Tuple tgs kt p1] (X i).env).map (·.2) = [assign (.Tuple tgs kt p1) (X i).env] := by intro _; rfl) :
    MS X E (.Assign [.Tuple tgs kt p1] (.Tuple es k2 pt2) pos) (sPars is g) := by
  obtain ⟨t, ha⟩ := ha
  obtain ⟨gs, hg⟩ := hg
  refine ⟨tAsg (tTup t) (gTup K is.length gs), fun q => ⟨ps_asg (pe_tup (ha q).1) (by rw [← φ.K q]; exact pg_tup (φ.c q) (hg q).1 (hn q) (hst q)) (hs q) (hw q) (h1 q), fun φ' F H σ st D Dd o x hh b => ?_⟩⟩
  have eK := φ.K q
  refine (ha q).2 φ'.H0 F H σ st _ _ _ o.so (x.xo o) hh fun F1 H1 vs ss s1 r1 h1 => ?_
  have o1 := o.step s1
  have len := r1.len
  refine ⟨by rw [len]; exact h1.2.1, fun p np => ⟨p, vs, rfl, SqT.of upd_same, by rw [len]; exact h1.1, (hg q).2 vs σ _ _ (by rw [len]; exact h1.1) ?_⟩⟩
  have s2 : Step st.dl F1 H1 F1 (upd H1 p (.tup vs)) := Step.freshM o1.so.fh o1.so.dl np
  have nb := o.so.nob (F' := F1) (H' := H1) o.fs.dom
  exact b.nx F1 _ _ _ (FOk.storeAll (o1.step s2) (r1.step s2 fun z hz => (nb z hz).2.1) nb) h1.2.2
end
section
variable {ι : Type} {X : ι → Cx} {E : XK} {a b c : Expr} {fa fb fc : FE} {pos : Pos}
theorem k_tcmp {op : CmpOp} {g : D → D → (D → Prop) → Prop} (h : Cm X op g) (ha : MB X E a fa) (hb : MB X E b fb) (hm : behindInMarks op b = false := by rfl) : MT X E (.Compare a [op] [b] pos) (dB (dOp g fa fb)) := by
  obtain ⟨r, h⟩ := h
  obtain ⟨ta, ha⟩ := ha
  obtain ⟨tb, hb⟩ := hb
  refine ⟨_, fun i => ⟨pt_cmpR (h i).1 (ha i).1 (hb i).1 hm, fun H0 F H σ st Q Qd Ed s x hh k => ?_⟩⟩
  refine SemE.op (h i).2 (ha i).2 (hb i).2 H0 F H σ st _ _ Ed s x hh fun F1 H1 v d s1 r1 h1 => ?_
  cases d with
  | bl q =>
    have e := r1.blI
    subst e
    exact ⟨q, rfl, k F1 H1 q s1 h1⟩
  | _ => exact h1.elim
theorem k_tchain {op op' : CmpOp} {g g' : D → D → (D → Prop) → Prop} (h : Cm X op g) (h' : Cm X op' g') (ha : MB X E a fa) (hb : MB X E b fb) (hc : MB X E c fc) (hm : lastMarks [op, op'] [b, c] = false := by with_unfolding_all rfl) : MT X E (.Compare a [op, op'] [b, c] pos) (dB (dChain g g' fa fb fc)) := by
  obtain ⟨r, h⟩ := h
  obtain ⟨r', h'⟩ := h'
  obtain ⟨ta, ha⟩ := ha
  obtain ⟨tb, hb⟩ := hb
  obtain ⟨tc, hc⟩ := hc
  refine ⟨_, fun i => ⟨pt_chain (h i).1 (h' i).1 (ha i).1 (hb i).1 (hc i).1 hm, fun H0 F H σ st Q Qd Ed s x hh k => ?_⟩⟩
  refine SemE.chain (h i).2 (h' i).2 (ha i).2 (hb i).2 (hc i).2 H0 F H σ st _ _ Ed s x hh fun F1 H1 v d s1 r1 h1 => ?_
  cases d with
  | bl q =>
    have e := r1.blI
    subst e
    exact ⟨q, rfl, k F1 H1 q s1 h1⟩
  | _ => exact h1.elim
end
def gIsT (x y : D) (Q : D → Prop) : Prop := isNon y = true ∧ Q (.bl (isNon x))
def gIsNotT (x y : D) (Q : D → Prop) : Prop := isNon y = true ∧ Q (.bl (!isNon x))
end DL

/-! DL, part t: the deal is made; a draw. -/
namespace DL
open PySem PySem.Spec PyProof.Rows L2
section
variable {P : Program} {w : World} {K : PySem.W.Frag} {mg : Str → Option Value} {base : Heap} {k : Nat} {ι : Type} {X : ι → Cx} {E : XK} {e : Expr} {f : FE} {p p1 p2 : Pos}
/-- return [e, x]: the deal -/
theorem ms_retDeal (i : Nat) {x : Str} (he : MF X E e f) (hN : ∀ j, (X j).N[i]? = some x := by intro _; rfl) (hv : ∀ j, Vis (X j).env.scope x := by intro _; first | exact Or.inl rfl | exact Or.inr (Or.inl rfl) | exact Or.inr (Or.inr rfl)) (hd : (x == ("__debug__" : Str)) = false := by decide)
    (hcd : (x == ("__classdict__" : Str)) = false := by decide) (hs1 : ∀ j, starEach [e, .Name x p] (X j).env = (false, eval e (X j).env) :: starEach [.Name x p] (X j).env := by intro _; rfl)
    (hs2 : ∀ j, starEach [.Name x p] (X j).env = (false, eval (.Name x p) (X j).env) :: starEach [] (X j).env := by intro _; rfl) : MS X E (.Return (some (.List [e, .Name x p] p1)) p2) (sRetDeal i f) := by
  obtain ⟨t, h⟩ := he
  refine ⟨_, fun j => ⟨ps_ret (pe_lst (pa_cons (h j).1 (pa_cons (pe_var (hN j) (hv j) hd hcd) pa_nil (hs2 j)) (hs1 j))), fun φ F H σ st D Dd o x hh b => ?_⟩⟩
  refine (h j).2 φ.H0 F H σ st _ _ _ o.so (x.xo o) hh fun F1 H1 q d s1 fq hq r1 h1 => ?_
  have o1 := o.step s1
  cases d with
  | lst xs =>
    cases ei : st.sl[i]? with
    | none =>
      rw [ei] at h1
      exact h1.elim
    | some sl =>
      rw [ei] at h1
      cases sl with
      | val dm =>
        cases dm with
        | int m =>
          obtain ⟨h0, h2, hl, ⟨ns, rfl, hn⟩, hm⟩ := h1
          obtain ⟨v, ev, rv⟩ := o1.so.sl i _ ei
          have em := rv.intI
          subst em
          obtain ⟨vs, eq1, rvs⟩ := r1
          have ens := rvs.intsInv
          subst ens
          refine ⟨.int m, ev, (by show 2 ≤ sizeLine; decide), fun r nr => ?_⟩
          have hrq : r ≠ q := fun z => by
            rw [z, eq1] at nr
            cases nr
          have s2 : Step st.dl F1 H1 F1 (upd H1 r (.lst [.ref q, .int m])) := Step.freshM o1.so.fh o1.so.dl nr
          refine b.rm F1 _ r q (o1.fst s2) (o1.fs.dom r nr) (o.fs.dom q hq) ⟨hrq, Same.none o1.so.fh nr, fq, m, ns, upd_same, ?_, h0, h2, hn, by rw [List.length_map] at hl; exact hl⟩ hm
          rw [upd_ne hrq.symm]
          exact eq1
        | _ => exact h1.elim
      | _ => exact h1.elim
  | _ => exact h1.elim
end
def endsM (Q : Prop) : DEnds := { nx := fun _ => False, rt := fun _ => False, ex := fun _ => False, rm := Q }
section
variable {P : Program} {w : World} {K : PySem.W.Frag} {mg : Str → Option Value} {base : Heap} {k n : Nat} {f : Addr} {fd : FuncData} {ps N : List Str} {x qual : Str} {st : Stmt}
theorem DdM.mk0 {sp : List D → Prop → Prop} {fs : FS} (F : Fun K x qual st f fd) (hm : mg x = some (.ref f)) (S : FnScope N ps (defScope st)) (hb : Binds K fd ps []) (hl : ps.length = n)
    (body : ∀ (ι : Unit) (cdv : Value) (A : Around) (outer : List Env) (s : Shared) (H : Hp) (E : XK), Fam P w K mg base k (fun _ : Unit => (cxOf CX0 P w K mg base N qual (defScope st) f cdv A outer s H E).nox) → MSs (fun _ : Unit => (cxOf CX0 P w K mg base N qual (defScope st) f cdv A outer s H E).nox) E0 (defBody st) fs)
    (law : ∀ ds Qd, ds.length = n → sp ds Qd → fs (endsM Qd) (init N.length ds)) : DdM P w K mg base x (k + 1) n sp := by
  refine ⟨f, fd, ps, ?_, hm, F.kp, hb, hl⟩
  subst hl
  refine Fun.okG F S (fun vs H Q E h => h.1) fun cdv A outer s H vs Q E hg hr h => ?_
  obtain ⟨hl, F1, ds, Qd, sm, r, hsp, hQ⟩ := h
  obtain ⟨t, ht⟩ := body () cdv A outer s H E (fam_of S hg hr)
  have hpl : ps.length ≤ N.length := by have := congrArg List.length S.pre; rw [List.length_take] at this; omega
  have so : SOk K H F1 H (start N vs) (init N.length ds) := init_sok sm r (by omega)
  refine ⟨t, (ht ()).1.nox, ?_⟩
  refine (ht ()).2 ⟨fun _ => False, none, F1, H⟩ F1 H (start N vs) (init N.length ds) _ (endsM Qd) ⟨so, FStep.refl sm, .inl rfl, fun b z => z.elim, fun i C gs p e q => ?_⟩ (fun _ _ _ _ _ _ _ _ z => z.elim) (law ds Qd (by rw [← all2_len r]; exact hl) hsp)
    ⟨fun _ _ _ _ _ z => z.elim, fun _ _ _ _ _ z => z.elim, fun _ _ _ _ _ z => z.elim, fun _ _ _ _ _ _ _ z => z.elim, fun F' H' a b s na nb dk q => hQ F' H' a b ⟨s, trivial⟩ na nb dk q⟩
  have e' : (ds.map Sl.val ++ List.replicate (N.length - ds.length) Sl.no)[i]? = some (.ins C gs) := e
  by_cases hi : i < ds.length
  · rw [List.getElem?_append_left (by rw [List.length_map]; exact hi), List.getElem?_map, List.getElem?_eq_getElem hi] at e'
    cases e'
  · rw [List.getElem?_append_right (by rw [List.length_map]; omega), List.getElem?_replicate] at e'
    split at e' <;> cases e'
end
/-! ### a draw -/
structure DS (a b : Addr) (F H0 H : Hp) (m : Int) (ns : List Int) : Prop where
  st : FStep (isDl (some (a, b))) F H0 F H
  ne : a ≠ b
  fa : F a = none
  fb : F b = none
  ha : H a = some (.lst [.ref b, .int m])
  hb : H b = some (.lst (ns.map V.int))
  m0 : 0 ≤ m
  m1 : m < 2147483647
  nn : ∀ n ∈ ns, 0 ≤ n
  len : ns.length ≤ 63
section
variable {a b : Addr} {F H0 H : Hp} {m : Int} {ns : List Int}
theorem DS.ok (h : DS a b F H0 H m ns) : DlOk (some (a, b)) F H := ⟨h.ne, h.fa, h.fb, m, ns, h.ha, h.hb, h.m0, h.m1, h.nn, h.len⟩
theorem DS.of (sm : Same F H) (d : DlOk (some (a, b)) F H) : ∃ m ns, DS a b F H H m ns := by
  obtain ⟨h0, h1, h2, m, ns, h3, h4, h5, h6, h7, h8⟩ := d
  exact ⟨m, ns, FStep.refl sm, h0, h1, h2, h3, h4, h5, h6, h7, h8⟩
theorem DS.new (h : DS a b F H0 H m ns) {p : Addr} {o : HO} (np : H p = none) : DS a b F H0 (upd H p o) m ns :=
  ⟨h.st.trans ⟨Same.refl F, h.st.fh.trans (Same.upd_new np), fun b u e _ => by rw [upd_ne (ne_of_none e np)]; exact e, fun _ _ e => .inl e, fun _ e => upd_none e⟩, h.ne, h.fa, h.fb,
    by rw [upd_ne (ne_of_none h.ha np)]; exact h.ha, by rw [upd_ne (ne_of_none h.hb np)]; exact h.hb, h.m0, h.m1, h.nn, h.len⟩
theorem DS.setA (h : DS a b F H0 H m ns) {m' : Int} (h0 : 0 ≤ m') (h1 : m' < 2147483647) : DS a b F H0 (upd H a (.lst [.ref b, .int m'])) m' ns :=
  ⟨h.st.write h.fa (.inl (.inl rfl)), h.ne, h.fa, h.fb, upd_same, by rw [upd_ne h.ne.symm]; exact h.hb, h0, h1, h.nn, h.len⟩
theorem DS.setB (h : DS a b F H0 H m ns) {ns' : List Int} (h0 : ∀ n ∈ ns', 0 ≤ n) (h1 : ns'.length ≤ 63) : DS a b F H0 (upd H b (.lst (ns'.map V.int))) m ns' :=
  ⟨h.st.write h.fb (.inl (.inr rfl)), h.ne, h.fa, h.fb, by rw [upd_ne h.ne]; exact h.ha, upd_same, h.m0, h.m1, h0, h1⟩
end
abbrev rInt1 : List V → Hp → VK → Prop := fun xs H Q => (∃ i, xs = [.int i] ∧ Q (.int i) H) ∨ ∃ k, xs = [.bl k] ∧ Q (.int (if k then 1 else 0)) H
abbrev rModI : R2 := rI (fun _ j => 0 < j) fun i j => .int (i % j)
abbrev rDivI : R2 := rI CDivW fun i j => .int (i / j)
abbrev rMulI : R2 := rI CMulW fun i j => .int (i * j)
abbrev rAddI : R2 := rI0 fun i j => .int (i + j)
def tDl (K : PySem.W.Frag) (i : Int) : TE := tOp (rIxL K) (tVar 0) (tC (.int i))
def tNe (K : PySem.W.Frag) : TT := tTest (tOp (rNeD K) (tDl K 0) (tLst tNil))
def tDraw (K : PySem.W.Frag) (tp tm : TE) (A B M C : Int) : TS :=
  tSeq (tWhile (tAnd (tNe K) (tTest (tOp rEq (tOp (rIxL K) (tDl K 0) (tUn (rU fun i => .int (-i)) (tC (.int 1)))) (tC (.int 0))))) (tDrop (tBM0 K "list" rPop (tDl K 0))))
  (tSeq (tIfS (tNe K) (tSeq (tAsg tp (gName 2)) (tSeq (tDrop (tBM K "list" rAppend (tDl K 0) (tCons (tOp rDivI (tVar 2) (tVar 1)) tNil))) (tRet tm))) tNext)
  (tSeq (tAsg (tOp rModI (tCB rInt1 (tCons (tOp rAddI (tOp rMulI (tDl K 1) (tC (.int A))) (tC (.int B))) tNil)) (tC (.int M))) (gSub (tVar 0) (tC (.int 1)) rSetL))
  (tRet (tOp rModI (tCB rInt1 (tCons (tOp rDivI (tDl K 1) (tC (.int C))) tNil)) (tVar 1)))))
section
variable {K : PySem.W.Frag} {a b : Addr} {F H0 H : Hp} {m n : Int} {ns : List Int} {x : Option V}
theorem tDl_0 {Q : VK} {σ : L2.St} (hσ : σ[0]? = some (some (.ref a))) (h : DS a b F H0 H m ns) (q : Q (.ref b) H) : tDl K 0 σ H Q :=
  ⟨_, hσ, a, _, 0, _, rfl, rfl, SqL.of h.ha, rfl, q⟩
theorem tDl_1 {Q : VK} {σ : L2.St} (hσ : σ[0]? = some (some (.ref a))) (h : DS a b F H0 H m ns) (q : Q (.int m) H) : tDl K 1 σ H Q :=
  ⟨_, hσ, a, _, 1, _, rfl, rfl, SqL.of h.ha, rfl, q⟩
theorem eqv_nil (ns : List Int) : PyData.eqv (.list (ns.map PyData.int)) (.list []) = ns.isEmpty := by
  cases ns <;> simp [PyData.eqv, PyData.eqvAll]
theorem mem_dropL {α : Type} {xs : List α} {y : α} (h : y ∈ xs.dropLast) : y ∈ xs := by
  rw [List.dropLast_eq_take] at h
  exact List.mem_of_mem_take h
theorem shaped_ints (ns : List Int) : SeqAt.shaped (.list (ns.map PyData.int)) = true := by
  have h : PyData.depthAll (ns.map PyData.int) = 0 := by
    induction ns with
    | nil => simp [PyData.depthAll]
    | cons n ns ih => simp [PyData.depthAll, PyData.depth, ih]
  have h2 : (PyData.list (ns.map PyData.int)).depth ≤ 64 := by
    simp only [PyData.depth, h]
    omega
  have h3 : (PyData.list (ns.map PyData.int)).canLay0 = true := by
    simp only [PyData.canLay0, lay_ints]
  unfold SeqAt.shaped
  rw [h3, Bool.true_and]
  exact decide_eq_true h2
theorem tNe_ok {Q : Bool → Hp → Prop} {σ : L2.St} (hσ : σ[0]? = some (some (.ref a))) (h : DS a b F H0 H m ns) (q : ∀ H', DS a b F H0 H' m ns → Q (!ns.isEmpty) H') : tNe K σ H Q := by
  refine tDl_0 hσ h ⟨Nat.zero_le _, fun p np => ?_⟩
  have h1 := h.new (o := .lst []) np
  refine ⟨.list (ns.map PyData.int), .list [], .lst (SqL.of h1.hb) (dpAll_ints ns), .lst (SqL.of upd_same) .nil, shaped_ints ns, by decide, _, rfl, ?_⟩
  rw [eqv_nil]
  exact q _ h1
theorem neg1_last {ns : List Int} (h : ns ≠ []) : ∃ z, atI (ns.map V.int) (-1) = some (.int z) ∧ ns[ns.length - 1]? = some z := by
  have hl : 0 < ns.length := by
    cases ns with
    | nil => exact absurd rfl h
    | cons _ _ => simp
  refine ⟨ns[ns.length - 1], ?_, List.getElem?_eq_getElem _⟩
  unfold atI ixN
  rw [List.length_map, if_neg (by omega), if_pos (by omega)]
  show (ns.map V.int)[(-1 + (ns.length : Int)).toNat]? = _
  have e : (-1 + (ns.length : Int)).toNat = ns.length - 1 := by omega
  rw [e, List.getElem?_map, List.getElem?_eq_getElem (by omega)]
  rfl
theorem pop_last {ns : List Int} {z : Int} (h : ns[ns.length - 1]? = some z) : (ns.map V.int)[(ns.map V.int).length - 1]? = some (.int z) := by
  rw [List.length_map, List.getElem?_map, h]
  rfl
/-- what is asked of the two places where draws differ -/
structure DrawP (K : PySem.W.Frag) (tp tm : TE) : Prop where
  p : ∀ {a b : Addr} {F H0 H : Hp} {m z : Int} {ns : List Int} {σ : L2.St} {Q : VK}, σ[0]? = some (some (.ref a)) → DS a b F H0 H m ns → ns[ns.length - 1]? = some z → Q (.int z) (upd H b (.lst (ns.dropLast.map V.int))) → tp σ H Q
  m : ∀ {H : Hp} {z n : Int} {σ : L2.St} {Q : VK}, σ[1]? = some (some (.int n)) → σ[2]? = some (some (.int z)) → 0 < n → Q (.int (z % n)) H → tm σ H Q
theorem draw_ok {tp tm : TE} {A B M C : Int} (dp : DrawP K tp tm) (hA : A.natAbs.log2 < 1000) (hM0 : 0 < M) (hM : M ≤ 2147483647) (hC : 0 < C) (hC1 : C.natAbs.log2 < 9000) {D : Ends} (h : DS a b F H0 H m ns) (hn : 0 < n) (hn1 : n.natAbs.log2 < 9000)
    (q : ∀ H' m' ns' k, DS a b F H0 H' m' ns' → 0 ≤ k → k < n → D.rt (.int k) H') : tDraw K tp tm A B M C D [some (.ref a), some (.int n), x] H := by
  refine ⟨fun l σ H => σ = [some (.ref a), some (.int n), x] ∧ ∃ m ns, DS a b F H0 H m ns ∧ ns.length = l, ⟨ns.length, rfl, m, ns, h, rfl⟩, ?_⟩
  rintro l σ H1 ⟨rfl, m1, ns1, h1, rfl⟩
  refine tNe_ok rfl h1 fun H2 h2 => ?_
  have rest : ∀ {H3 : Hp}, DS a b F H0 H3 m1 ns1 → (tSeq (tIfS (tNe K) (tSeq (tAsg tp (gName 2)) (tSeq (tDrop (tBM K "list" rAppend (tDl K 0) (tCons (tOp rDivI (tVar 2) (tVar 1)) tNil))) (tRet tm))) tNext)
      (tSeq (tAsg (tOp rModI (tCB rInt1 (tCons (tOp rAddI (tOp rMulI (tDl K 1) (tC (.int A))) (tC (.int B))) tNil)) (tC (.int M))) (gSub (tVar 0) (tC (.int 1)) rSetL))
      (tRet (tOp rModI (tCB rInt1 (tCons (tOp rDivI (tDl K 1) (tC (.int C))) tNil)) (tVar 1))))) D [some (.ref a), some (.int n), x] H3 := fun {H3} h3 => by
    refine tNe_ok rfl h3 fun H4 h4 => ?_
    cases e : ns1.isEmpty with
    | false =>
      refine iteT ?_
      have hne : ns1 ≠ [] := fun z => by rw [z] at e; cases e
      obtain ⟨z, _, hz⟩ := neg1_last hne
      have zm : z ∈ ns1 := List.mem_of_getElem? hz
      have z0 := h4.nn z zm
      refine dp.p rfl h4 hz ?_
      have h5 := h4.setB (ns' := ns1.dropLast) (fun y hy => h4.nn y (mem_dropL hy)) (by rw [List.length_dropLast]; have := h4.len; omega)
      refine tDl_0 (σ := [some (.ref a), some (.int n), some (.int z)]) rfl h5 ?_
      refine ⟨.inl ⟨rfl, _, SqL.of h5.hb⟩, .int z, rfl, .int n, rfl, z, n, rfl, rfl, ⟨hn, hn1⟩, b, ns1.dropLast.map V.int, .int (z / n), rfl, rfl, h5.hb, ?_, ?_⟩
      · rw [List.length_map, List.length_dropLast]
        have := h4.len
        have e2 : sizeLine = 16777216 := sizeLine_eq
        omega
      · have e3 : ns1.dropLast.map V.int ++ [V.int (z / n)] = (ns1.dropLast ++ [z / n]).map V.int := by rw [List.map_append]; rfl
        rw [e3]
        have h6 := h5.setB (ns' := ns1.dropLast ++ [z / n]) (fun y hy => by
          rcases List.mem_append.mp hy with hy | hy
          · exact h5.nn y hy
          · rw [List.mem_singleton.mp hy]
            exact Int.ediv_nonneg z0 (by omega)) (by
          have hl : 0 < ns1.length := by
            cases ns1 with
            | nil => exact absurd rfl hne
            | cons _ _ => simp
          rw [List.length_append, List.length_dropLast, List.length_singleton]
          have := h4.len
          omega)
        exact dp.m (σ := [some (.ref a), some (.int n), some (.int z)]) rfl rfl hn (q _ _ _ _ h6 (Int.emod_nonneg _ (by omega)) (Int.emod_lt_of_pos _ hn))
    | true =>
      refine iteF ?_
      refine tDl_1 (σ := [some (.ref a), some (.int n), x]) rfl h4 ?_
      have mlog : m1.natAbs.log2 < 31 := by
        have : m1.natAbs < 2 ^ 31 := by have := h4.m0; have := h4.m1; omega
        by_cases hz : m1.natAbs = 0
        · rw [hz]; decide
        · exact (Nat.log2_lt hz).mpr this
      refine ⟨m1, A, rfl, rfl, by show m1.natAbs.log2 + A.natAbs.log2 < 1000000; omega, _, B, rfl, rfl, .inl ⟨_, rfl, _, M, rfl, rfl, hM0, .ref a, rfl, a, _, 1, 1, rfl, rfl, h4.ha, rfl, ?_⟩⟩
      have h5 := h4.setA (m' := (m1 * A + B) % M) (Int.emod_nonneg _ (by omega)) (by have := Int.emod_lt_of_pos (m1 * A + B) hM0; omega)
      refine tDl_1 (σ := [some (.ref a), some (.int n), x]) rfl h5 ?_
      exact ⟨_, C, rfl, rfl, ⟨hC, hC1⟩, .inl ⟨_, rfl, .int n, rfl, _, n, rfl, rfl, hn, q _ _ _ _ h5 (Int.emod_nonneg _ (by omega)) (Int.emod_lt_of_pos _ hn)⟩⟩
  cases e : ns1.isEmpty with
  | true => exact iteF (iteF (rest h2))
  | false =>
    refine iteT ?_
    have hne : ns1 ≠ [] := fun z => by rw [z] at e; cases e
    obtain ⟨z, ha, hz⟩ := neg1_last hne
    refine tDl_0 rfl h2 ⟨1, rfl, b, _, -1, _, rfl, rfl, SqL.of h2.hb, ha, rfl, _, rfl, ?_⟩
    by_cases hz0 : z = 0
    · have e4 : decide (V.int z = V.int 0) = true := decide_eq_true (by rw [hz0])
      rw [e4]
      refine iteT ⟨fun σ' H' => σ' = [some (.ref a), some (.int n), x] ∧ DS a b F H0 H' m1 ns1.dropLast, fun σ' H' ⟨e, d⟩ => ⟨ns1.length - 1, ?_, e, m1, _, d, by rw [List.length_dropLast]⟩, ?_⟩
      · cases ns1 with
        | nil => exact absurd rfl hne
        | cons _ _ => simp
      · refine tDl_0 rfl h2 ⟨.inl ⟨rfl, _, SqL.of h2.hb⟩, b, _, _, rfl, rfl, h2.hb, pop_last hz, rfl, ?_⟩
        rw [← List.map_dropLast]
        exact h2.setB (fun y hy => h2.nn y (mem_dropL hy)) (by rw [List.length_dropLast]; have := h2.len; omega)
    · have e4 : decide (V.int z = V.int 0) = false := decide_eq_false fun q => hz0 (V.int.inj q)
      rw [e4]
      exact iteF (rest h2)
end
end DL

/-! DL, part u: a draw as a fact. -/
namespace DL
open PySem PySem.Spec PyProof.Rows L2
/-- arguments by keywords, put in the parameters' order -/
def kgG {α : Type} (n m : Nat) (idx : List Nat) (vs zs : List α) : List α := if vs.length = n ∧ zs.length = m then idx.filterMap (fun i => (vs ++ zs)[i]?) else []
theorem kgG_len {α : Type} {n m : Nat} {idx : List Nat} {vs zs : List α} {l : Nat} (h : (kgG n m idx vs zs).length = l) (hl : l ≠ 0) : vs.length = n ∧ zs.length = m := by
  unfold kgG at h
  split at h
  · assumption
  · exact absurd h.symm hl
theorem all2_app {α β : Type} {R : α → β → Prop} : ∀ {as as' : List α} {bs bs' : List β}, All2 R as bs → All2 R as' bs' → All2 R (as ++ as') (bs ++ bs')
  | _, _, _, _, .nil, h => h
  | _, _, _, _, .cons a t, h => .cons a (all2_app t h)
theorem all2_pick {α β : Type} {R : α → β → Prop} {as : List α} {bs : List β} (h : All2 R as bs) : ∀ idx : List Nat, All2 R (idx.filterMap fun i => as[i]?) (idx.filterMap fun i => bs[i]?)
  | [] => .nil
  | i :: idx => by
    rw [List.filterMap_cons, List.filterMap_cons]
    cases e : bs[i]? with
    | none =>
      have e' : as[i]? = none := by
        rw [List.getElem?_eq_none_iff] at e ⊢
        rw [all2_len h]
        exact e
      rw [e']
      exact all2_pick h idx
    | some b =>
      obtain ⟨a, ea, r⟩ := all2_get h e
      rw [ea]
      exact .cons r (all2_pick h idx)
theorem kgG_rel {α β : Type} {R : α → β → Prop} {n m : Nat} {idx : List Nat} {vs zs : List α} {ds es : List β} (h : All2 R vs ds) (g : All2 R zs es) : All2 R (kgG n m idx vs zs) (kgG n m idx ds es) := by
  unfold kgG
  rw [all2_len h, all2_len g]
  split
  · exact all2_pick (all2_app h g) idx
  · exact .nil
theorem kgG_perm {n m : Nat} {idx : List Nat} : KPerm (kgG n m idx) (kgG n m idx) := ⟨fun h g => kgG_rel h g⟩
theorem vals_all2 : ∀ {vs : List V} {us : List Value}, Vals vs us → All2 RelV vs us
  | _, _, .nil => .nil
  | _, _, .cons r t => .cons r (vals_all2 t)
theorem all2_vals : ∀ {vs : List V} {us : List Value}, All2 RelV vs us → Vals vs us
  | _, _, .nil => .nil
  | _, _, .cons r t => .cons r (all2_vals t)
theorem kgG_vals {n m : Nat} {idx : List Nat} {vs zs : List V} {us ws : List Value} (h : Vals vs us) (g : Vals zs ws) : Vals (kgG n m idx vs zs) (kgG n m idx us ws) := all2_vals (kgG_rel (vals_all2 h) (vals_all2 g))
/-- any number below the bound -/
def drawN : NSpec := fun ds Q => ∃ n : Int, ds = [.int n] ∧ 0 < n ∧ n < 1073741824 ∧ ∀ k : Int, 0 ≤ k → k < n → Q (.int k)
section
variable {K : PySem.W.Frag}
def tPop1 (K : PySem.W.Frag) : TE := tBM0 K "list" rPop (tDl K 0)
def tMod1 : TE := tOp rModI (tCB rInt1 (tCons (tVar 2) tNil)) (tVar 1)
def tPop2 (K : PySem.W.Frag) : TE := tCB rInt1 (tCons (tBM0 K "list" rPop (tDl K 0)) tNil)
def tMod2 : TE := tOp rModI (tVar 2) (tVar 1)
theorem pop_ok {a b : Addr} {F H0 H : Hp} {m z : Int} {ns : List Int} {σ : L2.St} {Q : VK} (hσ : σ[0]? = some (some (.ref a))) (h : DS a b F H0 H m ns) (hz : ns[ns.length - 1]? = some z) (q : Q (.int z) (upd H b (.lst (ns.dropLast.map V.int)))) : tBM0 K "list" rPop (tDl K 0) σ H Q := by
  refine tDl_0 hσ h ⟨.inl ⟨rfl, _, SqL.of h.hb⟩, b, _, _, rfl, rfl, h.hb, pop_last hz, ?_⟩
  rw [← List.map_dropLast]
  exact q
theorem drawP1 : DrawP K (tPop1 K) tMod1 :=
  ⟨fun hσ h hz q => pop_ok hσ h hz q, fun {H z n σ Q} h1 h2 hn q => ⟨.int z, h2, .inl ⟨z, rfl, .int n, h1, z, n, rfl, rfl, hn, q⟩⟩⟩
theorem drawP2 : DrawP K (tPop2 K) tMod2 :=
  ⟨fun {a b F H0 H m z ns σ Q} hσ h hz q => pop_ok hσ h hz (.inl ⟨z, rfl, q⟩), fun {H z n σ Q} h1 h2 hn q => ⟨.int z, h2, .int n, h1, z, n, rfl, rfl, hn, q⟩⟩
end
section
variable {P : Program} {w : World} {K : PySem.W.Frag} {mg : Str → Option Value} {base : Heap} {k : Nat} {f : Addr} {fd : FuncData} {ps N : List Str} {x qual : Str} {st : Stmt}
theorem log2_of {n : Int} (h : 0 < n) (h1 : n < 1073741824) : n.natAbs.log2 < 9000 := by
  have hz : n.natAbs ≠ 0 := by omega
  have h2 : n.natAbs < 2 ^ 30 := by omega
  have := (Nat.log2_lt hz).mpr h2
  omega
theorem draw_fact {tp tm : TE} {A B M C : Int} (dp : DrawP K tp tm) (hA : A.natAbs.log2 < 1000) (hM0 : 0 < M) (hM : M ≤ 2147483647) (hC : 0 < C) (hC1 : C.natAbs.log2 < 9000)
    (F : Fun K x qual st f fd) (hm : mg x = some (.ref f)) (S : FnScope N ps (defScope st)) (hb : Binds K fd ps []) (hl : ps.length = 2) (hN : N.length = 3)
    (body : ∀ (ι : Unit) (cdv : Value) (Ar : Around) (outer : List Env) (s : Shared) (H : Hp) (E : XK), Fam P w K mg base k (fun _ : Unit => (cxOf CX0 P w K mg base N qual (defScope st) f cdv Ar outer s H E).nox) → PSs (cxOf CX0 P w K mg base N qual (defScope st) f cdv Ar outer s H E).nox (defBody st) (tDraw K tp tm A B M C)) :
    DdL P w K mg base x (k + 1) 2 drawN := by
  refine ⟨f, fd, ps, ?_, hm, F.kp, hb, hl⟩
  have G : FnG P w K mg base CX0 (k + 1) f fd ps (spL K ps.length (nS drawN)) := by
    refine Fun.okG F S (fun vs H Q E h => h.1) fun cdv Ar outer s H vs Q E hg hr h => ?_
    obtain ⟨hl', a, b, ws, F1, ds, Qd, Ed, rfl, sm, dk, r, ⟨n, rfl, h1, h2, hk⟩, hQ, hE⟩ := h
    refine ⟨_, (body () cdv Ar outer s H E (fam_of S hg hr)).nox, ?_⟩
    cases r with
    | cons r r' =>
      cases r'
      have e := r.intI
      subst e
      have es : start N [V.ref a, V.int n] = [some (.ref a), some (.int n), none] := by
        match N, hN with
        | [_, _, _], _ => rfl
      rw [es]
      obtain ⟨m, ns, d⟩ := DS.of sm dk
      exact draw_ok dp hA hM0 hM hC hC1 d h1 (log2_of h1 h2) fun H' m' ns' k d' k0 k1 => hQ F1 H' _ (.int k) ⟨d'.st, d'.ok⟩ (.int k) (hk k k0 k1)
  rw [hl] at G
  exact G
end
end DL

/-! DL, part v: plain laws of data: ==, <, sorted; comprehensions and loops over data. -/
namespace DL
open PySem PySem.Spec PyProof.Rows L2 PySem.W
/-! ### data of None, ints, texts, tuples, lists: == is equality -/
mutual
def hd : D → Bool
  | .non => true
  | .int _ => true
  | .str _ => true
  | .lst xs => hdL xs
  | .tup xs => hdL xs
  | _ => false
def hdL : List D → Bool
  | [] => true
  | x :: xs => hd x && hdL xs
end
mutual
theorem eqv_hd : ∀ x y : D, hd x = true → hd y = true → PyData.eqv (toPy x) (toPy y) = true → x = y
  | .non, y, _, hy, h => by cases y <;> simp_all [toPy, PyData.eqv, hd]
  | .int i, y, _, hy, h => by cases y <;> simp_all [toPy, PyData.eqv, hd]
  | .str i, y, _, hy, h => by cases y <;> simp_all [toPy, PyData.eqv, hd]
  | .lst xs, y, hx, hy, h => by
    cases y with
    | lst ys =>
      simp only [toPy, PyData.eqv] at h
      simp only [hd] at hx hy
      rw [eqvL_hd xs ys hx hy h]
    | _ => simp_all [toPy, PyData.eqv, hd]
  | .tup xs, y, hx, hy, h => by
    cases y with
    | tup ys =>
      simp only [toPy, PyData.eqv] at h
      simp only [hd] at hx hy
      rw [eqvL_hd xs ys hx hy h]
    | _ => simp_all [toPy, PyData.eqv, hd]
  | .bl _, _, hx, _, _ => by simp [hd] at hx
  | .dK _, _, hx, _, _ => by simp [hd] at hx
  | .dT _, _, hx, _, _ => by simp [hd] at hx
  | .obj _ _, _, hx, _, _ => by simp [hd] at hx
  | .scr _, _, hx, _, _ => by simp [hd] at hx
  | .ty _, _, hx, _, _ => by simp [hd] at hx
  | .txt _, _, hx, _, _ => by simp [hd] at hx
theorem eqvL_hd : ∀ xs ys : List D, hdL xs = true → hdL ys = true → PyData.eqvAll (toPyL xs) (toPyL ys) = true → xs = ys
  | [], [], _, _, _ => rfl
  | [], y :: ys, _, _, h => by simp [toPyL, PyData.eqvAll] at h
  | x :: xs, [], _, _, h => by simp [toPyL, PyData.eqvAll] at h
  | x :: xs, y :: ys, hx, hy, h => by
    simp only [toPyL, PyData.eqvAll, Bool.and_eq_true] at h
    simp only [hdL, Bool.and_eq_true] at hx hy
    rw [eqv_hd x y hx.1 hy.1 h.1, eqvL_hd xs ys hx.2 hy.2 h.2]
end
mutual
theorem eqv_rfl : ∀ x : D, hd x = true → PyData.eqv (toPy x) (toPy x) = true
  | .non, _ => by simp [toPy, PyData.eqv]
  | .int i, _ => by simp [toPy, PyData.eqv]
  | .str i, _ => by simp [toPy, PyData.eqv]
  | .lst xs, hx => by
    simp only [hd] at hx
    simp only [toPy, PyData.eqv]
    exact eqvL_rfl xs hx
  | .tup xs, hx => by
    simp only [hd] at hx
    simp only [toPy, PyData.eqv]
    exact eqvL_rfl xs hx
  | .bl _, hx => by simp [hd] at hx
  | .dK _, hx => by simp [hd] at hx
  | .dT _, hx => by simp [hd] at hx
  | .obj _ _, hx => by simp [hd] at hx
  | .scr _, hx => by simp [hd] at hx
  | .ty _, hx => by simp [hd] at hx
  | .txt _, hx => by simp [hd] at hx
theorem eqvL_rfl : ∀ xs : List D, hdL xs = true → PyData.eqvAll (toPyL xs) (toPyL xs) = true
  | [], _ => by simp [toPyL, PyData.eqvAll]
  | x :: xs, hx => by
    simp only [hdL, Bool.and_eq_true] at hx
    simp only [toPyL, PyData.eqvAll, Bool.and_eq_true]
    exact ⟨eqv_rfl x hx.1, eqvL_rfl xs hx.2⟩
end
theorem eqD_iff {x y : D} (hx : hd x = true) (hy : hd y = true) : eqD x y = true ↔ x = y := by
  refine ⟨eqv_hd x y hx hy, fun e => ?_⟩
  subst e
  exact eqv_rfl x hx
theorem eqD_dec {x y : D} [Decidable (x = y)] (hx : hd x = true) (hy : hd y = true) : eqD x y = decide (x = y) := by
  by_cases e : x = y
  · rw [decide_eq_true e]
    exact (eqD_iff hx hy).mpr e
  · rw [decide_eq_false e]
    cases q : eqD x y with
    | false => rfl
    | true => exact absurd ((eqD_iff hx hy).mp q) e
theorem eqD_dec' {x y : D} {p : Prop} [Decidable p] (hx : hd x = true) (hy : hd y = true) (h : x = y ↔ p) : eqD x y = decide p := by
  by_cases e : p
  · rw [decide_eq_true e]
    exact (eqD_iff hx hy).mpr (h.mpr e)
  · rw [decide_eq_false e]
    cases q : eqD x y with
    | false => rfl
    | true => exact absurd (h.mp ((eqD_iff hx hy).mp q)) e
theorem hdL_all (xs : List D) : hdL xs = xs.all hd := by
  induction xs with
  | nil => simp [hdL]
  | cons x xs ih => simp [hdL, ih]
theorem memD_iff {x : D} {ys : List D} (hx : hd x = true) (hy : ∀ y ∈ ys, hd y = true) : memD x ys = true ↔ x ∈ ys := by
  unfold memD
  rw [List.any_eq_true]
  refine ⟨fun ⟨y, hm, e⟩ => ?_, fun hm => ⟨x, hm, (eqD_iff hx hx).mpr rfl⟩⟩
  rw [← (eqD_iff (hy y hm) hx).mp e]
  exact hm
theorem memD_map {α : Type} {f : α → D} {x : α} {ys : List α} [Decidable (x ∈ ys)] (hf : ∀ a, hd (f a) = true) (inj : ∀ a b, f a = f b → a = b) : memD (f x) (ys.map f) = decide (x ∈ ys) := by
  have h := memD_iff (ys := ys.map f) (hf x) fun y hy => by
    obtain ⟨a, _, rfl⟩ := List.mem_map.mp hy
    exact hf a
  by_cases hm : x ∈ ys
  · rw [decide_eq_true hm]
    exact h.mpr (List.mem_map.mpr ⟨x, hm, rfl⟩)
  · rw [decide_eq_false hm]
    cases q : memD (f x) (ys.map f) with
    | false => rfl
    | true =>
      obtain ⟨a, ha, e⟩ := List.mem_map.mp (h.mp q)
      rw [inj _ _ e] at ha
      exact absurd ha hm
theorem eqD_map {α : Type} {f : α → D} {x y : α} [Decidable (x = y)] (hf : ∀ a, hd (f a) = true) (inj : ∀ a b, f a = f b → a = b) : eqD (f x) (f y) = decide (x = y) := by
  by_cases e : x = y
  · rw [decide_eq_true e, e]
    exact (eqD_iff (hf y) (hf y)).mpr rfl
  · rw [decide_eq_false e]
    cases q : eqD (f x) (f y) with
    | false => rfl
    | true => exact absurd (inj _ _ ((eqD_iff (hf x) (hf y)).mp q)) e
mutual
theorem hd_plain : ∀ x : D, hd x = true → plain x = true
  | .non, _ => by simp [plain]
  | .int _, _ => by simp [plain]
  | .str _, _ => by simp [plain]
  | .lst xs, h => by simp only [hd] at h; simp only [plain]; exact hdL_plain xs h
  | .tup xs, h => by simp only [hd] at h; simp only [plain]; exact hdL_plain xs h
  | .bl _, _ => by simp [plain]
  | .dK _, hx => by simp [hd] at hx
  | .dT _, hx => by simp [hd] at hx
  | .obj _ _, hx => by simp [hd] at hx
  | .scr _, _ => by simp [plain]
  | .ty _, hx => by simp [hd] at hx
  | .txt _, hx => by simp [hd] at hx
theorem hdL_plain : ∀ xs : List D, hdL xs = true → plainL xs = true
  | [], _ => by simp [plainL]
  | x :: xs, h => by
    simp only [hdL, Bool.and_eq_true] at h
    simp only [plainL, Bool.and_eq_true]
    exact ⟨hd_plain x h.1, hdL_plain xs h.2⟩
end
theorem okD_of {x : D} (h : hd x = true) (hd2 : dep x ≤ 60) : okD x = true := by
  unfold okD
  rw [hd_plain x h, Bool.true_and]
  exact decide_eq_true hd2
/-! ### < -/
theorem ltD_irrefl (x : D) : ltD x x = false := (listOrd itemOrd).irrefl _
theorem ltD_trans {x y z : D} (h : ltD x y = true) (g : ltD y z = true) : ltD x z = true := (listOrd itemOrd).trans _ _ _ h g
theorem ltD_neg {x y z : D} (h : ltD x z = true) : ltD x y = true ∨ ltD y z = true := (listOrd itemOrd).negTrans _ _ _ h
theorem toks_inj {x y : PyData} (h : alike x y = true) (e : keyToks x = keyToks y) : PyData.eqv x y = true := by
  cases q : PyData.eqv x y with
  | true => rfl
  | false =>
    have z := (toks_eqv x y h).2 q [] [.inl 0]
    rw [e] at z
    have z1 : lexLt itemOrd (keyToks y ++ []) (keyToks y ++ [Sum.inl 0]) = lexLt itemOrd [] [Sum.inl 0] := lex_pre _ _ _
    rw [z1, lex_irrefl] at z
    cases z
theorem ltD_total {x y : D} (a : alike (toPy x) (toPy y) = true) (h : ltD x y = false) (g : ltD y x = false) : eqD x y = true := toks_inj a ((listOrd itemOrd).total _ _ h g)
theorem ltD_asymm {x y : D} (h : ltD x y = true) : ltD y x = false := by
  cases q : ltD y x with
  | false => rfl
  | true =>
    have := ltD_trans h q
    rw [ltD_irrefl] at this
    cases this
/-! ### sorted -/
theorem sortD_perm (xs : List D) : (sortD xs).Perm xs := List.mergeSort_perm _ _
theorem sortD_pw (xs : List D) : (sortD xs).Pairwise fun a b => ltD b a = false := by
  have h := List.pairwise_mergeSort (le := fun a b : D => !ltD b a) (fun a b c h1 h2 => by
    simp only [Bool.not_eq_true'] at h1 h2 ⊢
    cases q : ltD c a with
    | false => rfl
    | true =>
      rcases ltD_neg (y := b) q with z | z
      · rw [z] at h2; cases h2
      · rw [z] at h1; cases h1) (fun a b => by
    cases q : ltD b a with
    | false => simp
    | true => simp [ltD_asymm q]) xs
  exact h.imp fun {a b} q => by simpa using q
/-- strictly rising -/
abbrev Rise (xs : List D) : Prop := xs.Pairwise fun a b => ltD a b = true
theorem sortD_rise {xs : List D} (nd : xs.Nodup) (hh : ∀ x ∈ xs, hd x = true) (al : ∀ x ∈ xs, ∀ y ∈ xs, alike (toPy x) (toPy y) = true) : Rise (sortD xs) := by
  have p := sortD_perm xs
  have nd' : (sortD xs).Nodup := p.nodup_iff.mpr nd
  have h := sortD_pw xs
  have h2 : (sortD xs).Pairwise fun a b => a ≠ b := nd'
  refine (h.and h2).imp_of_mem fun {a b} ha hb ⟨q1, q2⟩ => ?_
  cases q : ltD a b with
  | true => rfl
  | false =>
    have ma := p.mem_iff.mp ha
    have mb := p.mem_iff.mp hb
    exact absurd ((eqD_iff (hh a ma) (hh b mb)).mp (ltD_total (al a ma b mb) q q1)) q2
/-! ### comprehensions -/
/-- a comprehension whose test and element are settled -/
theorem lc_det {g : FG} {ft : FT} {fe : FE} {st : DSt} (p : D → Bool) (h : D → D) : ∀ {ds : List D} {Q : List D → Prop},
    (∀ d ∈ ds, ∀ (Y : D → Prop) (Z : Prop), (p d = true → Y (h d)) → (p d = false → Z) → g d st fun st1 => ft st1 (fun b => if b = true then fe st1 Y (fun _ => False) else Z) fun _ => False) →
    Q ((ds.filter p).map h) → lcGo g ft fe st ds Q
  | [], Q, _, q => q
  | d :: ds, Q, H, q => by
    refine H d List.mem_cons_self _ _ (fun e => ?_) (fun e => ?_)
    · refine lc_det p h (fun d hd => H d (List.mem_cons_of_mem _ hd)) ?_
      rw [List.filter_cons, if_pos e, List.map_cons] at q
      exact q
    · refine lc_det p h (fun d hd => H d (List.mem_cons_of_mem _ hd)) ?_
      rw [List.filter_cons, if_neg (by rw [e]; simp)] at q
      exact q
/-- without a test -/
theorem lc_map {g : FG} {fe : FE} {st : DSt} (h : D → D) {ds : List D} {Q : List D → Prop} (H : ∀ d ∈ ds, ∀ Y : D → Prop, Y (h d) → g d st fun st1 => fe st1 Y fun _ => False) (q : Q (ds.map h)) : lcGo g dYes fe st ds Q := by
  refine lc_det (fun _ => true) h (fun d hd Y Z y _ => ?_) (by rw [List.filter_eq_self.mpr (fun _ _ => rfl)]; exact q)
  exact H d hd Y (y rfl)
/-- a comprehension whose test and element may fall anyhow: I tells what may have come of what was walked -/
theorem lc_rel {g : FG} {ft : FT} {fe : FE} {st : DSt} (I : List D → List D → Prop) : ∀ {ds : List D} {Q : List D → Prop} (done acc : List D), I done acc → (∀ acc', I (done ++ ds) (acc ++ acc') → Q acc') →
    (∀ (done acc : List D) (d : D) (Y : D → Prop) (Z : Prop), I done acc → d ∈ ds → (∀ y, I (done ++ [d]) (acc ++ [y]) → Y y) → (I (done ++ [d]) acc → Z) → g d st fun st1 => ft st1 (fun b => if b = true then fe st1 Y (fun _ => False) else Z) fun _ => False) → lcGo g ft fe st ds Q
  | [], Q, done, acc, i, q, _ => by
    have := q []
    rw [List.append_nil, List.append_nil] at this
    exact this i
  | d :: ds, Q, done, acc, i, q, H => by
    refine H done acc d _ _ i List.mem_cons_self (fun y iy => ?_) (fun iz => ?_)
    · refine lc_rel I (done ++ [d]) (acc ++ [y]) iy (fun acc' h => q (y :: acc') ?_) fun dn ac e Y Z h he => H dn ac e Y Z h (List.mem_cons_of_mem _ he)
      rw [List.append_assoc, List.append_assoc] at h
      exact h
    · refine lc_rel I (done ++ [d]) acc iz (fun acc' h => q acc' ?_) fun dn ac e Y Z h he => H dn ac e Y Z h (List.mem_cons_of_mem _ he)
      rw [List.append_assoc] at h
      exact h
theorem isi_tup {xs : List D} {Q : D → Prop} : gIsi [.tup xs, .ty "tuple"] Q = Q (.bl true) := by
  have e : kitB "tuple" "tuple" = some true := by decide +kernel
  show (match kitB "tuple" "tuple" with
    | some b => Q (.bl b)
    | none => False) = _
  rw [e]
theorem ne_int {i j : Int} {Q : D → Prop} : gNeT (.int i) (.int j) Q = Q (.bl (!decide (i = j))) := by
  have e : eqD (.int i) (.int j) = decide (i = j) := eqD_dec' (by simp [hd]) (by simp [hd]) (by simp)
  show (okD (.int i) = true ∧ okD (.int j) = true ∧ Q (.bl (!eqD (.int i) (.int j)))) = _
  rw [okD_of (x := .int i) (by simp [hd]) (by simp [dep]), okD_of (x := .int j) (by simp [hd]) (by simp [dep]), e]
  simp
theorem eq_int {i j : Int} {Q : D → Prop} : gEqT (.int i) (.int j) Q = Q (.bl (decide (i = j))) := by
  have e : eqD (.int i) (.int j) = decide (i = j) := eqD_dec' (by simp [hd]) (by simp [hd]) (by simp)
  show (okD (.int i) = true ∧ okD (.int j) = true ∧ Q (.bl (eqD (.int i) (.int j)))) = _
  rw [okD_of (x := .int i) (by simp [hd]) (by simp [dep]), okD_of (x := .int j) (by simp [hd]) (by simp [dep]), e]
  simp
theorem eq_str {i j : Str} {Q : D → Prop} : gEqT (.str i) (.str j) Q = Q (.bl (decide (i = j))) := by
  have e : eqD (.str i) (.str j) = decide (i = j) := eqD_dec' (by simp [hd]) (by simp [hd]) (by simp)
  show (okD (.str i) = true ∧ okD (.str j) = true ∧ Q (.bl (eqD (.str i) (.str j)))) = _
  rw [okD_of (x := .str i) (by simp [hd]) (by simp [dep]), okD_of (x := .str j) (by simp [hd]) (by simp [dep]), e]
  simp
theorem ne_str {i j : Str} {Q : D → Prop} : gNeT (.str i) (.str j) Q = Q (.bl (!decide (i = j))) := by
  have e : eqD (.str i) (.str j) = decide (i = j) := eqD_dec' (by simp [hd]) (by simp [hd]) (by simp)
  show (okD (.str i) = true ∧ okD (.str j) = true ∧ Q (.bl (!eqD (.str i) (.str j)))) = _
  rw [okD_of (x := .str i) (by simp [hd]) (by simp [dep]), okD_of (x := .str j) (by simp [hd]) (by simp [dep]), e]
  simp
theorem ok_nilL : okD (.lst []) = true := okD_of (by simp [hd, hdL]) (by simp [dep, depL])
theorem ok_nilT : okD (.tup []) = true := okD_of (by simp [hd, hdL]) (by simp [dep, depL])
theorem eqD_nilL (xs : List D) : eqD (.lst xs) (.lst []) = xs.isEmpty := by
  cases xs <;> simp [eqD, toPy, toPyL, PyData.eqv, PyData.eqvAll]
theorem eqD_nilT (xs : List D) : eqD (.tup xs) (.tup []) = xs.isEmpty := by
  cases xs <;> simp [eqD, toPy, toPyL, PyData.eqv, PyData.eqvAll]
theorem eq_nilL {xs : List D} {Q : D → Prop} (o : okD (.lst xs) = true) (q : Q (.bl xs.isEmpty)) : gEqT (.lst xs) (.lst []) Q := by
  show okD (.lst xs) = true ∧ okD (.lst []) = true ∧ Q (.bl (eqD (.lst xs) (.lst [])))
  rw [eqD_nilL]
  exact ⟨o, ok_nilL, q⟩
theorem ne_nilL {xs : List D} {Q : D → Prop} (o : okD (.lst xs) = true) (q : Q (.bl (!xs.isEmpty))) : gNeT (.lst xs) (.lst []) Q := by
  show okD (.lst xs) = true ∧ okD (.lst []) = true ∧ Q (.bl (!eqD (.lst xs) (.lst [])))
  rw [eqD_nilL]
  exact ⟨o, ok_nilL, q⟩
theorem ne_nilT {xs : List D} {Q : D → Prop} (o : okD (.tup xs) = true) (q : Q (.bl (!xs.isEmpty))) : gNeT (.tup xs) (.tup []) Q := by
  show okD (.tup xs) = true ∧ okD (.tup []) = true ∧ Q (.bl (!eqD (.tup xs) (.tup [])))
  rw [eqD_nilT]
  exact ⟨o, ok_nilT, q⟩
theorem at_0 {x : D} {xs : List D} : L2.atI (x :: xs) 0 = some x := by
  unfold L2.atI ixN
  rw [if_pos (by omega), if_pos (by simp)]
  rfl
theorem at_1 {x y : D} {xs : List D} : L2.atI (x :: y :: xs) 1 = some y := by
  unfold L2.atI ixN
  rw [if_pos (by omega), if_pos (by simp; omega)]
  rfl
theorem at_2 {x y z : D} {xs : List D} : L2.atI (x :: y :: z :: xs) 2 = some z := by
  unfold L2.atI ixN
  rw [if_pos (by omega), if_pos (by simp; omega)]
  rfl
theorem at_3 {x y z u : D} {xs : List D} : L2.atI (x :: y :: z :: u :: xs) 3 = some u := by
  unfold L2.atI ixN
  rw [if_pos (by omega), if_pos (by simp; omega)]
  rfl
/-! ### any, all of a comprehension -/
theorem bools_map {α : Type} {f : α → D} {b : α → Bool} : ∀ {xs : List α}, (∀ x ∈ xs, f x = .bl (b x)) → boolsOf (xs.map f) = some (xs.map b)
  | [], _ => rfl
  | x :: xs, h => by
    rw [List.map_cons, h x List.mem_cons_self, List.map_cons]
    show (boolsOf (xs.map f)).map (b x :: ·) = _
    rw [bools_map fun y hy => h y (List.mem_cons_of_mem _ hy)]
    rfl
theorem gAll_map {α : Type} {f : α → D} (b : α → Bool) {xs : List α} {Q : D → Prop} (h : ∀ x ∈ xs, f x = .bl (b x)) (q : Q (.bl (xs.all b))) : gAll [.lst (xs.map f)] Q := by
  show (match boolsOf (xs.map f) with
    | some bs => Q (.bl (bs.all id))
    | none => False)
  rw [bools_map h]
  show Q (.bl ((xs.map b).all id))
  rw [List.all_map]
  exact q
theorem gAny_map {α : Type} {f : α → D} (b : α → Bool) {xs : List α} {Q : D → Prop} (h : ∀ x ∈ xs, f x = .bl (b x)) (q : Q (.bl (xs.any b))) : gAny [.lst (xs.map f)] Q := by
  show (match boolsOf (xs.map f) with
    | some bs => Q (.bl (bs.any id))
    | none => False)
  rw [bools_map h]
  show Q (.bl ((xs.map b).any id))
  rw [List.any_map]
  exact q
theorem gAll_yes {α : Type} {f : α → D} {xs : List α} {Q : D → Prop} (h : ∀ x ∈ xs, f x = .bl true) (q : Q (.bl true)) : gAll [.lst (xs.map f)] Q := by
  refine gAll_map (fun _ => true) h ?_
  have e : (xs.all fun _ => true) = true := by simp
  rw [e]
  exact q
/-! ### loops -/
/-- a loop by a word over what was walked -/
theorem for_inv {g : FG} {b : FS} {N : DEnds} (I : List D → DSt → Prop) : ∀ {ds : List D} {st : DSt} (done : List D), I done st → (∀ st', I (done ++ ds) st' → N.nx st') →
    (∀ (done : List D) (d : D) (st : DSt), I done st → d ∈ ds → ∀ k : DSt → Prop, (∀ st', I (done ++ [d]) st' → k st') → g d st fun st1 => b { N with nx := k, ct := k, bk := N.nx } st1) → forGo g b N ds st
  | [], st, done, i, q, _ => by
    have := q st
    rw [List.append_nil] at this
    exact this i
  | d :: ds, st, done, i, q, H => by
    refine H done d st i List.mem_cons_self _ fun st' i' => ?_
    refine for_inv I (done ++ [d]) i' (fun st'' h => q st'' ?_) fun dn e st h he => H dn e st h (List.mem_cons_of_mem _ he)
    rw [List.append_assoc] at h
    exact h
/-- a loop whose turns do nothing but perhaps return -/
theorem for_each {g : FG} {b : FS} {N : DEnds} (J : DSt → Prop) {ds : List D} {st : DSt} (h : J st) (q : ∀ st', J st' → N.nx st') (H : ∀ d ∈ ds, ∀ st, J st → ∀ k : DSt → Prop, (∀ st', J st' → k st') → g d st fun st1 => b { N with nx := k, ct := k, bk := N.nx } st1) : forGo g b N ds st :=
  for_inv (fun _ st => J st) [] h q fun _ d st j hd k hk => H d hd st j k hk
end DL

/-! DL, part w: more plain laws. -/
namespace DL
open PySem PySem.Spec PyProof.Rows L2
theorem cut_take {α : Type} (xs : List α) (k : Nat) : cutG xs none (some (k : Int)) = xs.take k := by
  unfold cutG
  rw [HT.sIx_none, HT.sIx_nat, List.drop_zero, Nat.sub_zero]
  by_cases h : k ≤ xs.length
  · rw [Nat.min_eq_left h]
  · rw [Nat.min_eq_right (by omega), List.take_of_length_le (Nat.le_refl _), List.take_of_length_le (by omega)]
theorem cut_drop {α : Type} (xs : List α) (k : Nat) : cutG xs (some (k : Int)) none = xs.drop k := by
  unfold cutG
  rw [HT.sIx_none, HT.sIx_nat]
  by_cases h : k ≤ xs.length
  · rw [Nat.min_eq_left h, List.take_of_length_le (by rw [List.length_drop]; omega)]
  · rw [Nat.min_eq_right (by omega), List.drop_of_length_le (Nat.le_refl _), List.drop_of_length_le (by omega : xs.length ≤ k)]
    simp
theorem cut_drop1 {α : Type} (xs : List α) (k : Nat) : cutG xs (some ((k : Int) + 1)) none = xs.drop (k + 1) := cut_drop xs (k + 1)
theorem gAny_no {α : Type} {f : α → D} {xs : List α} {Q : D → Prop} (h : ∀ x ∈ xs, f x = .bl false) (q : Q (.bl false)) : gAny [.lst (xs.map f)] Q := by
  refine gAny_map (fun _ => false) h ?_
  have e : (xs.any fun _ => false) = false := by simp
  rw [e]
  exact q
theorem pairs_mem {ds : List D} {d : D} (h : d ∈ pairs ds) : ∃ (i : Nat) (x : D), ds[i]? = some x ∧ d = .tup [.int (i : Nat), x] := by
  obtain ⟨i, hi, e⟩ := List.getElem_of_mem h
  have e' : (pairs ds)[i]? = some d := by rw [List.getElem?_eq_getElem hi, e]
  obtain ⟨x, ex, e2⟩ := pairs_get e'
  exact ⟨i, x, ex, e2⟩
/-- the rest of a list without repeats has not the item at i -/
theorem rest_ne {α : Type} {xs : List α} (nd : xs.Nodup) {i : Nat} {x : α} (h : xs[i]? = some x) : ∀ y ∈ xs.take i ++ xs.drop (i + 1), y ≠ x := by
  obtain ⟨hi, rfl⟩ := List.getElem?_eq_some_iff.mp h
  have e : xs = xs.take i ++ xs[i] :: xs.drop (i + 1) := by
    rw [← List.drop_eq_getElem_cons hi, List.take_append_drop]
  have nd2 := nd
  rw [e] at nd2
  have nd3 := List.nodup_append.mp nd2
  intro y hy hyx
  rcases List.mem_append.mp hy with h1 | h1
  · exact nd3.2.2 y h1 xs[i] List.mem_cons_self hyx
  · have := (List.nodup_cons.mp nd3.2.1).1
    rw [hyx] at h1
    exact this h1
theorem nodup_of_map {α β : Type} {f : α → β} : ∀ {l : List α}, (l.map f).Nodup → l.Nodup
  | [], _ => List.nodup_nil
  | a :: l, h => by
    rw [List.map_cons, List.nodup_cons] at h
    rw [List.nodup_cons]
    exact ⟨fun hm => h.1 (List.mem_map_of_mem hm), nodup_of_map h.2⟩
/-- a loop that returns at the first that answers -/
theorem for_first {g : FG} {b : FS} {α : Type} {f : α → D} {r : α → Option D} (J : DSt → Prop) : ∀ {N : DEnds} {xs : List α} {st : DSt}, J st → (xs.findSome? r = none → ∀ st', J st' → N.nx st') → (∀ d, xs.findSome? r = some d → N.rt d) →
    (∀ x ∈ xs, ∀ st, J st → ∀ (k : DSt → Prop) (rt : D → Prop), (r x = none → ∀ st', J st' → k st') → (∀ d, r x = some d → rt d) → g (f x) st fun st1 => b { N with nx := k, ct := k, bk := N.nx, rt := rt } st1) → forGo g b N (xs.map f) st
  | N, [], st, j, q, _, _ => q rfl st j
  | N, x :: xs, st, j, q, q2, H => by
    refine H x List.mem_cons_self st j _ N.rt (fun e st' j' => ?_) fun d e => ?_
    · have ee : (x :: xs).findSome? r = xs.findSome? r := by rw [List.findSome?_cons, e]
      rw [ee] at q q2
      exact for_first J j' q q2 fun y hy => H y (List.mem_cons_of_mem _ hy)
    · exact q2 d (by rw [List.findSome?_cons, e])
theorem find_head {α β γ : Type} {F : α → List β} {G : β → γ} : ∀ xs : List α, xs.findSome? (fun x => (F x).head?.map G) = (xs.flatMap F).head?.map G
  | [] => rfl
  | x :: xs => by
    rw [List.findSome?_cons, List.flatMap_cons]
    cases e : F x with
    | nil => simpa using find_head xs
    | cons y ys => rfl
/-- a loop by its count -/
theorem for_ix {g : FG} {b : FS} {N : DEnds} (I : Nat → DSt → Prop) {ds : List D} : ∀ {es : List D} {i : Nat} {st : DSt}, ds.drop i = es → I i st → (∀ st', I ds.length st' → N.nx st') → i ≤ ds.length →
    (∀ (i : Nat) (d : D) (st : DSt), ds[i]? = some d → I i st → ∀ k : DSt → Prop, (∀ st', I (i + 1) st' → k st') → g d st fun st1 => b { N with nx := k, ct := k, bk := N.nx } st1) → forGo g b N es st
  | [], i, st, e, j, q, hi, _ => by
    have : ds.length ≤ i := List.drop_eq_nil_iff.mp e
    have e2 : i = ds.length := by omega
    rw [e2] at j
    exact q st j
  | d :: es, i, st, e, j, q, hi, H => by
    have e1 : ds[i]? = some d := by
      have := congrArg (fun l : List D => l[0]?) e
      simpa using this
    have e2 : ds.drop (i + 1) = es := by rw [← List.drop_drop, e]; rfl
    have h1 : i < ds.length := (List.getElem?_eq_some_iff.mp e1).1
    exact H i d st e1 j _ fun st' j' => for_ix I e2 j' q h1 H
theorem for_rng {g : FG} {b : FS} {N : DEnds} (I : Nat → DSt → Prop) {n : Nat} {st : DSt} (j : I 0 st) (q : ∀ st', I n st' → N.nx st')
    (H : ∀ i, i < n → ∀ st, I i st → ∀ k : DSt → Prop, (∀ st', I (i + 1) st' → k st') → g (.int (i : Int)) st fun st1 => b { N with nx := k, ct := k, bk := N.nx } st1) : forGo g b N (rngD 0 n) st := by
  have hl : (rngD 0 n).length = n := by unfold rngD; rw [List.length_map, List.length_range]
  refine for_ix I (ds := rngD 0 n) rfl j (by rw [hl]; exact q) (Nat.zero_le _) fun i d st e j k hk => ?_
  unfold rngD at e
  rw [List.getElem?_map] at e
  have hi : i < n := by
    rcases Nat.lt_or_ge i n with h | h
    · exact h
    · rw [List.getElem?_eq_none (by rw [List.length_range]; exact h)] at e
      cases e
  rw [List.getElem?_range hi, Option.map_some, Int.zero_add] at e
  injection e with e
  rw [← e]
  exact H i hi st j k hk
theorem join_signs (cs : List Nat) : Txt.join (Str.ofString "") (cs.map fun c => (⟨#[c]⟩ : Str)) = ⟨cs.toArray⟩ := by
  have go : ∀ (l : List Nat) (acc : List Nat), (l.map fun c => (⟨#[c]⟩ : Str)).foldl (fun a p => a ++ (Str.ofString "").cps ++ p.cps) acc.toArray = (acc ++ l).toArray := by
    intro l
    induction l with
    | nil => intro acc; simp
    | cons c l ih =>
      intro acc
      have e : acc.toArray ++ (Str.ofString "").cps ++ #[c] = (acc ++ [c]).toArray := by
        have : (Str.ofString "").cps = #[] := rfl
        rw [this]
        simp
      rw [List.map_cons, List.foldl_cons, e, ih]
      simp
  show PySem.Builtin.Str.glued _ _ = _
  rw [PySem.StrLaws.glued_eq_join]
  cases cs with
  | nil => rfl
  | cons c l =>
    rw [List.map_cons, ← PySem.StrLaws.glued_cons]
    have := go l [c]
    rw [show (#[c] : Array Nat) = [c].toArray from rfl, this]
    rfl
theorem strsOf_signs (cs : List Nat) : strsOf (cs.map sgn) = some (cs.map fun c => (⟨#[c]⟩ : Str)) := by
  rw [show (cs.map sgn) = (cs.map fun c => (⟨#[c]⟩ : Str)).map D.str from by rw [List.map_map]; rfl]
  exact strsOf_map _
theorem atI_in {α : Type} {xs : List α} {k : Int} (h0 : 0 ≤ k) (h1 : k < xs.length) : ∃ x, x ∈ xs ∧ L2.atI xs k = some x := by
  have e : L2.atI xs k = xs[k.toNat]? := by
    unfold L2.atI ixN
    rw [if_pos h0, if_pos h1]
    rfl
  have h2 : k.toNat < xs.length := by omega
  exact ⟨xs[k.toNat], List.getElem_mem h2, by rw [e]; exact List.getElem?_eq_getElem h2⟩
theorem putD_len (n : Str) (d : D) : ∀ fs : List (Str × D), (putD n d fs).length ≤ fs.length + 1
  | [] => by simp [putD]
  | f :: fs => by
    have := putD_len n d fs
    unfold putD
    split <;> simp_all
/-! ### < of tuples -/
section
open PySem.W
theorem ltD_head {x y : D} {xs ys : List D} (al : alike (toPy x) (toPy y) = true) (h : ltD x y = true) : ltD (.tup (x :: xs)) (.tup (y :: ys)) = true := by
  have ne : PyData.eqv (toPy x) (toPy y) = false := by
    cases q : PyData.eqv (toPy x) (toPy y) with
    | false => rfl
    | true =>
      have := (toks_eqv _ _ al).1 q
      unfold ltD dataLt at h
      rw [this, lex_irrefl] at h
      cases h
  have := (toks_eqv _ _ al).2 ne (keyToksAll (toPyL xs)) (keyToksAll (toPyL ys))
  unfold ltD dataLt
  simp only [toPy, toPyL, keyToks, keyToksAll]
  rw [lex_self (O := itemOrd), this]
  exact h
theorem ltD_tail {x : D} {xs ys : List D} : ltD (.tup (x :: xs)) (.tup (x :: ys)) = ltD (.tup xs) (.tup ys) := by
  unfold ltD dataLt
  simp only [toPy, toPyL, keyToks, keyToksAll]
  rw [lex_self (O := itemOrd), lex_pre]
end
/-- a strictly rising list whose items are all in another is its sublist -/
theorem sub_of_rise {α : Type} {R : α → α → Prop} (as : ∀ a b, R a b → ¬ R b a) : ∀ {m l : List α}, l.Pairwise R → m.Pairwise R → (∀ x ∈ l, x ∈ m) → l.Sublist m
  | [], [], _, _, _ => .slnil
  | [], a :: l, _, _, h => absurd (h a List.mem_cons_self) List.not_mem_nil
  | b :: m, [], _, _, _ => List.nil_sublist _
  | b :: m, a :: l, hl, hm, h => by
    rw [List.pairwise_cons] at hl hm
    rcases List.mem_cons.mp (h a List.mem_cons_self) with e | hmem
    · subst e
      refine (sub_of_rise as hl.2 hm.2 fun x hx => ?_).cons₂ a
      rcases List.mem_cons.mp (h x (List.mem_cons_of_mem _ hx)) with e | h2
      · have := hl.1 x hx
        rw [e] at this
        exact absurd this (as _ _ this)
      · exact h2
    · have rb := hm.1 a hmem
      refine (sub_of_rise as (List.pairwise_cons.mpr hl) hm.2 fun x hx => ?_).cons b
      rcases List.mem_cons.mp (h x hx) with e | h2
      · subst e
        rcases List.mem_cons.mp hx with e2 | h3
        · rw [e2] at rb
          exact absurd rb (as _ _ rb)
        · exact absurd (hl.1 x h3) (as _ _ rb)
      · exact h2
theorem max_len {α : Type} (f : α → Nat) : ∀ {l : List α}, l ≠ [] → ∃ x ∈ l, ∀ y ∈ l, f y ≤ f x
  | [], h => absurd rfl h
  | [a], _ => ⟨a, List.mem_cons_self, fun y hy => by rw [List.mem_singleton.mp hy]; exact Nat.le_refl _⟩
  | a :: b :: l, _ => by
    obtain ⟨x, hx, h⟩ := max_len f (l := b :: l) (by simp)
    by_cases c : f a ≤ f x
    · refine ⟨x, List.mem_cons_of_mem _ hx, fun y hy => ?_⟩
      rcases List.mem_cons.mp hy with rfl | hy
      · exact c
      · exact h y hy
    · refine ⟨a, List.mem_cons_self, fun y hy => ?_⟩
      rcases List.mem_cons.mp hy with rfl | hy
      · exact Nat.le_refl _
      · have := h y hy
        omega
/-! ### repr -/
section
variable {d : D} {Q : D → Prop}
theorem gRepr_of (o : okD d = true) (sh : (toPy d).showable = true) (ls : (toPy d).leavesShort 13 = true) (w : (toPy d).weight ≤ 1000000) (q : Q (.txt (shownD d))) : gRepr [d] Q := by
  refine ⟨o, sh, ?_, q⟩
  have := PyData.shown_le 13 (by decide) (toPy d) ls
  have h2 : sizeLine = 16777216 := sizeLine_eq
  show (toPy d).shown.length ≤ sizeLine
  omega
theorem ok_bl (b : Bool) : okD (.bl b) = true := by cases b <;> rfl
theorem gRepr_bl {b : Bool} (q : Q (.txt (shownD (.bl b)))) : gRepr [.bl b] Q := gRepr_of (ok_bl b) (by simp [toPy, PyData.showable]) (by simp [toPy, PyData.leavesShort]) (by simp [toPy, PyData.weight]) q
theorem gRepr_non (q : Q (.txt (shownD .non))) : gRepr [.non] Q := gRepr_of (by rfl) (by simp [toPy, PyData.showable]) (by simp [toPy, PyData.leavesShort]) (by simp [toPy, PyData.weight]) q
theorem ne_bl {b : Bool} (q : Q (.bl false)) : gNeT (.bl b) (.bl b) Q := by
  show okD (.bl b) = true ∧ okD (.bl b) = true ∧ Q (.bl (!eqD (.bl b) (.bl b)))
  have e : eqD (.bl b) (.bl b) = true := by cases b <;> simp [eqD, toPy, PyData.eqv]
  rw [e]
  exact ⟨ok_bl b, ok_bl b, q⟩
theorem ne_txt {z : Str} : gNeT (.txt z) (.txt z) Q = Q (.bl false) := by
  show Q (.bl (!decide (z = z))) = _
  rw [decide_eq_true rfl]
  rfl
end
end DL

/-! K67: what the defs promise, over data. -/
namespace K67
open PySem PySem.Spec PyProof.Rows L2 DL
/-- a name: one to eight small letters -/
def nm (s : Str) : Prop := 1 ≤ s.length ∧ s.length ≤ 8 ∧ ∀ c ∈ s.cps.toList, 97 ≤ c ∧ c ≤ 122
def lotD (l : List Str) : D := .tup (l.map D.str)
def pairD (p : Str × Str) : D := .tup [.str p.1, .str p.2]
def cntD (c : Str × List (List Str)) : D := .tup [.str c.1, .tup (c.2.map lotD)]
structure Told where
  names : List Str
  tells : List (Str × Str)
  cnts : List (Str × List (List Str))
  fgs : List (List Str)
def Told.d (t : Told) : D := .tup [lotD t.names, .tup (t.tells.map pairD), .tup (t.cnts.map cntD), .tup (t.fgs.map lotD)]
/-- a lot: names rising -/
structure Lot (b : Nat) (names l : List Str) : Prop where
  r : Rise (l.map D.str)
  s : ∀ x ∈ l, x ∈ names
  z : l.length ≤ b
structure Cnt (b : Nat) (names : List Str) (c : Str × List (List Str)) : Prop where
  h : nm c.1
  ne : c.2 ≠ []
  r : Rise (c.2.map lotD)
  z : c.2.length ≤ b
  l : ∀ l ∈ c.2, l ≠ [] ∧ Lot b names l
structure Names (n : List Str) : Prop where
  n1 : 1 ≤ n.length
  n6 : n.length ≤ 6
  nn : ∀ s ∈ n, nm s
  nr : Rise (n.map D.str)
structure Ok (b : Nat) (t : Told) : Prop where
  n : Names t.names
  tp : ∀ p ∈ t.tells, p.1 ∈ t.names ∧ p.2 ∈ t.names ∧ p.1 ≠ p.2
  tr : Rise (t.tells.map pairD)
  tz : t.tells.length ≤ b
  c2 : 2 ≤ t.cnts.length
  c6 : t.cnts.length ≤ 6
  cr : Rise (t.cnts.map fun c => D.str c.1)
  c : ∀ c ∈ t.cnts, Cnt b t.names c
  f0 : t.fgs ≠ []
  fr : Rise (t.fgs.map lotD)
  fz : t.fgs.length ≤ b
  fl : ∀ l ∈ t.fgs, Lot b t.names l
  fa : ∀ l ∈ t.fgs, ∀ m ∈ t.fgs, (∀ x ∈ l, x ∈ m) → l = m
/-- the Offices made of it -/
def offD (C : Addr) (t : Told) : D := .obj C [("names", lotD t.names), ("tells", .tup (t.tells.map pairD)), ("counters", .tup (t.cnts.map cntD)), ("forgets", .tup (t.fgs.map lotD))]
/-- does the office hear that the lot is asked, the gone being silent -/
def hears (t : Told) (lot : List Str) (office : Str) (gone : List Str) : Bool := decide (office ∉ gone) && (decide (office ∈ lot) || lot.any fun one => decide (one ∉ gone) && decide ((one, office) ∈ t.tells))
def known (t : Told) (lot other gone : List Str) : Bool := other.any fun o => hears t lot o gone
def deafTo (t : Told) (lot other : List Str) : List (List Str) := t.fgs.filter fun g => !known t lot other g
def sp_is_text : NSpec := fun ds Q => ∃ s : Str, ds = [.str s] ∧ Q (.bl true)
def sp_is_name : NSpec := fun ds Q => ∃ s : Str, ds = [.str s] ∧ nm s ∧ Q (.bl true)
def sp_is_lot : NSpec := fun ds Q => ∃ l : List Str, ds = [lotD l] ∧ (∀ s ∈ l, nm s) ∧ Rise (l.map D.str) ∧ l.length ≤ 1000 ∧ Q (.bl true)
def sp_lot_within : NSpec := fun ds Q => ∃ l m : List Str, ds = [lotD l, lotD m] ∧ Q (.bl (l.all fun x => decide (x ∈ m)))
def sp_place_within : NSpec := fun ds Q => ∃ ls : List (List Str), ds = [.tup (ls.map lotD)] ∧ ls.length ≤ 1000 ∧ (ls.map lotD).Nodup ∧ (∀ l ∈ ls, ∀ m ∈ ls, (∀ x ∈ l, x ∈ m) → l = m) ∧ Q .non
def sp_rise_all : NSpec := fun ds Q => ∃ xs : List D, (ds = [.tup xs] ∨ ds = [.lst xs]) ∧ xs.length ≤ 1000 ∧ Rise xs ∧ (∀ x ∈ xs, hd x = true ∧ dep x ≤ 60 ∧ ((∃ s, x = .str s) ∨ ∃ ys, x = .tup ys)) ∧ (∀ x ∈ xs, ∀ y ∈ xs, PySem.W.alike (toPy x) (toPy y) = true) ∧ Q (.bl true)
def sp_are_tells : NSpec := fun ds Q => ∃ (t : Told) (b : Nat), Ok b t ∧ b ≤ 1000 ∧ ds = [.tup (t.tells.map pairD), lotD t.names] ∧ Q (.bl true)
def sp_are_counters : NSpec := fun ds Q => ∃ (n : List Str) (c : Str × List (List Str)) (b : Nat), Names n ∧ Cnt b n c ∧ b ≤ 1000 ∧ ds = [.tup (c.2.map lotD), lotD n] ∧ Q (.bl true)
def sp_are_hand_counters : NSpec := fun ds Q => ∃ (t : Told) (b : Nat), Ok b t ∧ b ≤ 1000 ∧ ds = [.tup (t.cnts.map cntD), lotD t.names] ∧ Q (.bl true)
def sp_are_forgetful : NSpec := fun ds Q => ∃ (t : Told) (b : Nat), Ok b t ∧ b ≤ 1000 ∧ ds = [.tup (t.fgs.map lotD), lotD t.names] ∧ Q (.bl true)
def sp_Offices_init : ISpec := fun ds Q => ∃ (t : Told) (b : Nat), Ok b t ∧ b ≤ 1000 ∧ ds = [lotD t.names, .tup (t.tells.map pairD), .tup (t.cnts.map cntD), .tup (t.fgs.map lotD)] ∧ Q [("names", lotD t.names), ("tells", .tup (t.tells.map pairD)), ("counters", .tup (t.cnts.map cntD)), ("forgets", .tup (t.fgs.map lotD))]
def sp_office_hears (C : Addr) : NSpec := fun ds Q => ∃ (t : Told) (lot gone : List Str) (o : Str), ds = [offD C t, lotD lot, .str o, lotD gone] ∧ Q (.bl (hears t lot o gone))
def sp_ask_known (C : Addr) : NSpec := fun ds Q => ∃ (t : Told) (lot other gone : List Str), ds = [offD C t, lotD lot, lotD other, lotD gone] ∧ Q (.bl (known t lot other gone))
def sp_deaf_to (C : Addr) : NSpec := fun ds Q => ∃ (t : Told) (lot other : List Str), ds = [offD C t, lotD lot, lotD other] ∧ Q (.lst (((deafTo t lot other).take 1).map lotD))
/-- the first pair of counters that is deaf -/
def deafs (t : Told) : List (Str × List Str × Str × List Str × List Str) := t.cnts.flatMap fun c => c.2.flatMap fun lot => t.cnts.flatMap fun e => e.2.flatMap fun more => if e.1 ≠ c.1 then ((deafTo t lot more).take 1).map fun g => (c.1, lot, e.1, more, g) else []
def deafD (x : Str × List Str × Str × List Str × List Str) : D := .tup [.str x.1, lotD x.2.1, .str x.2.2.1, lotD x.2.2.2.1, lotD x.2.2.2.2]
def deafR (t : Told) : D := match deafs t with
  | [] => .non
  | x :: _ => deafD x
def sp_deaf_pair (C : Addr) : NSpec := fun ds Q => ∃ (t : Told), ds = [offD C t] ∧ Q (deafR t)
def sp_law_deal : List D → Prop → Prop := fun ds Q => ∃ ns : List Int, ds = [.scr ns] ∧ Q
def sp_law_draw : NSpec := drawN
def sp_law_pick : NSpec := fun ds Q => (∃ xs : List D, (ds = [.lst xs] ∨ ds = [.tup xs]) ∧ xs ≠ [] ∧ xs.length ≤ 1000 ∧ ∀ x ∈ xs, Q x) ∨ ∃ z : Str, ds = [.str z] ∧ 1 ≤ z.length ∧ z.length ≤ 1000 ∧ ∀ c ∈ z.cps.toList, Q (sgn c)
def sp_law_mixed : NSpec := fun ds Q => ∃ xs : List D, ds = [.lst xs] ∧ xs.length ≤ 1000 ∧ ∀ ys : List D, ys.Perm xs → Q (.lst ys)
def sp_law_words : NSpec := fun ds Q => ∃ n : Nat, ds = [.int n] ∧ n ≤ 26 ∧ ∀ ws : List Str, ws.length = n → ws.Nodup → (∀ s ∈ ws, nm s) → Q (.lst (ws.map D.str))
def sp_law_lot : NSpec := fun ds Q => ∃ (n : List Str) (k : Nat), ds = [lotD n, .int k] ∧ Names n ∧ k ≤ 1 ∧ ∀ l : List Str, Lot 6 n l → k ≤ l.length → Q (lotD l)
def sp_law_lots_of : NSpec := fun ds Q => ∃ (n : List Str) (m k : Nat), ds = [lotD n, .int m, .int k] ∧ Names n ∧ 1 ≤ m ∧ m ≤ 1000 ∧ k ≤ 1 ∧ ∀ ls : List (List Str), ls ≠ [] → ls.length ≤ m → Rise (ls.map lotD) → (∀ l ∈ ls, Lot 6 n l ∧ k ≤ l.length) → Q (.lst (ls.map lotD))
def sp_law_greatest : NSpec := fun ds Q => ∃ (n : List Str) (ls : List (List Str)), ds = [.lst (ls.map lotD)] ∧ Names n ∧ ls ≠ [] ∧ ls.length ≤ 1000 ∧ Rise (ls.map lotD) ∧ (∀ l ∈ ls, Lot 6 n l) ∧
  ∀ gs : List (List Str), gs ≠ [] → gs.length ≤ ls.length → Rise (gs.map lotD) → (∀ l ∈ gs, l ∈ ls) → (∀ l ∈ gs, ∀ m ∈ gs, (∀ x ∈ l, x ∈ m) → l = m) → Q (.tup (gs.map lotD))
def sp_law_told_offices : NSpec := fun ds Q => ∃ (hs : List Str) (n : Nat), ds = [.lst (hs.map D.str), .int n] ∧ 2 ≤ hs.length ∧ hs.length ≤ 6 ∧ (∀ s ∈ hs, nm s) ∧ Rise (hs.map D.str) ∧ 1 ≤ n ∧ n ≤ 6 ∧ ∀ t : Told, Ok 36 t → Q t.d
def sp_law_known : NSpec := fun ds Q => ∃ (t : Told) (lot other gone : List Str), ds = [t.d, lotD lot, lotD other, lotD gone] ∧ Q (.bl (known t lot other gone))
def sp_law_deaf : NSpec := fun ds Q => ∃ t : Told, ds = [t.d] ∧ Q (deafR t)
def sp_law_common : NSpec := fun ds Q => ∃ (t : Told) (b : Nat), ds = [t.d] ∧ Ok b t ∧ b ≤ 500 ∧ ∀ t' : Told, Ok (b + 36) t' → Q t'.d
def sp_law_pierced : NSpec := fun ds Q => ∃ (t : Told) (b : Nat), ds = [t.d] ∧ Ok b t ∧ b ≤ 500 ∧ ∀ t' : Told, Ok (b + 1) t' → Q t'.d
def sp_law : NSpec := fun ds Q => ∃ ns : List Int, ds = [.scr ns] ∧ Q (.bl true)
theorem sp_law_script (ns : List Int) (_ : ns.length ≤ 63) : sp_law [.scr ns] fun d => d = .bl true := ⟨ns, rfl, rfl⟩
end K67

/-! K67: what each def does to data (printed by gen.py). -/
namespace K67
open PySem PySem.Spec PyProof.Rows L2 DL

def kg_deaf_pair_0_0 {α : Type} (vs zs : List α) : List α := kgG 0 1 [0] vs zs
def kg_ask_known_0_3210 {α : Type} (vs zs : List α) : List α := kgG 0 4 [3, 2, 1, 0] vs zs
def w_is_text : FS := (sRet (dCB gIsi (dCons (dVarB 0) (dCons (dLit (.ty "str")) dNil))))
theorem i_is_text (x0 : D) : init 1 [x0] = ⟨[.val x0], none⟩ := rfl
def w_is_name : FS := (sRet (dAndV (dFn 1 sp_is_text (dCons (dVar 0) dNil)) (dAndV (dChain gLe gLe (dLit (.int 1)) (dCB gLen (dCons (dVarB 0) dNil)) (dLit (.int 8))) (dCB gAll (dCons (dLc (iA (dVarB 0)) (gdName 1) dYes (dOp (gInT false) (dVarB 1) (dLit (.str "abcdefghijklmnopqrstuvwxyz"))) [1]) dNil)))))
theorem i_is_name (x0 : D) : init 2 [x0] = ⟨[.val x0, .no], none⟩ := rfl
def w_is_lot : FS := (sSeq (sIf (dOrT (dNotT (dB (dCB gIsi (dCons (dVarB 0) (dCons (dLit (.ty "tuple")) dNil))))) (dNotT (dB (dCB gAll (dCons (dLc (iA (dVarB 0)) (gdName 1) dYes (dFn 1 sp_is_name (dCons (dVar 1) dNil)) [1]) dNil)))))
 (sRet (dLit (.bl false)))
 sNext)
 (sRet (dCB gAll (dCons (dLc (iR1 (dCons (dOp (gI fun i j => .int (i - j)) (dCB gLen (dCons (dVarB 0) dNil)) (dLit (.int 1))) dNil)) (gdName 2) dYes (dOp gLt (dOp gIx (dVarB 0) (dVarB 2)) (dOp gIx (dVarB 0) (dOp gAdd (dVarB 2) (dLit (.int 1))))) [2]) dNil))))
theorem i_is_lot (x0 : D) : init 3 [x0] = ⟨[.val x0, .no, .no], none⟩ := rfl
def w_lot_within : FS := (sRet (dCB gAll (dCons (dLc (iA (dVarB 0)) (gdName 2) dYes (dOp (gInT false) (dVarB 2) (dVarB 1)) [2]) dNil)))
theorem i_lot_within (x0 x1 : D) : init 3 [x0, x1] = ⟨[.val x0, .val x1, .no], none⟩ := rfl
def w_place_within : FS := (sSeq (sFor (iE (dCons (dVar 0) dNil)) (gdTup (gdCons (gdName 1) (gdCons (gdName 2) gdNil)))
 (sIf (dB (dCB gAny (dCons (dLc (iA (dOp gAdd (dSl gSl (dVarB 0) dNoP (dPart (dVar 1))) (dSl gSl (dVarB 0) (dPart (dOp gAdd (dVarB 1) (dLit (.int 1)))) dNoP))) (gdName 3) dYes (dFn 2 sp_lot_within (dCons (dVar 2) (dCons (dVar 3) dNil))) [3]) dNil)))
 (sRet (dVar 1))
 sNext))
 (sRet (dLit .non)))
theorem i_place_within (x0 : D) : init 4 [x0] = ⟨[.val x0, .no, .no, .no], none⟩ := rfl
def w_rise_all : FS := (sRet (dCB gAll (dCons (dLc (iR1 (dCons (dOp (gI fun i j => .int (i - j)) (dCB gLen (dCons (dVarB 0) dNil)) (dLit (.int 1))) dNil)) (gdName 1) dYes (dOp gLt (dOp gIx (dVarB 0) (dVarB 1)) (dOp gIx (dVarB 0) (dOp gAdd (dVarB 1) (dLit (.int 1))))) [1]) dNil)))
theorem i_rise_all (x0 : D) : init 2 [x0] = ⟨[.val x0, .no], none⟩ := rfl
def w_are_tells : FS := (sSeq (sIf (dNotT (dB (dCB gIsi (dCons (dVarB 0) (dCons (dLit (.ty "tuple")) dNil)))))
 (sRet (dLit (.bl false)))
 sNext)
 (sSeq (sFor (iA (dVar 0)) (gdName 2)
 (sSeq (sIf (dOrT (dNotT (dB (dCB gIsi (dCons (dVarB 2) (dCons (dLit (.ty "tuple")) dNil))))) (dOrT (dB (dOp gNeT (dCB gLen (dCons (dVarB 2) dNil)) (dLit (.int 2)))) (dNotT (dB (dCB gAll (dCons (dLc (iA (dVarB 2)) (gdName 3) dYes (dAndV (dFn 1 sp_is_name (dCons (dVar 3) dNil)) (dOp (gInT false) (dVarB 3) (dVarB 1))) [3]) dNil))))))
 (sRet (dLit (.bl false)))
 sNext)
 (sIf (dB (dOp gEqT (dOp gIx (dVarB 2) (dLit (.int 0))) (dOp gIx (dVarB 2) (dLit (.int 1)))))
 (sRet (dLit (.bl false)))
 sNext)))
 (sRet (dFn 1 sp_rise_all (dCons (dVar 0) dNil)))))
theorem i_are_tells (x0 x1 : D) : init 4 [x0, x1] = ⟨[.val x0, .val x1, .no, .no], none⟩ := rfl
def w_are_counters : FS := (sSeq (sIf (dOrT (dNotT (dB (dCB gIsi (dCons (dVarB 0) (dCons (dLit (.ty "tuple")) dNil))))) (dB (dOp gEqT (dCB gLen (dCons (dVarB 0) dNil)) (dLit (.int 0)))))
 (sRet (dLit (.bl false)))
 sNext)
 (sSeq (sIf (dNotT (dB (dCB gAll (dCons (dLc (iA (dVarB 0)) (gdName 2) dYes (dAndV (dFn 1 sp_is_lot (dCons (dVar 2) dNil)) (dAndV (dOp gNeT (dVarB 2) (dTup dNil)) (dFn 2 sp_lot_within (dCons (dVar 2) (dCons (dVar 1) dNil))))) [2]) dNil))))
 (sRet (dLit (.bl false)))
 sNext)
 (sRet (dFn 1 sp_rise_all (dCons (dVar 0) dNil)))))
theorem i_are_counters (x0 x1 : D) : init 3 [x0, x1] = ⟨[.val x0, .val x1, .no], none⟩ := rfl
def w_are_hand_counters : FS := (sSeq (sIf (dOrT (dNotT (dB (dCB gIsi (dCons (dVarB 0) (dCons (dLit (.ty "tuple")) dNil))))) (dNotT (dB (dChain gLe gLe (dLit (.int 2)) (dCB gLen (dCons (dVarB 0) dNil)) (dLit (.int 6))))))
 (sRet (dLit (.bl false)))
 sNext)
 (sSeq (sFor (iA (dVar 0)) (gdName 2)
 (sIf (dOrT (dNotT (dB (dCB gIsi (dCons (dVarB 2) (dCons (dLit (.ty "tuple")) dNil))))) (dOrT (dB (dOp gNeT (dCB gLen (dCons (dVarB 2) dNil)) (dLit (.int 2)))) (dOrT (dNotT (dB (dFn 1 sp_is_name (dCons (dOp gIx (dVarB 2) (dLit (.int 0))) dNil)))) (dNotT (dB (dFn 2 sp_are_counters (dCons (dOp gIx (dVarB 2) (dLit (.int 1))) (dCons (dVar 1) dNil))))))))
 (sRet (dLit (.bl false)))
 sNext))
 (sRet (dFn 1 sp_rise_all (dCons (dLc (iA (dVarB 0)) (gdName 2) dYes (dOp gIx (dVarB 2) (dLit (.int 0))) [2]) dNil)))))
theorem i_are_hand_counters (x0 x1 : D) : init 3 [x0, x1] = ⟨[.val x0, .val x1, .no], none⟩ := rfl
def w_are_forgetful : FS := (sSeq (sIf (dOrT (dNotT (dB (dCB gIsi (dCons (dVarB 0) (dCons (dLit (.ty "tuple")) dNil))))) (dB (dOp gEqT (dCB gLen (dCons (dVarB 0) dNil)) (dLit (.int 0)))))
 (sRet (dLit (.bl false)))
 sNext)
 (sSeq (sIf (dNotT (dB (dCB gAll (dCons (dLc (iA (dVarB 0)) (gdName 2) dYes (dAndV (dFn 1 sp_is_lot (dCons (dVar 2) dNil)) (dFn 2 sp_lot_within (dCons (dVar 2) (dCons (dVar 1) dNil)))) [2]) dNil))))
 (sRet (dLit (.bl false)))
 sNext)
 (sRet (dAndV (dFn 1 sp_rise_all (dCons (dVar 0) dNil)) (dOp gIsT (dFn 1 sp_place_within (dCons (dVar 0) dNil)) (dLit .non))))))
theorem i_are_forgetful (x0 x1 : D) : init 3 [x0, x1] = ⟨[.val x0, .val x1, .no], none⟩ := rfl
def w_Offices_init (C_Offices : Addr) : FS := (sSeq (sIf (dOrT (dNotT (dB (dFn 1 sp_is_lot (dCons (dVar 1) dNil)))) (dNotT (dB (dChain gLe gLe (dLit (.int 1)) (dCB gLen (dCons (dVarB 1) dNil)) (dLit (.int 6))))))
 sNever
 sNext)
 (sSeq (sIf (dNotT (dB (dFn 2 sp_are_tells (dCons (dVar 2) (dCons (dVar 1) dNil)))))
 sNever
 sNext)
 (sSeq (sIf (dNotT (dB (dFn 2 sp_are_hand_counters (dCons (dVar 3) (dCons (dVar 1) dNil)))))
 sNever
 sNext)
 (sSeq (sIf (dNotT (dB (dFn 2 sp_are_forgetful (dCons (dVar 4) (dCons (dVar 1) dNil)))))
 sNever
 sNext)
 (sSeq (sFldI C_Offices 0 "names" (dVar 1))
 (sSeq (sFldI C_Offices 0 "tells" (dVar 2))
 (sSeq (sFldI C_Offices 0 "counters" (dVar 3))
 (sFldI C_Offices 0 "forgets" (dVar 4)))))))))
theorem i_Offices_init (C : Addr) (x0 x1 x2 x3 : D) : initI 5 C [x0, x1, x2, x3] = ⟨[.ins C [], .val x0, .val x1, .val x2, .val x3], none⟩ := rfl
def w_office_hears (C_Offices : Addr) : FS := (sSeq (sIf (dB (dOp (gInT false) (dVarB 2) (dVarB 3)))
 (sRet (dLit (.bl false)))
 sNext)
 (sRet (dOrV (dOp (gInT false) (dVarB 2) (dVarB 1)) (dCB gAny (dCons (dLc (iA (dVarB 1)) (gdName 4) dYes (dAndV (dOp (gInT true) (dVarB 4) (dVarB 3)) (dOp (gInT false) (dTup (dCons (dVar 4) (dCons (dVar 2) dNil))) (dFldC C_Offices "tells" (dVar 0)))) [4]) dNil)))))
theorem i_office_hears (x0 x1 x2 x3 : D) : init 5 [x0, x1, x2, x3] = ⟨[.val x0, .val x1, .val x2, .val x3, .no], none⟩ := rfl
def w_ask_known (C_Offices : Addr) : FS := (sRet (dCB gAny (dCons (dLc (iA (dVarB 2)) (gdName 4) dYes (dFn 4 (sp_office_hears C_Offices) (dCons (dVar 0) (dCons (dVar 1) (dCons (dVar 4) (dCons (dVar 3) dNil))))) [4]) dNil)))
theorem i_ask_known (x0 x1 x2 x3 : D) : init 5 [x0, x1, x2, x3] = ⟨[.val x0, .val x1, .val x2, .val x3, .no], none⟩ := rfl
def w_deaf_to (C_Offices : Addr) : FS := (sRet (dSl gSl (dLc (iA (dFldC C_Offices "forgets" (dVar 0))) (gdName 3) (dNotT (dB (dFn 4 (sp_ask_known C_Offices) (dCons (dVar 0) (dCons (dVar 1) (dCons (dVar 2) (dCons (dVar 3) dNil))))))) (dVar 3) [3]) dNoP (dPart (dLit (.int 1)))))
theorem i_deaf_to (x0 x1 x2 : D) : init 4 [x0, x1, x2] = ⟨[.val x0, .val x1, .val x2, .no], none⟩ := rfl
def w_deaf_pair (C_Offices : Addr) : FS := (sSeq (sFor (iA (dFldC C_Offices "counters" (dVar 0))) (gdTup (gdCons (gdName 1) (gdCons (gdName 2) gdNil)))
 (sFor (iA (dVar 2)) (gdName 3)
 (sFor (iA (dFldC C_Offices "counters" (dVar 0))) (gdTup (gdCons (gdName 4) (gdCons (gdName 5) gdNil)))
 (sFor (iA (dVar 5)) (gdName 6)
 (sSeq (sSet 7 (dIf (dB (dOp gNeT (dVarB 4) (dVarB 1))) (dFn 3 (sp_deaf_to C_Offices) (dCons (dVar 0) (dCons (dVar 3) (dCons (dVar 6) dNil)))) (dLst dNil)))
 (sIf (dB (dOp gNeT (dVarB 7) (dLst dNil)))
 (sRet (dTup (dCons (dVar 1) (dCons (dVar 3) (dCons (dVar 4) (dCons (dVar 6) (dCons (dOp gIx (dVarB 7) (dLit (.int 0))) dNil)))))))
 sNext))))))
 (sRet (dLit .non)))
theorem i_deaf_pair (x0 : D) : init 8 [x0] = ⟨[.val x0, .no, .no, .no, .no, .no, .no, .no], none⟩ := rfl
def w_law_deal : FS := (sSeq (sSet 2 (dLc (iA (dSl gSl (dVarB 0) dNoP (dPart (dLit (.int 50))))) (gdName 1) dYes (dCB gAbs (dCons (dVarB 1) dNil)) [1]))
 (sSeq (sSet 3 (dLit (.int 24157817)))
 (sSeq (sFor (iA (dVar 2)) (gdName 1)
 (sSet 3 (dOp (gIc (fun _ j => 0 < j) fun i j => .int (i % j)) (dCB gInt (dCons (dOp gAdd (dOp gAdd (dOp (gIc CMulW fun i j => .int (i * j)) (dVarB 3) (dLit (.int 48271))) (dOp (gIc (fun _ j => 0 < j) fun i j => .int (i % j)) (dCB gInt (dCons (dVarB 1) dNil)) (dLit (.int 2147483549)))) (dLit (.int 53))) dNil)) (dLit (.int 2147483647)))))
 (sRetDeal 3 (dRev (dLc (iA (dVarB 2)) (gdName 1) (dB (dOp gGe (dVarB 1) (dOp (gIc CPow fun i j => .int (i ^ j.toNat)) (dLit (.int 10)) (dLit (.int 18))))) (dVar 1) [1]))))))
theorem i_law_deal (x0 : D) : init 4 [x0] = ⟨[.val x0, .no, .no, .no], none⟩ := rfl
def w_law_pick : FS := (sRet (dOp gIx (dVarB 1) (dFnL 0 2 sp_law_draw (dCons (dCB gLen (dCons (dVarB 1) dNil)) dNil))))
theorem i_law_pick (a b : Addr) (x0 : D) : initL 2 [x0] a b = ⟨[.deal, .val x0], some (a, b)⟩ := rfl
def w_law_mixed : FS := (sSeq (sSetM 2 (dLst dNil))
 (sSeq (sFor (iA (dVar 1)) (gdName 3)
 (sX (xMut2E 2 gInsert (dFnL 0 2 sp_law_draw (dCons (dOp gAdd (dCB gLen (dCons (dVarB 2) dNil)) (dLit (.int 1))) dNil)) (dVar 3))))
 (sFrz 2 (sRet (dVar 2)))))
theorem i_law_mixed (a b : Addr) (x0 : D) : initL 4 [x0] a b = ⟨[.deal, .val x0, .no, .no], some (a, b)⟩ := rfl
def w_law_words : FS := (sSeq (sSet 2 (dLit (.str "abcdefghijklmnopqrstuvwxyz")))
 (sSeq (sSetM 3 (dLc (iR1 (dCons (dLit (.int 8)) dNil)) (gdName 9) dYes (dFnL 0 2 sp_law_pick (dCons (dVar 2) dNil)) [9]))
 (sSeq (sIf (dAndT (dB (dOp gLe (dVarB 1) (dLit (.int 8)))) (dB (dOp gEqT (dFnL 0 2 sp_law_draw (dCons (dLit (.int 3)) dNil)) (dLit (.int 0)))))
 (sRet (dFnL 0 2 sp_law_mixed (dCons (dLc (iR1 (dCons (dVarB 1) dNil)) (gdName 4) dYes (dJoin (dLit (.str "")) (dSl gSl (dVarB 3) dNoP (dPart (dOp gAdd (dLit (.int 1)) (dVarB 4))))) [4]) dNil)))
 sNext)
 (sSeq (sPar3 5 6 7 (vE (dOp gAdd (dIf (dB (dOp gLe (dVarB 1) (dLit (.int 26)))) (dLit (.int 1)) (dLit (.int 2))) (dFnL 0 2 sp_law_draw (dCons (dLit (.int 7)) dNil))) (vE (dFnL 0 2 sp_law_draw (dCons (dLit (.int 26)) dNil)) (vF (dLst dNil) vNil))))
 (sSeq (sSet 8 (dFnL 0 2 sp_law_draw (dCons (dVar 5) dNil)))
 (sSeq (sFor (iR1 (dCons (dVarB 1) dNil)) (gdName 4)
 (sSeq (sSetI 3 (dOp gIx (dVarB 2) (dOp (gIc (fun _ j => 0 < j) fun i j => .int (i % j)) (dCB gInt (dCons (dOp gAdd (dVarB 6) (dOp (gIc CMulW fun i j => .int (i * j)) (dLit (.int 7)) (dVarB 4))) dNil)) (dLit (.int 26)))) (dVar 8))
 (sSeq (sIf (dB (dOp gGt (dVarB 1) (dLit (.int 26))))
 (sSetI 3 (dOp gIx (dVarB 2) (dOp (gIc CDivW fun i j => .int (i / j)) (dVarB 4) (dLit (.int 26)))) (dOp (gIc (fun _ j => 0 < j) fun i j => .int (i % j)) (dCB gInt (dCons (dOp gAdd (dVarB 8) (dLit (.int 1))) dNil)) (dVarB 5)))
 sNext)
 (sX (xMut 7 gAppend (xE (dJoin (dLit (.str "")) (dSl gSl (dVarB 3) dNoP (dPart (dVar 5))))))))))
 (sFrz 7 (sRet (dVar 7)))))))))
theorem i_law_words (a b : Addr) (x0 : D) : initL 10 [x0] a b = ⟨[.deal, .val x0, .no, .no, .no, .no, .no, .no, .no, .no], some (a, b)⟩ := rfl
def w_law_lot : FS := (sSeq (sSet 3 (dLc (iA (dVarB 1)) (gdName 4) (dB (dOp gEqT (dFnL 0 2 sp_law_draw (dCons (dLit (.int 2)) dNil)) (dLit (.int 0)))) (dVar 4) [4]))
 (sRet (dIf (dB (dOp gGe (dCB gLen (dCons (dVarB 3) dNil)) (dVarB 2))) (dCB gTuple (dCons (dVarB 3) dNil)) (dTup (dCons (dFnL 0 2 sp_law_pick (dCons (dVar 1) dNil)) dNil)))))
theorem i_law_lot (a b : Addr) (x0 x1 : D) : initL 5 [x0, x1] a b = ⟨[.deal, .val x0, .val x1, .no, .no], some (a, b)⟩ := rfl
def w_law_lots_of : FS := (sSeq (sSetM 4 (dLst dNil))
 (sSeq (sFor (iR1 (dCons (dVarB 2) dNil)) (gdName 5)
 (sSeq (sSet 6 (dFnL 0 3 sp_law_lot (dCons (dVar 1) (dCons (dVar 3) dNil))))
 (sIf (dB (dOp (gInT true) (dVarB 6) (dVarB 4)))
 (sX (xMut 4 gAppend (xE (dVar 6))))
 sNext)))
 (sRet (dCB gSorted (dCons (dVarB 4) dNil)))))
theorem i_law_lots_of (a b : Addr) (x0 x1 x2 : D) : initL 7 [x0, x1, x2] a b = ⟨[.deal, .val x0, .val x1, .val x2, .no, .no, .no], some (a, b)⟩ := rfl
def w_law_greatest : FS := (sSeq (sSetM 1 (dLst dNil))
 (sSeq (sFor (iA (dVar 0)) (gdName 2)
 (sIf (dB (dOp gEqT (dLc (iA (dVarB 0)) (gdName 3) (dAndT (dB (dOp gNeT (dVarB 3) (dVarB 2))) (dB (dOp gEqT (dLc (iA (dVarB 2)) (gdName 4) (dB (dOp (gInT true) (dVarB 4) (dVarB 3))) (dVar 4) [4]) (dLst dNil)))) (dVar 3) [3]) (dLst dNil)))
 (sX (xMut 1 gAppend (xE (dVar 2))))
 sNext))
 (sRet (dCB gTuple (dCons (dVarB 1) dNil)))))
theorem i_law_greatest (x0 : D) : init 5 [x0] = ⟨[.val x0, .no, .no, .no, .no], none⟩ := rfl
def w_law_told_offices : FS := (sSeq (sPar3 3 4 5 (vE (dCB gTuple (dCons (dCB gSorted (dCons (dFnL 0 2 sp_law_words (dCons (dVar 2) dNil)) dNil)) dNil)) (vE (dLst dNil) (vF (dLst dNil) vNil))))
 (sSeq (sFor (iA (dVar 3)) (gdName 6)
 (sSet 4 (dOp gAdd (dVarB 4) (dLc (iA (dVarB 3)) (gdName 9) (dAndT (dB (dOp gNeT (dVarB 6) (dVarB 9))) (dB (dOp gEqT (dFnL 0 2 sp_law_draw (dCons (dLit (.int 3)) dNil)) (dLit (.int 0))))) (dTup (dCons (dVar 6) (dCons (dVar 9) dNil))) [9]))))
 (sSeq (sFor (iA (dVar 1)) (gdName 7)
 (sX (xMut 5 gAppend (xE (dTup (dCons (dVar 7) (dCons (dCB gTuple (dCons (dFnL 0 4 sp_law_lots_of (dCons (dVar 3) (dCons (dOp gAdd (dLit (.int 1)) (dFnL 0 2 sp_law_draw (dCons (dLit (.int 3)) dNil))) (dCons (dLit (.int 1)) dNil)))) dNil)) dNil)))))))
 (sSeq (sSet 8 (dFn 1 sp_law_greatest (dCons (dFnL 0 4 sp_law_lots_of (dCons (dVar 3) (dCons (dOp gAdd (dLit (.int 1)) (dFnL 0 2 sp_law_draw (dCons (dLit (.int 4)) dNil))) (dCons (dLit (.int 0)) dNil)))) dNil)))
 (sSeq (sIf (dB (dOp gEqT (dFnL 0 2 sp_law_draw (dCons (dLit (.int 3)) dNil)) (dLit (.int 0))))
 (sSet 8 (dCB gTuple (dCons (dLc (iA (dVarB 3)) (gdName 10) dYes (dTup (dCons (dVar 10) dNil)) [10]) dNil)))
 sNext)
 (sRet (dTup (dCons (dVar 3) (dCons (dCB gTuple (dCons (dVarB 4) dNil)) (dCons (dCB gTuple (dCons (dVarB 5) dNil)) (dCons (dVar 8) dNil)))))))))))
theorem i_law_told_offices (a b : Addr) (x0 x1 : D) : initL 11 [x0, x1] a b = ⟨[.deal, .val x0, .val x1, .no, .no, .no, .no, .no, .no, .no, .no], some (a, b)⟩ := rfl
def w_law_known : FS := (sSeq (sFor (iA (dVar 2)) (gdName 4)
 (sIf (dB (dOp (gInT true) (dVarB 4) (dVarB 3)))
 (sIf (dOrT (dB (dOp (gInT false) (dVarB 4) (dVarB 1))) (dB (dOp gNeT (dLc (iA (dVarB 1)) (gdName 5) (dAndT (dB (dOp (gInT true) (dVarB 5) (dVarB 3))) (dB (dOp (gInT false) (dTup (dCons (dVar 5) (dCons (dVar 4) dNil))) (dOp gIx (dVarB 0) (dLit (.int 1)))))) (dVar 5) [5]) (dLst dNil))))
 (sRet (dLit (.bl true)))
 sNext)
 sNext))
 (sRet (dLit (.bl false))))
theorem i_law_known (x0 x1 x2 x3 : D) : init 6 [x0, x1, x2, x3] = ⟨[.val x0, .val x1, .val x2, .val x3, .no, .no], none⟩ := rfl
def w_law_deaf : FS := (sSeq (sFor (iA (dOp gIx (dVarB 0) (dLit (.int 2)))) (gdTup (gdCons (gdName 1) (gdCons (gdName 2) gdNil)))
 (sFor (iA (dVar 2)) (gdName 3)
 (sFor (iA (dOp gIx (dVarB 0) (dLit (.int 2)))) (gdTup (gdCons (gdName 4) (gdCons (gdName 5) gdNil)))
 (sFor (iA (dVar 5)) (gdName 6)
 (sSeq (sSet 7 (dLc (iA (dOp gIx (dVarB 0) (dLit (.int 3)))) (gdName 8) (dNotT (dB (dFn 4 sp_law_known (dCons (dVar 0) (dCons (dVar 3) (dCons (dVar 6) (dCons (dVar 8) dNil))))))) (dVar 8) [8]))
 (sIf (dAndT (dB (dOp gNeT (dVarB 4) (dVarB 1))) (dB (dOp gNeT (dVarB 7) (dLst dNil))))
 (sRet (dTup (dCons (dVar 1) (dCons (dVar 3) (dCons (dVar 4) (dCons (dVar 6) (dCons (dOp gIx (dVarB 7) (dLit (.int 0))) dNil)))))))
 sNext))))))
 (sRet (dLit .non)))
theorem i_law_deaf (x0 : D) : init 9 [x0] = ⟨[.val x0, .no, .no, .no, .no, .no, .no, .no, .no], none⟩ := rfl
def w_law_common : FS := (sSeq (sPars [2, 3, 4] (vE (dFnL 0 2 sp_law_pick (dCons (dOp gIx (dVarB 1) (dLit (.int 0))) dNil)) (vF (dLst dNil) (vE (dCB gList (dCons (dOp gIx (dVarB 1) (dLit (.int 1))) dNil)) vNil))))
 (sSeq (sFor (iA (dOp gIx (dVarB 1) (dLit (.int 2)))) (gdTup (gdCons (gdName 5) (gdCons (gdName 6) gdNil)))
 (sSeq (sSet 7 (dLst dNil))
 (sSeq (sFor (iA (dVar 6)) (gdName 8)
 (sSeq (sSet 8 (dCB gTuple (dCons (dCB gSorted (dCons (dOp gAdd (dCB gList (dCons (dVarB 8) dNil)) (dIf (dB (dOp (gInT true) (dVarB 2) (dVarB 8))) (dLst (dCons (dVar 2) dNil)) (dLst dNil))) dNil)) dNil)))
 (sSet 7 (dOp gAdd (dVarB 7) (dIf (dB (dOp (gInT true) (dVarB 8) (dVarB 7))) (dLst (dCons (dVar 8) dNil)) (dLst dNil))))))
 (sX (xMut 3 gAppend (xE (dTup (dCons (dVar 5) (dCons (dCB gTuple (dCons (dCB gSorted (dCons (dVarB 7) dNil)) dNil)) dNil)))))))))
 (sSeq (sIf (dB (dOp gEqT (dFnL 0 2 sp_law_draw (dCons (dLit (.int 2)) dNil)) (dLit (.int 0))))
 (sSeq (sSet 4 (dLst dNil))
 (sFor (iA (dOp gIx (dVarB 1) (dLit (.int 0)))) (gdName 9)
 (sSet 4 (dOp gAdd (dVarB 4) (dLc (iA (dOp gIx (dVarB 1) (dLit (.int 0)))) (gdName 12) (dB (dOp gNeT (dVarB 12) (dVarB 9))) (dTup (dCons (dVar 9) (dCons (dVar 12) dNil))) [12])))))
 sNext)
 (sSeq (sSet 10 (dLc (iA (dOp gIx (dVarB 1) (dLit (.int 0)))) (gdName 13) (dB (dOp gNeT (dVarB 13) (dVarB 2))) (dVar 13) [13]))
 (sSeq (sSet 11 (dIf (dB (dOp gEqT (dFnL 0 2 sp_law_draw (dCons (dLit (.int 2)) dNil)) (dLit (.int 0)))) (dCB gTuple (dCons (dVarB 10) dNil)) (dCB gTuple (dCons (dLst (dCons (dFnL 0 2 sp_law_pick (dCons (dOp gIx (dVarB 1) (dLit (.int 0))) dNil)) dNil)) dNil))))
 (sRet (dTup (dCons (dOp gIx (dVarB 1) (dLit (.int 0))) (dCons (dCB gTuple (dCons (dVarB 4) dNil)) (dCons (dCB gTuple (dCons (dVarB 3) dNil)) (dCons (dTup (dCons (dVar 11) dNil)) dNil)))))))))))
theorem i_law_common (a b : Addr) (x0 : D) : initL 14 [x0] a b = ⟨[.deal, .val x0, .no, .no, .no, .no, .no, .no, .no, .no, .no, .no, .no, .no], some (a, b)⟩ := rfl
def w_law_pierced : FS := (sSeq (sSet 2 (dFnL 0 2 sp_law_draw (dCons (dCB gLen (dCons (dOp gIx (dVarB 1) (dLit (.int 2))) dNil)) dNil)))
 (sSeq (sAsg (dOp gIx (dOp gIx (dVarB 1) (dLit (.int 2))) (dVarB 2)) (gdTup (gdCons (gdName 3) (gdCons (gdName 4) gdNil))))
 (sSeq (sSet 5 (dFnL 0 2 sp_law_draw (dCons (dCB gLen (dCons (dVarB 4) dNil)) dNil)))
 (sSeq (sSet 4 (dLc (iA (dOp gAdd (dSl gSl (dVarB 4) dNoP (dPart (dVar 5))) (dSl gSl (dVarB 4) (dPart (dOp gAdd (dVarB 5) (dLit (.int 1)))) dNoP))) (gdName 7) dYes (dVar 7) [7]))
 (sSeq (sSet 6 (dTup (dCons (dFnL 0 2 sp_law_pick (dCons (dOp gIx (dVarB 1) (dLit (.int 0))) dNil)) dNil)))
 (sSeq (sSet 4 (dOp gAdd (dVarB 4) (dIf (dB (dOp (gInT true) (dVarB 6) (dVarB 4))) (dLst (dCons (dVar 6) dNil)) (dLst dNil))))
 (sRet (dTup (dCons (dOp gIx (dVarB 1) (dLit (.int 0))) (dCons (dOp gIx (dVarB 1) (dLit (.int 1))) (dCons (dOp gAdd (dOp gAdd (dSl gSl (dOp gIx (dVarB 1) (dLit (.int 2))) dNoP (dPart (dVar 2))) (dTup (dCons (dTup (dCons (dVar 3) (dCons (dCB gTuple (dCons (dCB gSorted (dCons (dVarB 4) dNil)) dNil)) dNil))) dNil))) (dSl gSl (dOp gIx (dVarB 1) (dLit (.int 2))) (dPart (dOp gAdd (dVarB 2) (dLit (.int 1)))) dNoP)) (dCons (dOp gIx (dVarB 1) (dLit (.int 3))) dNil))))))))))))
theorem i_law_pierced (a b : Addr) (x0 : D) : initL 8 [x0] a b = ⟨[.deal, .val x0, .no, .no, .no, .no, .no, .no], some (a, b)⟩ := rfl
def w_law (C_Offices : Addr) : FS := (sSeq (sMk 1 1 sp_law_deal (dCons (dVar 0) dNil))
 (sSeq (sSet 2 (dCB gSorted (dCons (dFnL 1 2 sp_law_words (dCons (dOp gAdd (dLit (.int 2)) (dIf (dB (dOp gEqT (dSl gSl (dVarB 0) (dPart (dLit (.int 1))) dNoP) (dLst dNil))) (dLit (.int 0)) (dFnL 1 2 sp_law_pick (dCons (dLst (dCons (dLit (.int 0)) (dCons (dLit (.int 0)) (dCons (dLit (.int 1)) (dCons (dLit (.int 1)) (dCons (dLit (.int 2)) (dCons (dLit (.int 4)) dNil))))))) dNil)))) dNil)) dNil)))
 (sSeq (sSet 3 (dFnL 1 3 sp_law_told_offices (dCons (dVar 2) (dCons (dOp gAdd (dLit (.int 1)) (dFnL 1 2 sp_law_draw (dCons (dIf (dB (dOp gEqT (dSl gSl (dVarB 0) (dPart (dLit (.int 1))) dNoP) (dLst dNil))) (dLit (.int 3)) (dLit (.int 6))) dNil))) dNil))))
 (sSeq (sFor (iR1 (dCons (dIf (dB (dOp gEqT (dSl gSl (dVarB 0) (dPart (dLit (.int 1))) dNoP) (dLst dNil))) (dLit (.int 2)) (dLit (.int 4))) dNil)) (gdName 4)
 (sSeq (sSet 5 (dMake C_Offices 5 sp_Offices_init (dCons (dOp gIx (dVarB 3) (dLit (.int 0))) (dCons (dOp gIx (dVarB 3) (dLit (.int 1))) (dCons (dOp gIx (dVarB 3) (dLit (.int 2))) (dCons (dOp gIx (dVarB 3) (dLit (.int 3))) dNil))))))
 (sSeq (sIf (dB (dOp gNeT (dCB gRepr (dCons (dFnK 1 (sp_deaf_pair C_Offices) kg_deaf_pair_0_0 dNil (dCons (dVar 5) dNil)) dNil)) (dCB gRepr (dCons (dFn 1 sp_law_deaf (dCons (dVar 3) dNil)) dNil))))
 (sRet (dLit (.bl false)))
 sNext)
 (sSeq (sFor (iR1 (dCons (dLit (.int 4)) dNil)) (gdName 6)
 (sSeq (sPar2 7 8 (vE (dFnL 1 3 sp_law_lot (dCons (dOp gIx (dVarB 3) (dLit (.int 0))) (dCons (dLit (.int 0)) dNil))) (vE (dFnL 1 3 sp_law_lot (dCons (dOp gIx (dVarB 3) (dLit (.int 0))) (dCons (dLit (.int 0)) dNil))) vNil)))
 (sSeq (sSet 9 (dIf (dB (dOp gEqT (dFnL 1 2 sp_law_draw (dCons (dLit (.int 2)) dNil)) (dLit (.int 0)))) (dFnL 1 3 sp_law_lot (dCons (dOp gIx (dVarB 3) (dLit (.int 0))) (dCons (dLit (.int 0)) dNil))) (dTup dNil)))
 (sSeq (sIf (dB (dOp gNeT (dCB gRepr (dCons (dFn 4 (sp_ask_known C_Offices) (dCons (dVar 5) (dCons (dVar 7) (dCons (dVar 8) (dCons (dVar 9) dNil))))) dNil)) (dCB gRepr (dCons (dFn 4 sp_law_known (dCons (dVar 3) (dCons (dVar 7) (dCons (dVar 8) (dCons (dVar 9) dNil))))) dNil))))
 (sRet (dLit (.bl false)))
 sNext)
 (sIf (dB (dOp gNeT (dFnK 4 (sp_ask_known C_Offices) kg_ask_known_0_3210 dNil (dCons (dVar 9) (dCons (dVar 7) (dCons (dVar 8) (dCons (dVar 5) dNil))))) (dFn 4 sp_law_known (dCons (dVar 3) (dCons (dVar 8) (dCons (dVar 7) (dCons (dVar 9) dNil)))))))
 (sRet (dLit (.bl false)))
 sNext)))))
 (sSet 3 (dIf (dB (dOp gLt (dVarB 4) (dLit (.int 1)))) (dFnL 1 2 sp_law_common (dCons (dVar 3) dNil)) (dFnL 1 2 sp_law_pierced (dCons (dVar 3) dNil))))))))
 (sRet (dLit (.bl true)))))))
theorem i_law (x0 : D) : init 10 [x0] = ⟨[.val x0, .no, .no, .no, .no, .no, .no, .no, .no, .no], none⟩ := rfl
end K67

set_option maxHeartbeats 0
/-! K67: each def does it (printed by gen.py). -/
namespace K67
open PySem PySem.Spec PyProof.Rows L2 DL

def top (i : Nat) : Stmt := PySem.Challenge.pw_boundorvoid_k67_what_is_known_at_counter.main.body.getD i (.Pass ⟨0, 0, 0, 0⟩)
abbrev s_is_text : Stmt := top 6
abbrev s_is_name : Stmt := top 7
abbrev s_is_lot : Stmt := top 8
abbrev s_lot_within : Stmt := top 9
abbrev s_place_within : Stmt := top 11
abbrev s_rise_all : Stmt := top 16
abbrev s_are_tells : Stmt := top 17
abbrev s_are_counters : Stmt := top 18
abbrev s_are_hand_counters : Stmt := top 19
abbrev s_are_forgetful : Stmt := top 20
abbrev s_Offices_init : Stmt := (clsBody (top 21)).getD 0 (.Pass ⟨0, 0, 0, 0⟩)
abbrev s_office_hears : Stmt := top 22
abbrev s_ask_known : Stmt := top 23
abbrev s_deaf_to : Stmt := top 24
abbrev s_deaf_pair : Stmt := top 25
abbrev s_law_deal : Stmt := top 27
abbrev s_law_draw : Stmt := top 28
abbrev s_law_pick : Stmt := top 29
abbrev s_law_mixed : Stmt := top 30
abbrev s_law_words : Stmt := top 31
abbrev s_law_lot : Stmt := top 32
abbrev s_law_lots_of : Stmt := top 33
abbrev s_law_greatest : Stmt := top 34
abbrev s_law_told_offices : Stmt := top 35
abbrev s_law_known : Stmt := top 36
abbrev s_law_deaf : Stmt := top 37
abbrev s_law_common : Stmt := top 38
abbrev s_law_pierced : Stmt := top 39
abbrev s_law : Stmt := top 40
theorem sc_is_text : FnScope ["value"] ["value"] (defScope s_is_text) := ⟨rfl, rfl, rfl, by decide +kernel, rfl, by decide +kernel, by decide +kernel⟩
theorem sc_is_name : FnScope ["value", "sign"] ["value"] (defScope s_is_name) := ⟨rfl, rfl, rfl, by decide +kernel, rfl, by decide +kernel, by decide +kernel⟩
theorem sc_is_lot : FnScope ["value", "name", "at"] ["value"] (defScope s_is_lot) := ⟨rfl, rfl, rfl, by decide +kernel, rfl, by decide +kernel, by decide +kernel⟩
theorem sc_lot_within : FnScope ["one", "other", "thing"] ["one", "other"] (defScope s_lot_within) := ⟨rfl, rfl, rfl, by decide +kernel, rfl, by decide +kernel, by decide +kernel⟩
theorem sc_place_within : FnScope ["lots", "at", "lot", "other"] ["lots"] (defScope s_place_within) := ⟨rfl, rfl, rfl, by decide +kernel, rfl, by decide +kernel, by decide +kernel⟩
theorem sc_rise_all : FnScope ["things", "at"] ["things"] (defScope s_rise_all) := ⟨rfl, rfl, rfl, by decide +kernel, rfl, by decide +kernel, by decide +kernel⟩
theorem sc_are_tells : FnScope ["value", "names", "pair", "name"] ["value", "names"] (defScope s_are_tells) := ⟨rfl, rfl, rfl, by decide +kernel, rfl, by decide +kernel, by decide +kernel⟩
theorem sc_are_counters : FnScope ["value", "names", "lot"] ["value", "names"] (defScope s_are_counters) := ⟨rfl, rfl, rfl, by decide +kernel, rfl, by decide +kernel, by decide +kernel⟩
theorem sc_are_hand_counters : FnScope ["value", "names", "pair"] ["value", "names"] (defScope s_are_hand_counters) := ⟨rfl, rfl, rfl, by decide +kernel, rfl, by decide +kernel, by decide +kernel⟩
theorem sc_are_forgetful : FnScope ["value", "names", "lot"] ["value", "names"] (defScope s_are_forgetful) := ⟨rfl, rfl, rfl, by decide +kernel, rfl, by decide +kernel, by decide +kernel⟩
theorem sc_Offices_init : FnScope ["self", "names", "tells", "counters", "forgets"] ["self", "names", "tells", "counters", "forgets"] (defScope s_Offices_init) := ⟨rfl, rfl, rfl, by decide +kernel, rfl, by decide +kernel, by decide +kernel⟩
theorem sc_office_hears : FnScope ["offices", "lot", "office", "gone", "one"] ["offices", "lot", "office", "gone"] (defScope s_office_hears) := ⟨rfl, rfl, rfl, by decide +kernel, rfl, by decide +kernel, by decide +kernel⟩
theorem sc_ask_known : FnScope ["offices", "lot", "other", "gone", "office"] ["offices", "lot", "other", "gone"] (defScope s_ask_known) := ⟨rfl, rfl, rfl, by decide +kernel, rfl, by decide +kernel, by decide +kernel⟩
theorem sc_deaf_to : FnScope ["offices", "lot", "other", "gone"] ["offices", "lot", "other"] (defScope s_deaf_to) := ⟨rfl, rfl, rfl, by decide +kernel, rfl, by decide +kernel, by decide +kernel⟩
theorem sc_deaf_pair : FnScope ["offices", "hand", "lots", "lot", "other", "others", "more", "found"] ["offices"] (defScope s_deaf_pair) := ⟨rfl, rfl, rfl, by decide +kernel, rfl, by decide +kernel, by decide +kernel⟩
theorem sc_law_deal : FnScope ["_law_script", "_law_cell", "_law_cells", "_law_blend"] ["_law_script"] (defScope s_law_deal) := ⟨rfl, rfl, rfl, by decide +kernel, rfl, by decide +kernel, by decide +kernel⟩
theorem sc_law_draw : FnScope ["_law_deal_here", "_law_bound", "_law_rest"] ["_law_deal_here", "_law_bound"] (defScope s_law_draw) := ⟨rfl, rfl, rfl, by decide +kernel, rfl, by decide +kernel, by decide +kernel⟩
theorem sc_law_pick : FnScope ["_law_deal_here", "_law_some"] ["_law_deal_here", "_law_some"] (defScope s_law_pick) := ⟨rfl, rfl, rfl, by decide +kernel, rfl, by decide +kernel, by decide +kernel⟩
theorem sc_law_mixed : FnScope ["_law_deal_here", "_law_some", "_law_found", "_law_one"] ["_law_deal_here", "_law_some"] (defScope s_law_mixed) := ⟨rfl, rfl, rfl, by decide +kernel, rfl, by decide +kernel, by decide +kernel⟩
theorem sc_law_words : FnScope ["_law_deal_here", "_law_many", "_law_letters", "_law_word", "_law_at", "_law_length", "_law_shift", "_law_found", "_law_place", "_law_turn"] ["_law_deal_here", "_law_many"] (defScope s_law_words) := ⟨rfl, rfl, rfl, by decide +kernel, rfl, by decide +kernel, by decide +kernel⟩
theorem sc_law_lot : FnScope ["_law_deal_here", "_law_names", "_law_least", "_law_found", "_law_name"] ["_law_deal_here", "_law_names", "_law_least"] (defScope s_law_lot) := ⟨rfl, rfl, rfl, by decide +kernel, rfl, by decide +kernel, by decide +kernel⟩
theorem sc_law_lots_of : FnScope ["_law_deal_here", "_law_names", "_law_many", "_law_least", "_law_found", "_law_turn", "_law_lot_here"] ["_law_deal_here", "_law_names", "_law_many", "_law_least"] (defScope s_law_lots_of) := ⟨rfl, rfl, rfl, by decide +kernel, rfl, by decide +kernel, by decide +kernel⟩
theorem sc_law_greatest : FnScope ["_law_lots", "_law_found", "_law_lot_here", "_law_one", "_law_name"] ["_law_lots"] (defScope s_law_greatest) := ⟨rfl, rfl, rfl, by decide +kernel, rfl, by decide +kernel, by decide +kernel⟩
theorem sc_law_told_offices : FnScope ["_law_deal_here", "_law_hands", "_law_many", "_law_names", "_law_tells", "_law_counters", "_law_one", "_law_hand", "_law_forgets", "_law_other", "_law_name"] ["_law_deal_here", "_law_hands", "_law_many"] (defScope s_law_told_offices) := ⟨rfl, rfl, rfl, by decide +kernel, rfl, by decide +kernel, by decide +kernel⟩
theorem sc_law_known : FnScope ["_law_told", "_law_lot_here", "_law_other", "_law_gone", "_law_office", "_law_one"] ["_law_told", "_law_lot_here", "_law_other", "_law_gone"] (defScope s_law_known) := ⟨rfl, rfl, rfl, by decide +kernel, rfl, by decide +kernel, by decide +kernel⟩
theorem sc_law_deaf : FnScope ["_law_told", "_law_hand", "_law_lots", "_law_lot_here", "_law_other", "_law_others", "_law_more", "_law_gone", "_law_one"] ["_law_told"] (defScope s_law_deaf) := ⟨rfl, rfl, rfl, by decide +kernel, rfl, by decide +kernel, by decide +kernel⟩
theorem sc_law_common : FnScope ["_law_deal_here", "_law_told", "_law_one", "_law_counters", "_law_tells", "_law_hand", "_law_lots", "_law_wider", "_law_lot_here", "_law_first", "_law_rest", "_law_gone", "_law_other", "_law_name"] ["_law_deal_here", "_law_told"] (defScope s_law_common) := ⟨rfl, rfl, rfl, by decide +kernel, rfl, by decide +kernel, by decide +kernel⟩
theorem sc_law_pierced : FnScope ["_law_deal_here", "_law_told", "_law_at", "_law_hand", "_law_lots", "_law_place", "_law_one", "_law_lot_here"] ["_law_deal_here", "_law_told"] (defScope s_law_pierced) := ⟨rfl, rfl, rfl, by decide +kernel, rfl, by decide +kernel, by decide +kernel⟩
theorem sc_law : FnScope ["_law_script", "_law_deal_here", "_law_hands", "_law_told", "_law_turn", "_law_offices", "_law_again", "_law_lot_here", "_law_other", "_law_gone"] ["_law_script"] (defScope s_law) := ⟨rfl, rfl, rfl, by decide +kernel, rfl, by decide +kernel, by decide +kernel⟩
/-- what the module holds -/
structure Gf (K : PySem.W.Frag) (mg : Str → Option Value) (C_Offices : Addr) : Prop where
  f_abs : mg "abs" = none
  f_all : mg "all" = none
  f_any : mg "any" = none
  f_enumerate : mg "enumerate" = none
  f_int : mg "int" = none
  f_isinstance : mg "isinstance" = none
  f_len : mg "len" = none
  f_list : mg "list" = none
  f_range : mg "range" = none
  f_repr : mg "repr" = none
  f_sorted : mg "sorted" = none
  f_str : mg "str" = none
  f_tuple : mg "tuple" = none
  c_FEWEST_OFFICE_HANDS : ∃ t, mg "FEWEST_OFFICE_HANDS" = some (.int 2 t)
  c_LETTERS : ∃ t, mg "LETTERS" = some (.str "abcdefghijklmnopqrstuvwxyz" t)
  c_LONGEST : ∃ t, mg "LONGEST" = some (.int 8 t)
  c_MOST_OFFICES : ∃ t, mg "MOST_OFFICES" = some (.int 6 t)
  c_MOST_OFFICE_HANDS : ∃ t, mg "MOST_OFFICE_HANDS" = some (.int 6 t)
  k_Offices : Cls K C_Offices
  n_Offices_counters : NoAttr K C_Offices "counters"
  n_Offices_forgets : NoAttr K C_Offices "forgets"
  n_Offices_names : NoAttr K C_Offices "names"
  n_Offices_tells : NoAttr K C_Offices "tells"
section
variable {P : Program} {w : World} {K : PySem.W.Frag} {mg : Str → Option Value} {base : Heap} {C_Offices : Addr}
theorem d_is_text (g : Gf K mg C_Offices) (ι : Unit) (f : Addr) (cdv : Value) (A : Around) (outer : List Env) (s : Shared) (H : Hp) (E : XK) (φ : Fam P w K mg base 0 (fun _ : Unit => (cxOf CX0 P w K mg base ["value"] "is_text" (defScope s_is_text) f cdv A outer s H E).nox)) :
    MSs (fun _ : Unit => (cxOf CX0 P w K mg base ["value"] "is_text" (defScope s_is_text) f cdv A outer s H E).nox) E0 (defBody s_is_text) (w_is_text) :=
 (mss_one (ms_ret (k_call φ (cb_isi φ) g.f_isinstance (mab_cons (mb_v 0) (mab_cons (k_tyN φ g.f_str) mab_nil)))))
theorem d_is_name (g : Gf K mg C_Offices) (D_is_text : Dd P w K mg base "is_text" 1 1 sp_is_text) (ι : Unit) (f : Addr) (cdv : Value) (A : Around) (outer : List Env) (s : Shared) (H : Hp) (E : XK) (φ : Fam P w K mg base 1 (fun _ : Unit => (cxOf CX0 P w K mg base ["value", "sign"] "is_name" (defScope s_is_name) f cdv A outer s H E).nox)) :
    MSs (fun _ : Unit => (cxOf CX0 P w K mg base ["value", "sign"] "is_name" (defScope s_is_name) f cdv A outer s H E).nox) E0 (defBody s_is_name) (w_is_name) :=
 (mss_one (ms_ret (me_and (k_fn φ D_is_text (ma_cons (me_v 0) ma_nil)) (me_and (k_chain (cm_le φ) (cm_le φ) (me_int).toB (k_call φ (cb_len φ) g.f_len (mab_cons (mb_v 0) mab_nil)).toB (k_gint φ g.c_LONGEST).toB) (me_one (k_call φ (cb_all φ) g.f_all (mab_cons (mf_lc [("sign", 1)] (mib_any φ (mb_v 0)) (mg_name 1 (hN := φ.blk.nd)) mts_nil (k_cmp (cm_in φ.blk) (mb_v 1) (k_gstr φ.blk g.c_LETTERS).toB) (fun _ => by kernel_rfl) φ.nd).toE.toB mab_nil)))))))
theorem d_is_lot (g : Gf K mg C_Offices) (D_is_name : Dd P w K mg base "is_name" 2 1 sp_is_name) (ι : Unit) (f : Addr) (cdv : Value) (A : Around) (outer : List Env) (s : Shared) (H : Hp) (E : XK) (φ : Fam P w K mg base 2 (fun _ : Unit => (cxOf CX0 P w K mg base ["value", "name", "at"] "is_lot" (defScope s_is_lot) f cdv A outer s H E).nox)) :
    MSs (fun _ : Unit => (cxOf CX0 P w K mg base ["value", "name", "at"] "is_lot" (defScope s_is_lot) f cdv A outer s H E).nox) E0 (defBody s_is_lot) (w_is_lot) :=
 (mss_cons (ms_if (mw_or (mt_not (mt_e (k_call φ (cb_isi φ) g.f_isinstance (mab_cons (mb_v 0) (mab_cons (k_tyN φ g.f_tuple) mab_nil))))) (mw_or1 (mt_not (mt_e (k_call φ (cb_all φ) g.f_all (mab_cons (mf_lc [("name", 1)] (mib_any φ (mb_v 0)) (mg_name 1 (hN := φ.blk.nd)) mts_nil (k_fn φ.blk D_is_name (ma_cons (me_v 1) ma_nil)) (fun _ => by kernel_rfl) φ.nd).toE.toB mab_nil)))))).mt
 (mss_one (ms_ret me_bl))
 mss_nil)
 (mss_one (ms_ret (k_call φ (cb_all φ) g.f_all (mab_cons (mf_lc [("at", 2)] (mi_rng1 φ g.f_range (mab_cons (k_bin bo_sub (k_call φ (cb_len φ) g.f_len (mab_cons (mb_v 0) mab_nil)).toB (me_int).toB).toB mab_nil)).toB (mg_name 2 (hN := φ.blk.nd)) mts_nil (k_cmp (cm_lt φ.blk) (k_ix φ.blk (mb_v 0) (mb_v 2)).toB (k_ix φ.blk (mb_v 0) (k_bin (bo_add φ.blk) (mb_v 2) (me_int).toB).toB).toB) (fun _ => by kernel_rfl) φ.nd).toE.toB mab_nil)))))
theorem d_lot_within (g : Gf K mg C_Offices) (ι : Unit) (f : Addr) (cdv : Value) (A : Around) (outer : List Env) (s : Shared) (H : Hp) (E : XK) (φ : Fam P w K mg base 0 (fun _ : Unit => (cxOf CX0 P w K mg base ["one", "other", "thing"] "lot_within" (defScope s_lot_within) f cdv A outer s H E).nox)) :
    MSs (fun _ : Unit => (cxOf CX0 P w K mg base ["one", "other", "thing"] "lot_within" (defScope s_lot_within) f cdv A outer s H E).nox) E0 (defBody s_lot_within) (w_lot_within) :=
 (mss_one (ms_ret (k_call φ (cb_all φ) g.f_all (mab_cons (mf_lc [("thing", 2)] (mib_any φ (mb_v 0)) (mg_name 2 (hN := φ.blk.nd)) mts_nil (k_cmp (cm_in φ.blk) (mb_v 2) (mb_v 1)) (fun _ => by kernel_rfl) φ.nd).toE.toB mab_nil))))
theorem d_place_within (g : Gf K mg C_Offices) (D_lot_within : Dd P w K mg base "lot_within" 1 2 sp_lot_within) (ι : Unit) (f : Addr) (cdv : Value) (A : Around) (outer : List Env) (s : Shared) (H : Hp) (E : XK) (φ : Fam P w K mg base 1 (fun _ : Unit => (cxOf CX0 P w K mg base ["lots", "at", "lot", "other"] "place_within" (defScope s_place_within) f cdv A outer s H E).nox)) :
    MSs (fun _ : Unit => (cxOf CX0 P w K mg base ["lots", "at", "lot", "other"] "place_within" (defScope s_place_within) f cdv A outer s H E).nox) E0 (defBody s_place_within) (w_place_within) :=
 (mss_cons (ms_for (mi_enum φ g.f_enumerate (ma_cons (me_v 0) ma_nil)) (mg_tup (mgs_cons (mg_name 1 (hN := φ.nd)) (mgs_cons (mg_name 2 (hN := φ.nd)) mgs_nil)) (gd_lenS gd_monoN (gd_lenS gd_monoN gd_len0)) φ.K)
 (mss_one (ms_if (mt_e (k_call φ (cb_any φ) g.f_any (mab_cons (mf_lc [("other", 3)] (mib_any φ (k_bin (bo_add φ) (k_sl φ (mb_v 0) mo_none (mo_some (me_v 1))).toB (k_sl φ (mb_v 0) (mo_some (k_bin (bo_add φ) (mb_v 1) (me_int).toB)) mo_none).toB).toB) (mg_name 3 (hN := φ.blk.nd)) mts_nil (k_fn φ.blk D_lot_within (ma_cons (me_v 2) (ma_cons (me_v 3) ma_nil))) (fun _ => by kernel_rfl) φ.nd).toE.toB mab_nil)))
 (mss_one (ms_ret (me_v 1)))
 mss_nil)) (fun _ => PassesOwn.never))
 (mss_one (ms_ret me_non)))
theorem d_rise_all (g : Gf K mg C_Offices) (ι : Unit) (f : Addr) (cdv : Value) (A : Around) (outer : List Env) (s : Shared) (H : Hp) (E : XK) (φ : Fam P w K mg base 0 (fun _ : Unit => (cxOf CX0 P w K mg base ["things", "at"] "rise_all" (defScope s_rise_all) f cdv A outer s H E).nox)) :
    MSs (fun _ : Unit => (cxOf CX0 P w K mg base ["things", "at"] "rise_all" (defScope s_rise_all) f cdv A outer s H E).nox) E0 (defBody s_rise_all) (w_rise_all) :=
 (mss_one (ms_ret (k_call φ (cb_all φ) g.f_all (mab_cons (mf_lc [("at", 1)] (mi_rng1 φ g.f_range (mab_cons (k_bin bo_sub (k_call φ (cb_len φ) g.f_len (mab_cons (mb_v 0) mab_nil)).toB (me_int).toB).toB mab_nil)).toB (mg_name 1 (hN := φ.blk.nd)) mts_nil (k_cmp (cm_lt φ.blk) (k_ix φ.blk (mb_v 0) (mb_v 1)).toB (k_ix φ.blk (mb_v 0) (k_bin (bo_add φ.blk) (mb_v 1) (me_int).toB).toB).toB) (fun _ => by kernel_rfl) φ.nd).toE.toB mab_nil))))
theorem d_are_tells (g : Gf K mg C_Offices) (D_is_name : Dd P w K mg base "is_name" 2 1 sp_is_name) (D_rise_all : Dd P w K mg base "rise_all" 1 1 sp_rise_all) (ι : Unit) (f : Addr) (cdv : Value) (A : Around) (outer : List Env) (s : Shared) (H : Hp) (E : XK) (φ : Fam P w K mg base 2 (fun _ : Unit => (cxOf CX0 P w K mg base ["value", "names", "pair", "name"] "are_tells" (defScope s_are_tells) f cdv A outer s H E).nox)) :
    MSs (fun _ : Unit => (cxOf CX0 P w K mg base ["value", "names", "pair", "name"] "are_tells" (defScope s_are_tells) f cdv A outer s H E).nox) E0 (defBody s_are_tells) (w_are_tells) :=
 (mss_cons (ms_if (mt_not (mt_e (k_call φ (cb_isi φ) g.f_isinstance (mab_cons (mb_v 0) (mab_cons (k_tyN φ g.f_tuple) mab_nil)))))
 (mss_one (ms_ret me_bl))
 mss_nil)
 (mss_cons (ms_for (mi_any φ (me_v 0)) (mg_name 2 (hN := φ.nd))
 (mss_cons (ms_if (mw_or (mt_not (mt_e (k_call φ (cb_isi φ) g.f_isinstance (mab_cons (mb_v 2) (mab_cons (k_tyN φ g.f_tuple) mab_nil))))) (mw_or (k_tcmp (cm_ne φ) (k_call φ (cb_len φ) g.f_len (mab_cons (mb_v 2) mab_nil)).toB (me_int).toB) (mw_or1 (mt_not (mt_e (k_call φ (cb_all φ) g.f_all (mab_cons (mf_lc [("name", 3)] (mib_any φ (mb_v 2)) (mg_name 3 (hN := φ.blk.nd)) mts_nil (me_and (k_fn φ.blk D_is_name (ma_cons (me_v 3) ma_nil)) (me_one (k_cmp (cm_in φ.blk) (mb_v 3) (mb_v 1)))) (fun _ => by kernel_rfl) φ.nd).toE.toB mab_nil))))))).mt
 (mss_one (ms_ret me_bl))
 mss_nil)
 (mss_one (ms_if (k_tcmp (cm_eq φ) (k_ix φ (mb_v 2) (me_int).toB).toB (k_ix φ (mb_v 2) (me_int).toB).toB)
 (mss_one (ms_ret me_bl))
 mss_nil))) (fun _ => PassesOwn.never))
 (mss_one (ms_ret (k_fn φ D_rise_all (ma_cons (me_v 0) ma_nil))))))
theorem d_are_counters (g : Gf K mg C_Offices) (D_is_lot : Dd P w K mg base "is_lot" 3 1 sp_is_lot) (D_lot_within : Dd P w K mg base "lot_within" 1 2 sp_lot_within) (D_rise_all : Dd P w K mg base "rise_all" 1 1 sp_rise_all) (ι : Unit) (f : Addr) (cdv : Value) (A : Around) (outer : List Env) (s : Shared) (H : Hp) (E : XK) (φ : Fam P w K mg base 3 (fun _ : Unit => (cxOf CX0 P w K mg base ["value", "names", "lot"] "are_counters" (defScope s_are_counters) f cdv A outer s H E).nox)) :
    MSs (fun _ : Unit => (cxOf CX0 P w K mg base ["value", "names", "lot"] "are_counters" (defScope s_are_counters) f cdv A outer s H E).nox) E0 (defBody s_are_counters) (w_are_counters) :=
 (mss_cons (ms_if (mw_or (mt_not (mt_e (k_call φ (cb_isi φ) g.f_isinstance (mab_cons (mb_v 0) (mab_cons (k_tyN φ g.f_tuple) mab_nil))))) (mw_or1 (k_tcmp (cm_eq φ) (k_call φ (cb_len φ) g.f_len (mab_cons (mb_v 0) mab_nil)).toB (me_int).toB))).mt
 (mss_one (ms_ret me_bl))
 mss_nil)
 (mss_cons (ms_if (mt_not (mt_e (k_call φ (cb_all φ) g.f_all (mab_cons (mf_lc [("lot", 2)] (mib_any φ (mb_v 0)) (mg_name 2 (hN := φ.blk.nd)) mts_nil (me_and (k_fn φ.blk D_is_lot (ma_cons (me_v 2) ma_nil)) (me_and (k_cmp (cm_ne φ.blk) (mb_v 2) (me_tup ma_nil).toB) (me_one (k_fn φ.blk D_lot_within (ma_cons (me_v 2) (ma_cons (me_v 1) ma_nil)))))) (fun _ => by kernel_rfl) φ.nd).toE.toB mab_nil))))
 (mss_one (ms_ret me_bl))
 mss_nil)
 (mss_one (ms_ret (k_fn φ D_rise_all (ma_cons (me_v 0) ma_nil))))))
theorem d_are_hand_counters (g : Gf K mg C_Offices) (D_is_name : Dd P w K mg base "is_name" 2 1 sp_is_name) (D_are_counters : Dd P w K mg base "are_counters" 4 2 sp_are_counters) (D_rise_all : Dd P w K mg base "rise_all" 1 1 sp_rise_all) (ι : Unit) (f : Addr) (cdv : Value) (A : Around) (outer : List Env) (s : Shared) (H : Hp) (E : XK) (φ : Fam P w K mg base 4 (fun _ : Unit => (cxOf CX0 P w K mg base ["value", "names", "pair"] "are_hand_counters" (defScope s_are_hand_counters) f cdv A outer s H E).nox)) :
    MSs (fun _ : Unit => (cxOf CX0 P w K mg base ["value", "names", "pair"] "are_hand_counters" (defScope s_are_hand_counters) f cdv A outer s H E).nox) E0 (defBody s_are_hand_counters) (w_are_hand_counters) :=
 (mss_cons (ms_if (mw_or (mt_not (mt_e (k_call φ (cb_isi φ) g.f_isinstance (mab_cons (mb_v 0) (mab_cons (k_tyN φ g.f_tuple) mab_nil))))) (mw_or1 (mt_not (k_tchain (cm_le φ) (cm_le φ) (k_gint φ g.c_FEWEST_OFFICE_HANDS).toB (k_call φ (cb_len φ) g.f_len (mab_cons (mb_v 0) mab_nil)).toB (k_gint φ g.c_MOST_OFFICE_HANDS).toB)))).mt
 (mss_one (ms_ret me_bl))
 mss_nil)
 (mss_cons (ms_for (mi_any φ (me_v 0)) (mg_name 2 (hN := φ.nd))
 (mss_one (ms_if (mw_or (mt_not (mt_e (k_call φ (cb_isi φ) g.f_isinstance (mab_cons (mb_v 2) (mab_cons (k_tyN φ g.f_tuple) mab_nil))))) (mw_or (k_tcmp (cm_ne φ) (k_call φ (cb_len φ) g.f_len (mab_cons (mb_v 2) mab_nil)).toB (me_int).toB) (mw_or (mt_not (mt_e (k_fn φ D_is_name (ma_cons (k_ix φ (mb_v 2) (me_int).toB) ma_nil)))) (mw_or1 (mt_not (mt_e (k_fn φ D_are_counters (ma_cons (k_ix φ (mb_v 2) (me_int).toB) (ma_cons (me_v 1) ma_nil))))))))).mt
 (mss_one (ms_ret me_bl))
 mss_nil)) (fun _ => PassesOwn.never))
 (mss_one (ms_ret (k_fn φ D_rise_all (ma_cons (mf_lc [("pair", 2)] (mib_any φ (mb_v 0)) (mg_name 2 (hN := φ.blk.nd)) mts_nil (k_ix φ.blk (mb_v 2) (me_int).toB) (fun _ => by kernel_rfl) φ.nd).toE ma_nil))))))
theorem d_are_forgetful (g : Gf K mg C_Offices) (D_is_lot : Dd P w K mg base "is_lot" 3 1 sp_is_lot) (D_lot_within : Dd P w K mg base "lot_within" 1 2 sp_lot_within) (D_rise_all : Dd P w K mg base "rise_all" 1 1 sp_rise_all) (D_place_within : Dd P w K mg base "place_within" 2 1 sp_place_within) (ι : Unit) (f : Addr) (cdv : Value) (A : Around) (outer : List Env) (s : Shared) (H : Hp) (E : XK) (φ : Fam P w K mg base 3 (fun _ : Unit => (cxOf CX0 P w K mg base ["value", "names", "lot"] "are_forgetful" (defScope s_are_forgetful) f cdv A outer s H E).nox)) :
    MSs (fun _ : Unit => (cxOf CX0 P w K mg base ["value", "names", "lot"] "are_forgetful" (defScope s_are_forgetful) f cdv A outer s H E).nox) E0 (defBody s_are_forgetful) (w_are_forgetful) :=
 (mss_cons (ms_if (mw_or (mt_not (mt_e (k_call φ (cb_isi φ) g.f_isinstance (mab_cons (mb_v 0) (mab_cons (k_tyN φ g.f_tuple) mab_nil))))) (mw_or1 (k_tcmp (cm_eq φ) (k_call φ (cb_len φ) g.f_len (mab_cons (mb_v 0) mab_nil)).toB (me_int).toB))).mt
 (mss_one (ms_ret me_bl))
 mss_nil)
 (mss_cons (ms_if (mt_not (mt_e (k_call φ (cb_all φ) g.f_all (mab_cons (mf_lc [("lot", 2)] (mib_any φ (mb_v 0)) (mg_name 2 (hN := φ.blk.nd)) mts_nil (me_and (k_fn φ.blk D_is_lot (ma_cons (me_v 2) ma_nil)) (me_one (k_fn φ.blk D_lot_within (ma_cons (me_v 2) (ma_cons (me_v 1) ma_nil))))) (fun _ => by kernel_rfl) φ.nd).toE.toB mab_nil))))
 (mss_one (ms_ret me_bl))
 mss_nil)
 (mss_one (ms_ret (me_and (k_fn φ D_rise_all (ma_cons (me_v 0) ma_nil)) (me_one (k_cmp cm_is (k_fn φ D_place_within (ma_cons (me_v 0) ma_nil)).toB (me_non).toB)))))))
theorem d_Offices_init (g : Gf K mg C_Offices) (D_is_lot : Dd P w K mg base "is_lot" 3 1 sp_is_lot) (D_are_tells : Dd P w K mg base "are_tells" 3 2 sp_are_tells) (D_are_hand_counters : Dd P w K mg base "are_hand_counters" 5 2 sp_are_hand_counters) (D_are_forgetful : Dd P w K mg base "are_forgetful" 4 2 sp_are_forgetful) (ι : Unit) (f : Addr) (cdv : Value) (A : Around) (outer : List Env) (s : Shared) (H : Hp) (E : XK) (φ : Fam P w K mg base 5 (fun _ : Unit => (cxOf CX0 P w K mg base ["self", "names", "tells", "counters", "forgets"] "Offices.__init__" (defScope s_Offices_init) f cdv A outer s H E).nox)) :
    MSs (fun _ : Unit => (cxOf CX0 P w K mg base ["self", "names", "tells", "counters", "forgets"] "Offices.__init__" (defScope s_Offices_init) f cdv A outer s H E).nox) E0 (defBody s_Offices_init) (w_Offices_init C_Offices) :=
 (mss_cons (ms_if (mw_or (mt_not (mt_e (k_fn φ D_is_lot (ma_cons (me_v 1) ma_nil)))) (mw_or1 (mt_not (k_tchain (cm_le φ) (cm_le φ) (me_int).toB (k_call φ (cb_len φ) g.f_len (mab_cons (mb_v 1) mab_nil)).toB (k_gint φ g.c_MOST_OFFICES).toB)))).mt
 (mss_one ms_never)
 mss_nil)
 (mss_cons (ms_if (mt_not (mt_e (k_fn φ D_are_tells (ma_cons (me_v 2) (ma_cons (me_v 1) ma_nil)))))
 (mss_one ms_never)
 mss_nil)
 (mss_cons (ms_if (mt_not (mt_e (k_fn φ D_are_hand_counters (ma_cons (me_v 3) (ma_cons (me_v 1) ma_nil)))))
 (mss_one ms_never)
 mss_nil)
 (mss_cons (ms_if (mt_not (mt_e (k_fn φ D_are_forgetful (ma_cons (me_v 4) (ma_cons (me_v 1) ma_nil)))))
 (mss_one ms_never)
 mss_nil)
 (mss_cons (ms_fldI φ 0 g.k_Offices g.n_Offices_names (me_v 1))
 (mss_cons (ms_fldI φ 0 g.k_Offices g.n_Offices_tells (me_v 2))
 (mss_cons (ms_fldI φ 0 g.k_Offices g.n_Offices_counters (me_v 3))
 (mss_one (ms_fldI φ 0 g.k_Offices g.n_Offices_forgets (me_v 4))))))))))
theorem d_office_hears (g : Gf K mg C_Offices) (ι : Unit) (f : Addr) (cdv : Value) (A : Around) (outer : List Env) (s : Shared) (H : Hp) (E : XK) (φ : Fam P w K mg base 0 (fun _ : Unit => (cxOf CX0 P w K mg base ["offices", "lot", "office", "gone", "one"] "office_hears" (defScope s_office_hears) f cdv A outer s H E).nox)) :
    MSs (fun _ : Unit => (cxOf CX0 P w K mg base ["offices", "lot", "office", "gone", "one"] "office_hears" (defScope s_office_hears) f cdv A outer s H E).nox) E0 (defBody s_office_hears) (w_office_hears C_Offices) :=
 (mss_cons (ms_if (k_tcmp (cm_in φ) (mb_v 2) (mb_v 3))
 (mss_one (ms_ret me_bl))
 mss_nil)
 (mss_one (ms_ret (me_or (k_cmp (cm_in φ) (mb_v 2) (mb_v 1)) (me_one (k_call φ (cb_any φ) g.f_any (mab_cons (mf_lc [("one", 4)] (mib_any φ (mb_v 1)) (mg_name 4 (hN := φ.blk.nd)) mts_nil (me_and (k_cmp (cm_notin φ.blk) (mb_v 4) (mb_v 3)) (me_one (k_cmp (cm_in φ.blk) (me_tup (ma_cons (me_v 4) (ma_cons (me_v 2) ma_nil))).toB (k_fld φ.blk g.k_Offices g.n_Offices_tells (me_v 0)).toB))) (fun _ => by kernel_rfl) φ.nd).toE.toB mab_nil)))))))
theorem d_ask_known (g : Gf K mg C_Offices) (D_office_hears : Dd P w K mg base "office_hears" 1 4 (sp_office_hears C_Offices)) (ι : Unit) (f : Addr) (cdv : Value) (A : Around) (outer : List Env) (s : Shared) (H : Hp) (E : XK) (φ : Fam P w K mg base 1 (fun _ : Unit => (cxOf CX0 P w K mg base ["offices", "lot", "other", "gone", "office"] "ask_known" (defScope s_ask_known) f cdv A outer s H E).nox)) :
    MSs (fun _ : Unit => (cxOf CX0 P w K mg base ["offices", "lot", "other", "gone", "office"] "ask_known" (defScope s_ask_known) f cdv A outer s H E).nox) E0 (defBody s_ask_known) (w_ask_known C_Offices) :=
 (mss_one (ms_ret (k_call φ (cb_any φ) g.f_any (mab_cons (mf_lc [("office", 4)] (mib_any φ (mb_v 2)) (mg_name 4 (hN := φ.blk.nd)) mts_nil (k_fn φ.blk D_office_hears (ma_cons (me_v 0) (ma_cons (me_v 1) (ma_cons (me_v 4) (ma_cons (me_v 3) ma_nil))))) (fun _ => by kernel_rfl) φ.nd).toE.toB mab_nil))))
theorem d_deaf_to (g : Gf K mg C_Offices) (D_ask_known : Dd P w K mg base "ask_known" 2 4 (sp_ask_known C_Offices)) (ι : Unit) (f : Addr) (cdv : Value) (A : Around) (outer : List Env) (s : Shared) (H : Hp) (E : XK) (φ : Fam P w K mg base 2 (fun _ : Unit => (cxOf CX0 P w K mg base ["offices", "lot", "other", "gone"] "deaf_to" (defScope s_deaf_to) f cdv A outer s H E).nox)) :
    MSs (fun _ : Unit => (cxOf CX0 P w K mg base ["offices", "lot", "other", "gone"] "deaf_to" (defScope s_deaf_to) f cdv A outer s H E).nox) E0 (defBody s_deaf_to) (w_deaf_to C_Offices) :=
 (mss_one (ms_ret (k_sl φ (mf_lc [("gone", 3)] (mib_any φ (k_fld φ g.k_Offices g.n_Offices_forgets (me_v 0)).toB) (mg_name 3 (hN := φ.blk.nd)) (mts_one (mt_not (mt_e (k_fn φ.blk D_ask_known (ma_cons (me_v 0) (ma_cons (me_v 1) (ma_cons (me_v 2) (ma_cons (me_v 3) ma_nil)))))))) (me_v 3) (fun _ => by kernel_rfl) φ.nd).toE.toB mo_none (mo_some me_int))))
theorem d_deaf_pair (g : Gf K mg C_Offices) (D_deaf_to : Dd P w K mg base "deaf_to" 3 3 (sp_deaf_to C_Offices)) (ι : Unit) (f : Addr) (cdv : Value) (A : Around) (outer : List Env) (s : Shared) (H : Hp) (E : XK) (φ : Fam P w K mg base 3 (fun _ : Unit => (cxOf CX0 P w K mg base ["offices", "hand", "lots", "lot", "other", "others", "more", "found"] "deaf_pair" (defScope s_deaf_pair) f cdv A outer s H E).nox)) :
    MSs (fun _ : Unit => (cxOf CX0 P w K mg base ["offices", "hand", "lots", "lot", "other", "others", "more", "found"] "deaf_pair" (defScope s_deaf_pair) f cdv A outer s H E).nox) E0 (defBody s_deaf_pair) (w_deaf_pair C_Offices) :=
 (mss_cons (ms_for (mi_any φ (k_fld φ g.k_Offices g.n_Offices_counters (me_v 0))) (mg_tup (mgs_cons (mg_name 1 (hN := φ.nd)) (mgs_cons (mg_name 2 (hN := φ.nd)) mgs_nil)) (gd_lenS gd_monoN (gd_lenS gd_monoN gd_len0)) φ.K)
 (mss_one (ms_for (mi_any φ (me_v 2)) (mg_name 3 (hN := φ.nd))
 (mss_one (ms_for (mi_any φ (k_fld φ g.k_Offices g.n_Offices_counters (me_v 0))) (mg_tup (mgs_cons (mg_name 4 (hN := φ.nd)) (mgs_cons (mg_name 5 (hN := φ.nd)) mgs_nil)) (gd_lenS gd_monoN (gd_lenS gd_monoN gd_len0)) φ.K)
 (mss_one (ms_for (mi_any φ (me_v 5)) (mg_name 6 (hN := φ.nd))
 (mss_cons (ms_set 7 (me_if (k_tcmp (cm_ne φ) (mb_v 4) (mb_v 1)) (k_fn φ D_deaf_to (ma_cons (me_v 0) (ma_cons (me_v 3) (ma_cons (me_v 6) ma_nil)))) (mf_lst ma_nil).toE) φ.nd)
 (mss_one (ms_if (k_tcmp (cm_ne φ) (mb_v 7) (mf_lst ma_nil).toE.toB)
 (mss_one (ms_ret (me_tup (ma_cons (me_v 1) (ma_cons (me_v 3) (ma_cons (me_v 4) (ma_cons (me_v 6) (ma_cons (k_ix φ (mb_v 7) (me_int).toB) ma_nil))))))))
 mss_nil))) (fun _ => PassesOwn.never))) (fun _ => PassesOwn.never))) (fun _ => PassesOwn.never))) (fun _ => PassesOwn.never))
 (mss_one (ms_ret me_non)))
theorem d_law_deal (g : Gf K mg C_Offices) (ι : Unit) (f : Addr) (cdv : Value) (A : Around) (outer : List Env) (s : Shared) (H : Hp) (E : XK) (φ : Fam P w K mg base 0 (fun _ : Unit => (cxOf CX0 P w K mg base ["_law_script", "_law_cell", "_law_cells", "_law_blend"] "_law_deal" (defScope s_law_deal) f cdv A outer s H E).nox)) :
    MSs (fun _ : Unit => (cxOf CX0 P w K mg base ["_law_script", "_law_cell", "_law_cells", "_law_blend"] "_law_deal" (defScope s_law_deal) f cdv A outer s H E).nox) E0 (defBody s_law_deal) (w_law_deal) :=
 (mss_cons (ms_setLc 2 [("_law_cell", 1)] (mib_any φ (k_sl φ (mb_v 0) mo_none (mo_some me_int)).toB) (mg_name 1 (hN := φ.blk.nd)) mts_nil (k_call φ.blk cb_abs g.f_abs (mab_cons (mb_v 1) mab_nil)) (fun _ => by kernel_rfl) φ.nd (fun _ => sw_true rfl rfl rfl (by decide +kernel)))
 (mss_cons (ms_set 3 me_int φ.nd)
 (mss_cons (ms_for (mi_any φ (me_v 2)) (mg_name 1 (hN := φ.nd))
 (mss_one (ms_set 3 (k_bin bo_mod (k_ty φ cb_int g.f_int (mab_cons (k_bin (bo_add φ) (k_bin (bo_add φ) (k_bin bo_mulW (mb_v 3) (me_int).toB).toB (k_bin bo_mod (k_ty φ cb_int g.f_int (mab_cons (mb_v 1) mab_nil)).toB (me_int).toB).toB).toB (me_int).toB).toB mab_nil)).toB (me_int).toB) φ.nd)) (fun _ => PassesOwn.never))
 (mss_one (ms_retDeal 3 (k_rev φ (mf_lc [("_law_cell", 1)] (mib_any φ (mb_v 2)) (mg_name 1 (hN := φ.blk.nd)) (mts_one (k_tcmp (cm_ge φ.blk) (mb_v 1) (k_bin bo_pow (me_int).toB (me_int).toB).toB)) (me_v 1) (fun _ => by kernel_rfl) φ.nd).toE.toB))))))
theorem d_law_draw (g : Gf K mg C_Offices) (ι : Unit) (f : Addr) (cdv : Value) (A : Around) (outer : List Env) (s : Shared) (H : Hp) (E : XK) (φ : Fam P w K mg base 0 (fun _ : Unit => (cxOf CX0 P w K mg base ["_law_deal_here", "_law_bound", "_law_rest"] "_law_draw" (defScope s_law_draw) f cdv A outer s H E).nox)) :
    PSs (cxOf CX0 P w K mg base ["_law_deal_here", "_law_bound", "_law_rest"] "_law_draw" (defScope s_law_draw) f cdv A outer s H E).nox (defBody s_law_draw) (tDraw K (tPop1 K) tMod1 48271 67 2147483647 64) :=
 pss_cons (ps_while PassesOwn.never (PW.pt (pw_and (pt_cmpR (op_neD (Nat.lt_of_le_of_lt (Nat.add_le_add_left (by decide : 64 ≤ 190) _) (φ.hu ()))) (pe_ix ix_list (pv 0) pe_int (fun _ _ => rfl)) (pe_lst pa_nil) rfl) (pw_and1 (pt_cmpR op_eq (pe_ix ix_list (pe_ix ix_list (pv 0) pe_int (fun _ _ => rfl)) (pe_un un_neg pe_int) (fun _ _ => rfl)) pe_int rfl)))) (pss_one (ps_expr (pe_bm0 PySem.F.plainAttrs_list PySem.F.slot_list_pop PySem.F.type_list_pop mt_pop (pe_ix ix_list (pv 0) pe_int (fun _ _ => rfl))))))
 (pss_cons (ps_if (pt_cmpR (op_neD (Nat.lt_of_le_of_lt (Nat.add_le_add_left (by decide : 64 ≤ 190) _) (φ.hu ()))) (pe_ix ix_list (pv 0) pe_int (fun _ _ => rfl)) (pe_lst pa_nil) rfl) (pss_cons (ps_set (i := 2) sc_law_draw.nd rfl (.inl rfl) (pe_bm0 PySem.F.plainAttrs_list PySem.F.slot_list_pop PySem.F.type_list_pop mt_pop (pe_ix ix_list (pv 0) pe_int (fun _ _ => rfl)))) (pss_cons (ps_expr (pe_bm PySem.F.plainAttrs_list PySem.F.slot_list_append PySem.F.type_list_append mt_append (pe_ix ix_list (pv 0) pe_int (fun _ _ => rfl)) (pa_cons (pe_op op_fdivW (pv 2) (pv 1)) pa_nil))) (pss_one (ps_ret (pe_op op_mod (pe_callTy call_int1 rfl g.f_int (by decide +kernel) (pa_cons (pv 2) pa_nil)) (pv 1)))))) pss_nil)
 (pss_cons (ps_asg (pe_op op_mod (pe_callTy call_int1 rfl g.f_int (by decide +kernel) (pa_cons (pe_op op_add (pe_op op_mulW (pe_ix ix_list (pv 0) pe_int (fun _ _ => rfl)) pe_int) pe_int) pa_nil)) pe_int) (pg_sub (pv 0) pe_int set_list))
 (pss_one (ps_ret (pe_op op_mod (pe_callTy call_int1 rfl g.f_int (by decide +kernel) (pa_cons (pe_op op_fdivW (pe_ix ix_list (pv 0) pe_int (fun _ _ => rfl)) pe_int) pa_nil)) (pv 1))))))
theorem d_law_pick (g : Gf K mg C_Offices) (D_law_draw : DdL P w K mg base "_law_draw" 1 2 sp_law_draw) (ι : Unit) (f : Addr) (cdv : Value) (A : Around) (outer : List Env) (s : Shared) (H : Hp) (E : XK) (φ : Fam P w K mg base 1 (fun _ : Unit => (cxOf CX0 P w K mg base ["_law_deal_here", "_law_some"] "_law_pick" (defScope s_law_pick) f cdv A outer s H E).nox)) :
    MSs (fun _ : Unit => (cxOf CX0 P w K mg base ["_law_deal_here", "_law_some"] "_law_pick" (defScope s_law_pick) f cdv A outer s H E).nox) E0 (defBody s_law_pick) (w_law_pick) :=
 (mss_one (ms_ret (k_ix φ (mb_v 1) (k_fnL φ 0 D_law_draw (ma_cons (k_call φ (cb_len φ) g.f_len (mab_cons (mb_v 1) mab_nil)) ma_nil)).toB)))
theorem d_law_mixed (g : Gf K mg C_Offices) (D_law_draw : DdL P w K mg base "_law_draw" 1 2 sp_law_draw) (ι : Unit) (f : Addr) (cdv : Value) (A : Around) (outer : List Env) (s : Shared) (H : Hp) (E : XK) (φ : Fam P w K mg base 1 (fun _ : Unit => (cxOf CX0 P w K mg base ["_law_deal_here", "_law_some", "_law_found", "_law_one"] "_law_mixed" (defScope s_law_mixed) f cdv A outer s H E).nox)) :
    MSs (fun _ : Unit => (cxOf CX0 P w K mg base ["_law_deal_here", "_law_some", "_law_found", "_law_one"] "_law_mixed" (defScope s_law_mixed) f cdv A outer s H E).nox) E0 (defBody s_law_mixed) (w_law_mixed) :=
 (mss_cons (ms_setM 2 (mf_lst ma_nil) φ.nd)
 (mss_cons (ms_for (mi_any φ (me_v 1)) (mg_name 3 (hN := φ.nd))
 (mss_one (ms_mut (mx_insert 2 (k_fnL φ 0 D_law_draw (ma_cons (k_bin (bo_add φ) (k_call φ (cb_len φ) g.f_len (mab_cons (mb_v 2) mab_nil)).toB (me_int).toB) ma_nil)) (me_v 3) φ.K))) (fun _ => PassesOwn.never))
 (mss_one (ms_frz 2 (ms_ret (me_v 2))))))
theorem d_law_words (g : Gf K mg C_Offices) (D_law_pick : DdL P w K mg base "_law_pick" 2 2 sp_law_pick) (D_law_draw : DdL P w K mg base "_law_draw" 1 2 sp_law_draw) (D_law_mixed : DdL P w K mg base "_law_mixed" 2 2 sp_law_mixed) (ι : Unit) (f : Addr) (cdv : Value) (A : Around) (outer : List Env) (s : Shared) (H : Hp) (E : XK) (φ : Fam P w K mg base 2 (fun _ : Unit => (cxOf CX0 P w K mg base ["_law_deal_here", "_law_many", "_law_letters", "_law_word", "_law_at", "_law_length", "_law_shift", "_law_found", "_law_place", "_law_turn"] "_law_words" (defScope s_law_words) f cdv A outer s H E).nox)) :
    MSs (fun _ : Unit => (cxOf CX0 P w K mg base ["_law_deal_here", "_law_many", "_law_letters", "_law_word", "_law_at", "_law_length", "_law_shift", "_law_found", "_law_place", "_law_turn"] "_law_words" (defScope s_law_words) f cdv A outer s H E).nox) E0 (defBody s_law_words) (w_law_words) :=
 (mss_cons (ms_set 2 me_str φ.nd)
 (mss_cons (ms_setM 3 (mf_lc [("_law_turn", 9)] (mi_rng1 φ g.f_range (mab_cons (me_int).toB mab_nil)).toB (mg_name 9 (hN := φ.blk.nd)) mts_nil (k_fnL φ.blk 0 D_law_pick (ma_cons (me_v 2) ma_nil)) (fun _ => by kernel_rfl) φ.nd) φ.nd)
 (mss_cons (ms_if (mw_and (k_tcmp (cm_le φ) (mb_v 1) (me_int).toB) (mw_and1 (k_tcmp (cm_eq φ) (k_fnL φ 0 D_law_draw (ma_cons me_int ma_nil)).toB (me_int).toB))).mt
 (mss_one (ms_ret (k_fnL φ 0 D_law_mixed (ma_cons (mf_lc [("_law_at", 4)] (mi_rng1 φ g.f_range (mab_cons (mb_v 1) mab_nil)).toB (mg_name 4 (hN := φ.blk.nd)) mts_nil (me_join me_str (k_sl φ.blk (mb_v 3) mo_none (mo_some (k_bin (bo_add φ.blk) (me_int).toB (mb_v 4)))).toB φ.blk.K) (fun _ => by kernel_rfl) φ.nd).toE ma_nil))))
 mss_nil)
 (mss_cons (ms_par3 5 6 7 (mv_e (k_bin (bo_add φ) (me_if (k_tcmp (cm_le φ) (mb_v 1) (me_int).toB) me_int me_int).toB (k_fnL φ 0 D_law_draw (ma_cons me_int ma_nil)).toB) (mv_e (k_fnL φ 0 D_law_draw (ma_cons me_int ma_nil)) (mv_f (mf_lst ma_nil) mv_nil))) φ.c φ.nd (fun _ => rfl))
 (mss_cons (ms_set 8 (k_fnL φ 0 D_law_draw (ma_cons (me_v 5) ma_nil)) φ.nd)
 (mss_cons (ms_for (mi_rng1 φ g.f_range (mab_cons (mb_v 1) mab_nil)) (mg_name 4 (hN := φ.nd))
 (mss_cons (ms_setI 3 (k_ix φ (mb_v 2) (k_bin bo_mod (k_ty φ cb_int g.f_int (mab_cons (k_bin (bo_add φ) (mb_v 6) (k_bin bo_mulW (me_int).toB (mb_v 4)).toB).toB mab_nil)).toB (me_int).toB).toB) (me_v 8))
 (mss_cons (ms_if (k_tcmp (cm_gt φ) (mb_v 1) (me_int).toB)
 (mss_one (ms_setI 3 (k_ix φ (mb_v 2) (k_bin bo_fdiv (mb_v 4) (me_int).toB).toB) (k_bin bo_mod (k_ty φ cb_int g.f_int (mab_cons (k_bin (bo_add φ) (mb_v 8) (me_int).toB).toB mab_nil)).toB (mb_v 5))))
 mss_nil)
 (mss_one (ms_mut (mx_append 7 (me_join me_str (k_sl φ (mb_v 3) mo_none (mo_some (me_v 5))).toB φ.K) φ.K))))) (fun _ => PassesOwn.never))
 (mss_one (ms_frz 7 (ms_ret (me_v 7))))))))))
theorem d_law_lot (g : Gf K mg C_Offices) (D_law_draw : DdL P w K mg base "_law_draw" 1 2 sp_law_draw) (D_law_pick : DdL P w K mg base "_law_pick" 2 2 sp_law_pick) (ι : Unit) (f : Addr) (cdv : Value) (A : Around) (outer : List Env) (s : Shared) (H : Hp) (E : XK) (φ : Fam P w K mg base 2 (fun _ : Unit => (cxOf CX0 P w K mg base ["_law_deal_here", "_law_names", "_law_least", "_law_found", "_law_name"] "_law_lot" (defScope s_law_lot) f cdv A outer s H E).nox)) :
    MSs (fun _ : Unit => (cxOf CX0 P w K mg base ["_law_deal_here", "_law_names", "_law_least", "_law_found", "_law_name"] "_law_lot" (defScope s_law_lot) f cdv A outer s H E).nox) E0 (defBody s_law_lot) (w_law_lot) :=
 (mss_cons (ms_setLc 3 [("_law_name", 4)] (mib_any φ (mb_v 1)) (mg_name 4 (hN := φ.blk.nd)) (mts_one (k_tcmp (cm_eq φ.blk) (k_fnL φ.blk 0 D_law_draw (ma_cons me_int ma_nil)).toB (me_int).toB)) (me_v 4) (fun _ => by kernel_rfl) φ.nd (fun _ => sw_true rfl rfl rfl (by decide +kernel)))
 (mss_one (ms_ret (me_if (k_tcmp (cm_ge φ) (k_call φ (cb_len φ) g.f_len (mab_cons (mb_v 3) mab_nil)).toB (mb_v 2)) (k_ty φ (cb_tuple φ) g.f_tuple (mab_cons (mb_v 3) mab_nil)) (me_tup (ma_cons (k_fnL φ 0 D_law_pick (ma_cons (me_v 1) ma_nil)) ma_nil))))))
theorem d_law_lots_of (g : Gf K mg C_Offices) (D_law_lot : DdL P w K mg base "_law_lot" 3 3 sp_law_lot) (ι : Unit) (f : Addr) (cdv : Value) (A : Around) (outer : List Env) (s : Shared) (H : Hp) (E : XK) (φ : Fam P w K mg base 3 (fun _ : Unit => (cxOf CX0 P w K mg base ["_law_deal_here", "_law_names", "_law_many", "_law_least", "_law_found", "_law_turn", "_law_lot_here"] "_law_lots_of" (defScope s_law_lots_of) f cdv A outer s H E).nox)) :
    MSs (fun _ : Unit => (cxOf CX0 P w K mg base ["_law_deal_here", "_law_names", "_law_many", "_law_least", "_law_found", "_law_turn", "_law_lot_here"] "_law_lots_of" (defScope s_law_lots_of) f cdv A outer s H E).nox) E0 (defBody s_law_lots_of) (w_law_lots_of) :=
 (mss_cons (ms_setM 4 (mf_lst ma_nil) φ.nd)
 (mss_cons (ms_for (mi_rng1 φ g.f_range (mab_cons (mb_v 2) mab_nil)) (mg_name 5 (hN := φ.nd))
 (mss_cons (ms_set 6 (k_fnL φ 0 D_law_lot (ma_cons (me_v 1) (ma_cons (me_v 3) ma_nil))) φ.nd)
 (mss_one (ms_if (k_tcmp (cm_notin φ) (mb_v 6) (mb_v 4))
 (mss_one (ms_mut (mx_append 4 (me_v 6) φ.K)))
 mss_nil))) (fun _ => PassesOwn.never))
 (mss_one (ms_ret (k_callF φ (cb_sorted φ) g.f_sorted (mab_cons (mb_v 4) mab_nil)).toE))))
theorem d_law_greatest (g : Gf K mg C_Offices) (ι : Unit) (f : Addr) (cdv : Value) (A : Around) (outer : List Env) (s : Shared) (H : Hp) (E : XK) (φ : Fam P w K mg base 0 (fun _ : Unit => (cxOf CX0 P w K mg base ["_law_lots", "_law_found", "_law_lot_here", "_law_one", "_law_name"] "_law_greatest" (defScope s_law_greatest) f cdv A outer s H E).nox)) :
    MSs (fun _ : Unit => (cxOf CX0 P w K mg base ["_law_lots", "_law_found", "_law_lot_here", "_law_one", "_law_name"] "_law_greatest" (defScope s_law_greatest) f cdv A outer s H E).nox) E0 (defBody s_law_greatest) (w_law_greatest) :=
 (mss_cons (ms_setM 1 (mf_lst ma_nil) φ.nd)
 (mss_cons (ms_for (mi_any φ (me_v 0)) (mg_name 2 (hN := φ.nd))
 (mss_one (ms_if (k_tcmp (cm_eq φ) (mf_lc [("_law_one", 3)] (mib_any φ (mb_v 0)) (mg_name 3 (hN := φ.blk.nd)) (mts_one (mw_and (k_tcmp (cm_ne φ.blk) (mb_v 3) (mb_v 2)) (mw_and1 (k_tcmp (cm_eq φ.blk) (mf_lc [("_law_name", 4)] (mib_any φ.blk (mb_v 2)) (mg_name 4 (hN := φ.blk.blk.nd)) (mts_one (k_tcmp (cm_notin φ.blk.blk) (mb_v 4) (mb_v 3))) (me_v 4) (fun _ => by kernel_rfl) φ.blk.nd).toE.toB (mf_lst ma_nil).toE.toB))).mt) (me_v 3) (fun _ => by kernel_rfl) φ.nd).toE.toB (mf_lst ma_nil).toE.toB)
 (mss_one (ms_mut (mx_append 1 (me_v 2) φ.K)))
 mss_nil)) (fun _ => PassesOwn.never))
 (mss_one (ms_ret (k_ty φ (cb_tuple φ) g.f_tuple (mab_cons (mb_v 1) mab_nil))))))
theorem d_law_told_offices (g : Gf K mg C_Offices) (D_law_words : DdL P w K mg base "_law_words" 3 2 sp_law_words) (D_law_draw : DdL P w K mg base "_law_draw" 1 2 sp_law_draw) (D_law_lots_of : DdL P w K mg base "_law_lots_of" 4 4 sp_law_lots_of) (D_law_greatest : Dd P w K mg base "_law_greatest" 1 1 sp_law_greatest) (ι : Unit) (f : Addr) (cdv : Value) (A : Around) (outer : List Env) (s : Shared) (H : Hp) (E : XK) (φ : Fam P w K mg base 4 (fun _ : Unit => (cxOf CX0 P w K mg base ["_law_deal_here", "_law_hands", "_law_many", "_law_names", "_law_tells", "_law_counters", "_law_one", "_law_hand", "_law_forgets", "_law_other", "_law_name"] "_law_told_offices" (defScope s_law_told_offices) f cdv A outer s H E).nox)) :
    MSs (fun _ : Unit => (cxOf CX0 P w K mg base ["_law_deal_here", "_law_hands", "_law_many", "_law_names", "_law_tells", "_law_counters", "_law_one", "_law_hand", "_law_forgets", "_law_other", "_law_name"] "_law_told_offices" (defScope s_law_told_offices) f cdv A outer s H E).nox) E0 (defBody s_law_told_offices) (w_law_told_offices) :=
 (mss_cons (ms_par3 3 4 5 (mv_e (k_ty φ (cb_tuple φ) g.f_tuple (mab_cons (k_callF φ (cb_sorted φ) g.f_sorted (mab_cons (k_fnL φ 0 D_law_words (ma_cons (me_v 2) ma_nil)).toB mab_nil)).toE.toB mab_nil)) (mv_e (mf_lst ma_nil).toE (mv_f (mf_lst ma_nil) mv_nil))) φ.c φ.nd (fun _ => rfl))
 (mss_cons (ms_for (mi_any φ (me_v 3)) (mg_name 6 (hN := φ.nd))
 (mss_one (ms_set 4 (k_bin (bo_add φ) (mb_v 4) (mf_lc [("_law_other", 9)] (mib_any φ (mb_v 3)) (mg_name 9 (hN := φ.blk.nd)) (mts_one (mw_and (k_tcmp (cm_ne φ.blk) (mb_v 6) (mb_v 9)) (mw_and1 (k_tcmp (cm_eq φ.blk) (k_fnL φ.blk 0 D_law_draw (ma_cons me_int ma_nil)).toB (me_int).toB))).mt) (me_tup (ma_cons (me_v 6) (ma_cons (me_v 9) ma_nil))) (fun _ => by kernel_rfl) φ.nd).toE.toB) φ.nd)) (fun _ => PassesOwn.never))
 (mss_cons (ms_for (mi_any φ (me_v 1)) (mg_name 7 (hN := φ.nd))
 (mss_one (ms_mut (mx_append 5 (me_tup (ma_cons (me_v 7) (ma_cons (k_ty φ (cb_tuple φ) g.f_tuple (mab_cons (k_fnL φ 0 D_law_lots_of (ma_cons (me_v 3) (ma_cons (k_bin (bo_add φ) (me_int).toB (k_fnL φ 0 D_law_draw (ma_cons me_int ma_nil)).toB) (ma_cons me_int ma_nil)))).toB mab_nil)) ma_nil))) φ.K))) (fun _ => PassesOwn.never))
 (mss_cons (ms_set 8 (k_fn φ D_law_greatest (ma_cons (k_fnL φ 0 D_law_lots_of (ma_cons (me_v 3) (ma_cons (k_bin (bo_add φ) (me_int).toB (k_fnL φ 0 D_law_draw (ma_cons me_int ma_nil)).toB) (ma_cons me_int ma_nil)))) ma_nil)) φ.nd)
 (mss_cons (ms_if (k_tcmp (cm_eq φ) (k_fnL φ 0 D_law_draw (ma_cons me_int ma_nil)).toB (me_int).toB)
 (mss_one (ms_set 8 (k_ty φ (cb_tuple φ) g.f_tuple (mab_cons (mf_lc [("_law_name", 10)] (mib_any φ (mb_v 3)) (mg_name 10 (hN := φ.blk.nd)) mts_nil (me_tup (ma_cons (me_v 10) ma_nil)) (fun _ => by kernel_rfl) φ.nd).toE.toB mab_nil)) φ.nd))
 mss_nil)
 (mss_one (ms_ret (me_tup (ma_cons (me_v 3) (ma_cons (k_ty φ (cb_tuple φ) g.f_tuple (mab_cons (mb_v 4) mab_nil)) (ma_cons (k_ty φ (cb_tuple φ) g.f_tuple (mab_cons (mb_v 5) mab_nil)) (ma_cons (me_v 8) ma_nil))))))))))))
theorem d_law_known (g : Gf K mg C_Offices) (ι : Unit) (f : Addr) (cdv : Value) (A : Around) (outer : List Env) (s : Shared) (H : Hp) (E : XK) (φ : Fam P w K mg base 0 (fun _ : Unit => (cxOf CX0 P w K mg base ["_law_told", "_law_lot_here", "_law_other", "_law_gone", "_law_office", "_law_one"] "_law_known" (defScope s_law_known) f cdv A outer s H E).nox)) :
    MSs (fun _ : Unit => (cxOf CX0 P w K mg base ["_law_told", "_law_lot_here", "_law_other", "_law_gone", "_law_office", "_law_one"] "_law_known" (defScope s_law_known) f cdv A outer s H E).nox) E0 (defBody s_law_known) (w_law_known) :=
 (mss_cons (ms_for (mi_any φ (me_v 2)) (mg_name 4 (hN := φ.nd))
 (mss_one (ms_if (k_tcmp (cm_notin φ) (mb_v 4) (mb_v 3))
 (mss_one (ms_if (mw_or (k_tcmp (cm_in φ) (mb_v 4) (mb_v 1)) (mw_or1 (k_tcmp (cm_ne φ) (mf_lc [("_law_one", 5)] (mib_any φ (mb_v 1)) (mg_name 5 (hN := φ.blk.nd)) (mts_one (mw_and (k_tcmp (cm_notin φ.blk) (mb_v 5) (mb_v 3)) (mw_and1 (k_tcmp (cm_in φ.blk) (me_tup (ma_cons (me_v 5) (ma_cons (me_v 4) ma_nil))).toB (k_ix φ.blk (mb_v 0) (me_int).toB).toB))).mt) (me_v 5) (fun _ => by kernel_rfl) φ.nd).toE.toB (mf_lst ma_nil).toE.toB))).mt
 (mss_one (ms_ret me_bl))
 mss_nil))
 mss_nil)) (fun _ => PassesOwn.never))
 (mss_one (ms_ret me_bl)))
theorem d_law_deaf (g : Gf K mg C_Offices) (D_law_known : Dd P w K mg base "_law_known" 1 4 sp_law_known) (ι : Unit) (f : Addr) (cdv : Value) (A : Around) (outer : List Env) (s : Shared) (H : Hp) (E : XK) (φ : Fam P w K mg base 1 (fun _ : Unit => (cxOf CX0 P w K mg base ["_law_told", "_law_hand", "_law_lots", "_law_lot_here", "_law_other", "_law_others", "_law_more", "_law_gone", "_law_one"] "_law_deaf" (defScope s_law_deaf) f cdv A outer s H E).nox)) :
    MSs (fun _ : Unit => (cxOf CX0 P w K mg base ["_law_told", "_law_hand", "_law_lots", "_law_lot_here", "_law_other", "_law_others", "_law_more", "_law_gone", "_law_one"] "_law_deaf" (defScope s_law_deaf) f cdv A outer s H E).nox) E0 (defBody s_law_deaf) (w_law_deaf) :=
 (mss_cons (ms_for (mi_any φ (k_ix φ (mb_v 0) (me_int).toB)) (mg_tup (mgs_cons (mg_name 1 (hN := φ.nd)) (mgs_cons (mg_name 2 (hN := φ.nd)) mgs_nil)) (gd_lenS gd_monoN (gd_lenS gd_monoN gd_len0)) φ.K)
 (mss_one (ms_for (mi_any φ (me_v 2)) (mg_name 3 (hN := φ.nd))
 (mss_one (ms_for (mi_any φ (k_ix φ (mb_v 0) (me_int).toB)) (mg_tup (mgs_cons (mg_name 4 (hN := φ.nd)) (mgs_cons (mg_name 5 (hN := φ.nd)) mgs_nil)) (gd_lenS gd_monoN (gd_lenS gd_monoN gd_len0)) φ.K)
 (mss_one (ms_for (mi_any φ (me_v 5)) (mg_name 6 (hN := φ.nd))
 (mss_cons (ms_setLc 7 [("_law_one", 8)] (mib_any φ (k_ix φ (mb_v 0) (me_int).toB).toB) (mg_name 8 (hN := φ.blk.nd)) (mts_one (mt_not (mt_e (k_fn φ.blk D_law_known (ma_cons (me_v 0) (ma_cons (me_v 3) (ma_cons (me_v 6) (ma_cons (me_v 8) ma_nil)))))))) (me_v 8) (fun _ => by kernel_rfl) φ.nd (fun _ => sw_true rfl rfl rfl (by decide +kernel)))
 (mss_one (ms_if (mw_and (k_tcmp (cm_ne φ) (mb_v 4) (mb_v 1)) (mw_and1 (k_tcmp (cm_ne φ) (mb_v 7) (mf_lst ma_nil).toE.toB))).mt
 (mss_one (ms_ret (me_tup (ma_cons (me_v 1) (ma_cons (me_v 3) (ma_cons (me_v 4) (ma_cons (me_v 6) (ma_cons (k_ix φ (mb_v 7) (me_int).toB) ma_nil))))))))
 mss_nil))) (fun _ => PassesOwn.never))) (fun _ => PassesOwn.never))) (fun _ => PassesOwn.never))) (fun _ => PassesOwn.never))
 (mss_one (ms_ret me_non)))
theorem d_law_common (g : Gf K mg C_Offices) (D_law_pick : DdL P w K mg base "_law_pick" 2 2 sp_law_pick) (D_law_draw : DdL P w K mg base "_law_draw" 1 2 sp_law_draw) (ι : Unit) (f : Addr) (cdv : Value) (A : Around) (outer : List Env) (s : Shared) (H : Hp) (E : XK) (φ : Fam P w K mg base 2 (fun _ : Unit => (cxOf CX0 P w K mg base ["_law_deal_here", "_law_told", "_law_one", "_law_counters", "_law_tells", "_law_hand", "_law_lots", "_law_wider", "_law_lot_here", "_law_first", "_law_rest", "_law_gone", "_law_other", "_law_name"] "_law_common" (defScope s_law_common) f cdv A outer s H E).nox)) :
    MSs (fun _ : Unit => (cxOf CX0 P w K mg base ["_law_deal_here", "_law_told", "_law_one", "_law_counters", "_law_tells", "_law_hand", "_law_lots", "_law_wider", "_law_lot_here", "_law_first", "_law_rest", "_law_gone", "_law_other", "_law_name"] "_law_common" (defScope s_law_common) f cdv A outer s H E).nox) E0 (defBody s_law_common) (w_law_common) :=
 (mss_cons (ms_pars [2, 3, 4] φ (mv_e (k_fnL φ 0 D_law_pick (ma_cons (k_ix φ (mb_v 1) (me_int).toB) ma_nil)) (mv_f (mf_lst ma_nil) (mv_e (k_tyF φ (cb_list φ) g.f_list (mab_cons (k_ix φ (mb_v 1) (me_int).toB).toB mab_nil)).toE mv_nil))) (mn_cons 2 φ (mn_cons 3 φ (mn_cons 4 φ mn_nil))))
 (mss_cons (ms_for (mi_any φ (k_ix φ (mb_v 1) (me_int).toB)) (mg_tup (mgs_cons (mg_name 5 (hN := φ.nd)) (mgs_cons (mg_name 6 (hN := φ.nd)) mgs_nil)) (gd_lenS gd_monoN (gd_lenS gd_monoN gd_len0)) φ.K)
 (mss_cons (ms_set 7 (mf_lst ma_nil).toE φ.nd)
 (mss_cons (ms_for (mi_any φ (me_v 6)) (mg_name 8 (hN := φ.nd))
 (mss_cons (ms_set 8 (k_ty φ (cb_tuple φ) g.f_tuple (mab_cons (k_callF φ (cb_sorted φ) g.f_sorted (mab_cons (k_bin (bo_add φ) (k_tyF φ (cb_list φ) g.f_list (mab_cons (mb_v 8) mab_nil)).toE.toB (me_if (k_tcmp (cm_notin φ) (mb_v 2) (mb_v 8)) (mf_lst (ma_cons (me_v 2) ma_nil)).toE (mf_lst ma_nil).toE).toB).toB mab_nil)).toE.toB mab_nil)) φ.nd)
 (mss_one (ms_set 7 (k_bin (bo_add φ) (mb_v 7) (me_if (k_tcmp (cm_notin φ) (mb_v 8) (mb_v 7)) (mf_lst (ma_cons (me_v 8) ma_nil)).toE (mf_lst ma_nil).toE).toB) φ.nd))) (fun _ => PassesOwn.never))
 (mss_one (ms_mut (mx_append 3 (me_tup (ma_cons (me_v 5) (ma_cons (k_ty φ (cb_tuple φ) g.f_tuple (mab_cons (k_callF φ (cb_sorted φ) g.f_sorted (mab_cons (mb_v 7) mab_nil)).toE.toB mab_nil)) ma_nil))) φ.K))))) (fun _ => PassesOwn.never))
 (mss_cons (ms_if (k_tcmp (cm_eq φ) (k_fnL φ 0 D_law_draw (ma_cons me_int ma_nil)).toB (me_int).toB)
 (mss_cons (ms_set 4 (mf_lst ma_nil).toE φ.nd)
 (mss_one (ms_for (mi_any φ (k_ix φ (mb_v 1) (me_int).toB)) (mg_name 9 (hN := φ.nd))
 (mss_one (ms_set 4 (k_bin (bo_add φ) (mb_v 4) (mf_lc [("_law_other", 12)] (mib_any φ (k_ix φ (mb_v 1) (me_int).toB).toB) (mg_name 12 (hN := φ.blk.nd)) (mts_one (k_tcmp (cm_ne φ.blk) (mb_v 12) (mb_v 9))) (me_tup (ma_cons (me_v 9) (ma_cons (me_v 12) ma_nil))) (fun _ => by kernel_rfl) φ.nd).toE.toB) φ.nd)) (fun _ => PassesOwn.never))))
 mss_nil)
 (mss_cons (ms_setLc 10 [("_law_name", 13)] (mib_any φ (k_ix φ (mb_v 1) (me_int).toB).toB) (mg_name 13 (hN := φ.blk.nd)) (mts_one (k_tcmp (cm_ne φ.blk) (mb_v 13) (mb_v 2))) (me_v 13) (fun _ => by kernel_rfl) φ.nd (fun _ => sw_true rfl rfl rfl (by decide +kernel)))
 (mss_cons (ms_set 11 (me_if (k_tcmp (cm_eq φ) (k_fnL φ 0 D_law_draw (ma_cons me_int ma_nil)).toB (me_int).toB) (k_ty φ (cb_tuple φ) g.f_tuple (mab_cons (mb_v 10) mab_nil)) (k_ty φ (cb_tuple φ) g.f_tuple (mab_cons (mf_lst (ma_cons (k_fnL φ 0 D_law_pick (ma_cons (k_ix φ (mb_v 1) (me_int).toB) ma_nil)) ma_nil)).toE.toB mab_nil))) φ.nd)
 (mss_one (ms_ret (me_tup (ma_cons (k_ix φ (mb_v 1) (me_int).toB) (ma_cons (k_ty φ (cb_tuple φ) g.f_tuple (mab_cons (mb_v 4) mab_nil)) (ma_cons (k_ty φ (cb_tuple φ) g.f_tuple (mab_cons (mb_v 3) mab_nil)) (ma_cons (me_tup (ma_cons (me_v 11) ma_nil)) ma_nil))))))))))))
theorem d_law_pierced (g : Gf K mg C_Offices) (D_law_draw : DdL P w K mg base "_law_draw" 1 2 sp_law_draw) (D_law_pick : DdL P w K mg base "_law_pick" 2 2 sp_law_pick) (ι : Unit) (f : Addr) (cdv : Value) (A : Around) (outer : List Env) (s : Shared) (H : Hp) (E : XK) (φ : Fam P w K mg base 2 (fun _ : Unit => (cxOf CX0 P w K mg base ["_law_deal_here", "_law_told", "_law_at", "_law_hand", "_law_lots", "_law_place", "_law_one", "_law_lot_here"] "_law_pierced" (defScope s_law_pierced) f cdv A outer s H E).nox)) :
    MSs (fun _ : Unit => (cxOf CX0 P w K mg base ["_law_deal_here", "_law_told", "_law_at", "_law_hand", "_law_lots", "_law_place", "_law_one", "_law_lot_here"] "_law_pierced" (defScope s_law_pierced) f cdv A outer s H E).nox) E0 (defBody s_law_pierced) (w_law_pierced) :=
 (mss_cons (ms_set 2 (k_fnL φ 0 D_law_draw (ma_cons (k_call φ (cb_len φ) g.f_len (mab_cons (k_ix φ (mb_v 1) (me_int).toB).toB mab_nil)) ma_nil)) φ.nd)
 (mss_cons (ms_asg (k_ix φ (k_ix φ (mb_v 1) (me_int).toB).toB (mb_v 2)) (mg_tup (mgs_cons (mg_name 3 (hN := φ.nd)) (mgs_cons (mg_name 4 (hN := φ.nd)) mgs_nil)) (gd_lenS gd_monoN (gd_lenS gd_monoN gd_len0)) φ.K))
 (mss_cons (ms_set 5 (k_fnL φ 0 D_law_draw (ma_cons (k_call φ (cb_len φ) g.f_len (mab_cons (mb_v 4) mab_nil)) ma_nil)) φ.nd)
 (mss_cons (ms_setLc 4 [("_law_lot_here", 7)] (mib_any φ (k_bin (bo_add φ) (k_sl φ (mb_v 4) mo_none (mo_some (me_v 5))).toB (k_sl φ (mb_v 4) (mo_some (k_bin (bo_add φ) (mb_v 5) (me_int).toB)) mo_none).toB).toB) (mg_name 7 (hN := φ.blk.nd)) mts_nil (me_v 7) (fun _ => by kernel_rfl) φ.nd (fun _ => sw_true rfl rfl rfl (by decide +kernel)))
 (mss_cons (ms_set 6 (me_tup (ma_cons (k_fnL φ 0 D_law_pick (ma_cons (k_ix φ (mb_v 1) (me_int).toB) ma_nil)) ma_nil)) φ.nd)
 (mss_cons (ms_set 4 (k_bin (bo_add φ) (mb_v 4) (me_if (k_tcmp (cm_notin φ) (mb_v 6) (mb_v 4)) (mf_lst (ma_cons (me_v 6) ma_nil)).toE (mf_lst ma_nil).toE).toB) φ.nd)
 (mss_one (ms_ret (me_tup (ma_cons (k_ix φ (mb_v 1) (me_int).toB) (ma_cons (k_ix φ (mb_v 1) (me_int).toB) (ma_cons (k_bin (bo_add φ) (k_bin (bo_add φ) (k_sl φ (k_ix φ (mb_v 1) (me_int).toB).toB mo_none (mo_some (me_v 2))).toB (me_tup (ma_cons (me_tup (ma_cons (me_v 3) (ma_cons (k_ty φ (cb_tuple φ) g.f_tuple (mab_cons (k_callF φ (cb_sorted φ) g.f_sorted (mab_cons (mb_v 4) mab_nil)).toE.toB mab_nil)) ma_nil))) ma_nil)).toB).toB (k_sl φ (k_ix φ (mb_v 1) (me_int).toB).toB (mo_some (k_bin (bo_add φ) (mb_v 2) (me_int).toB)) mo_none).toB) (ma_cons (k_ix φ (mb_v 1) (me_int).toB) ma_nil)))))))))))))
theorem d_law (g : Gf K mg C_Offices) (D_law_deal : DdM P w K mg base "_law_deal" 1 1 sp_law_deal) (D_law_pick : DdL P w K mg base "_law_pick" 2 2 sp_law_pick) (D_law_words : DdL P w K mg base "_law_words" 3 2 sp_law_words) (D_law_draw : DdL P w K mg base "_law_draw" 1 2 sp_law_draw) (D_law_told_offices : DdL P w K mg base "_law_told_offices" 5 3 sp_law_told_offices) (D_Offices_init : DdI P w K mg base "Offices" C_Offices 6 5 sp_Offices_init) (K_deaf_pair_0_0 : DdK P w K mg base "deaf_pair" 4 1 ["offices"] kg_deaf_pair_0_0 (sp_deaf_pair C_Offices)) (D_law_deaf : Dd P w K mg base "_law_deaf" 2 1 sp_law_deaf) (D_law_lot : DdL P w K mg base "_law_lot" 3 3 sp_law_lot) (D_ask_known : Dd P w K mg base "ask_known" 2 4 (sp_ask_known C_Offices)) (D_law_known : Dd P w K mg base "_law_known" 1 4 sp_law_known) (K_ask_known_0_3210 : DdK P w K mg base "ask_known" 2 4 ["gone", "other", "lot", "offices"] kg_ask_known_0_3210 (sp_ask_known C_Offices)) (D_law_common : DdL P w K mg base "_law_common" 3 2 sp_law_common) (D_law_pierced : DdL P w K mg base "_law_pierced" 3 2 sp_law_pierced) (ι : Unit) (f : Addr) (cdv : Value) (A : Around) (outer : List Env) (s : Shared) (H : Hp) (E : XK) (φ : Fam P w K mg base 7 (fun _ : Unit => (cxOf CX0 P w K mg base ["_law_script", "_law_deal_here", "_law_hands", "_law_told", "_law_turn", "_law_offices", "_law_again", "_law_lot_here", "_law_other", "_law_gone"] "law" (defScope s_law) f cdv A outer s H E).nox)) :
    MSs (fun _ : Unit => (cxOf CX0 P w K mg base ["_law_script", "_law_deal_here", "_law_hands", "_law_told", "_law_turn", "_law_offices", "_law_again", "_law_lot_here", "_law_other", "_law_gone"] "law" (defScope s_law) f cdv A outer s H E).nox) E0 (defBody s_law) (w_law C_Offices) :=
 (mss_cons (ms_mk φ 1 D_law_deal (ma_cons (me_v 0) ma_nil))
 (mss_cons (ms_set 2 (k_callF φ (cb_sorted φ) g.f_sorted (mab_cons (k_fnL φ 1 D_law_words (ma_cons (k_bin (bo_add φ) (me_int).toB (me_if (k_tcmp (cm_eq φ) (k_sl φ (mb_v 0) (mo_some me_int) mo_none).toB (mf_lst ma_nil).toE.toB) me_int (k_fnL φ 1 D_law_pick (ma_cons (mf_lst (ma_cons me_int (ma_cons me_int (ma_cons me_int (ma_cons me_int (ma_cons me_int (ma_cons me_int ma_nil))))))).toE ma_nil))).toB) ma_nil)).toB mab_nil)).toE φ.nd)
 (mss_cons (ms_set 3 (k_fnL φ 1 D_law_told_offices (ma_cons (me_v 2) (ma_cons (k_bin (bo_add φ) (me_int).toB (k_fnL φ 1 D_law_draw (ma_cons (me_if (k_tcmp (cm_eq φ) (k_sl φ (mb_v 0) (mo_some me_int) mo_none).toB (mf_lst ma_nil).toE.toB) me_int me_int) ma_nil)).toB) ma_nil))) φ.nd)
 (mss_cons (ms_for (mi_rng1 φ g.f_range (mab_cons (me_if (k_tcmp (cm_eq φ) (k_sl φ (mb_v 0) (mo_some me_int) mo_none).toB (mf_lst ma_nil).toE.toB) me_int me_int).toB mab_nil)) (mg_name 4 (hN := φ.nd))
 (mss_cons (ms_set 5 (k_make φ D_Offices_init (ma_cons (k_ix φ (mb_v 3) (me_int).toB) (ma_cons (k_ix φ (mb_v 3) (me_int).toB) (ma_cons (k_ix φ (mb_v 3) (me_int).toB) (ma_cons (k_ix φ (mb_v 3) (me_int).toB) ma_nil))))) φ.nd)
 (mss_cons (ms_if (k_tcmp (cm_ne φ) (k_call φ (cb_repr φ) g.f_repr (mab_cons (k_fnK0 φ K_deaf_pair_0_0 (mk_cons (me_v 5) mk_nil)).toB mab_nil)).toB (k_call φ (cb_repr φ) g.f_repr (mab_cons (k_fn φ D_law_deaf (ma_cons (me_v 3) ma_nil)).toB mab_nil)).toB)
 (mss_one (ms_ret me_bl))
 mss_nil)
 (mss_cons (ms_for (mi_rng1 φ g.f_range (mab_cons (me_int).toB mab_nil)) (mg_name 6 (hN := φ.nd))
 (mss_cons (ms_par2 7 8 (mv_e (k_fnL φ 1 D_law_lot (ma_cons (k_ix φ (mb_v 3) (me_int).toB) (ma_cons me_int ma_nil))) (mv_e (k_fnL φ 1 D_law_lot (ma_cons (k_ix φ (mb_v 3) (me_int).toB) (ma_cons me_int ma_nil))) mv_nil)) φ.c φ.nd (fun _ => rfl))
 (mss_cons (ms_set 9 (me_if (k_tcmp (cm_eq φ) (k_fnL φ 1 D_law_draw (ma_cons me_int ma_nil)).toB (me_int).toB) (k_fnL φ 1 D_law_lot (ma_cons (k_ix φ (mb_v 3) (me_int).toB) (ma_cons me_int ma_nil))) (me_tup ma_nil)) φ.nd)
 (mss_cons (ms_if (k_tcmp (cm_ne φ) (k_call φ (cb_repr φ) g.f_repr (mab_cons (k_fn φ D_ask_known (ma_cons (me_v 5) (ma_cons (me_v 7) (ma_cons (me_v 8) (ma_cons (me_v 9) ma_nil))))).toB mab_nil)).toB (k_call φ (cb_repr φ) g.f_repr (mab_cons (k_fn φ D_law_known (ma_cons (me_v 3) (ma_cons (me_v 7) (ma_cons (me_v 8) (ma_cons (me_v 9) ma_nil))))).toB mab_nil)).toB)
 (mss_one (ms_ret me_bl))
 mss_nil)
 (mss_one (ms_if (k_tcmp (cm_ne φ) (k_fnK0 φ K_ask_known_0_3210 (mk_cons (me_v 9) (mk_cons (me_v 7) (mk_cons (me_v 8) (mk_cons (me_v 5) mk_nil))))).toB (k_fn φ D_law_known (ma_cons (me_v 3) (ma_cons (me_v 8) (ma_cons (me_v 7) (ma_cons (me_v 9) ma_nil))))).toB)
 (mss_one (ms_ret me_bl))
 mss_nil))))) (fun _ => PassesOwn.never))
 (mss_one (ms_set 3 (me_if (k_tcmp (cm_lt φ) (mb_v 4) (me_int).toB) (k_fnL φ 1 D_law_common (ma_cons (me_v 3) ma_nil)) (k_fnL φ 1 D_law_pierced (ma_cons (me_v 3) ma_nil))) φ.nd))))) (fun _ => PassesOwn.never))
 (mss_one (ms_ret me_bl))))))
end
end K67

/-! K67: the head (printed by gen.py). -/
namespace K67
open PySem PySem.Spec PyProof.Rows L2 DL
def dd_is_text : He.DefD := ⟨("is_text", none), "is_text", "is_text", defArgs s_is_text, defBody s_is_text, defScope s_is_text, [], []⟩
def dd_is_name : He.DefD := ⟨("is_name", none), "is_name", "is_name", defArgs s_is_name, defBody s_is_name, defScope s_is_name, [], []⟩
def dd_is_lot : He.DefD := ⟨("is_lot", none), "is_lot", "is_lot", defArgs s_is_lot, defBody s_is_lot, defScope s_is_lot, [], []⟩
def dd_lot_within : He.DefD := ⟨("lot_within", none), "lot_within", "lot_within", defArgs s_lot_within, defBody s_lot_within, defScope s_lot_within, [], []⟩
def dd_place_within : He.DefD := ⟨("place_within", none), "place_within", "place_within", defArgs s_place_within, defBody s_place_within, defScope s_place_within, [], []⟩
def dd_rise_all : He.DefD := ⟨("rise_all", none), "rise_all", "rise_all", defArgs s_rise_all, defBody s_rise_all, defScope s_rise_all, [], []⟩
def dd_are_tells : He.DefD := ⟨("are_tells", none), "are_tells", "are_tells", defArgs s_are_tells, defBody s_are_tells, defScope s_are_tells, [], []⟩
def dd_are_counters : He.DefD := ⟨("are_counters", none), "are_counters", "are_counters", defArgs s_are_counters, defBody s_are_counters, defScope s_are_counters, [], []⟩
def dd_are_hand_counters : He.DefD := ⟨("are_hand_counters", none), "are_hand_counters", "are_hand_counters", defArgs s_are_hand_counters, defBody s_are_hand_counters, defScope s_are_hand_counters, [], []⟩
def dd_are_forgetful : He.DefD := ⟨("are_forgetful", none), "are_forgetful", "are_forgetful", defArgs s_are_forgetful, defBody s_are_forgetful, defScope s_are_forgetful, [], []⟩
def dd_Offices_init : He.DefD := ⟨("Offices", some "__init__"), "__init__", "Offices.__init__", defArgs s_Offices_init, defBody s_Offices_init, defScope s_Offices_init, [], []⟩
def dd_office_hears : He.DefD := ⟨("office_hears", none), "office_hears", "office_hears", defArgs s_office_hears, defBody s_office_hears, defScope s_office_hears, [], []⟩
def dd_ask_known : He.DefD := ⟨("ask_known", none), "ask_known", "ask_known", defArgs s_ask_known, defBody s_ask_known, defScope s_ask_known, [], []⟩
def dd_deaf_to : He.DefD := ⟨("deaf_to", none), "deaf_to", "deaf_to", defArgs s_deaf_to, defBody s_deaf_to, defScope s_deaf_to, [], []⟩
def dd_deaf_pair : He.DefD := ⟨("deaf_pair", none), "deaf_pair", "deaf_pair", defArgs s_deaf_pair, defBody s_deaf_pair, defScope s_deaf_pair, [], []⟩
def dd_law_deal : He.DefD := ⟨("_law_deal", none), "_law_deal", "_law_deal", defArgs s_law_deal, defBody s_law_deal, defScope s_law_deal, [], []⟩
def dd_law_draw : He.DefD := ⟨("_law_draw", none), "_law_draw", "_law_draw", defArgs s_law_draw, defBody s_law_draw, defScope s_law_draw, [], []⟩
def dd_law_pick : He.DefD := ⟨("_law_pick", none), "_law_pick", "_law_pick", defArgs s_law_pick, defBody s_law_pick, defScope s_law_pick, [], []⟩
def dd_law_mixed : He.DefD := ⟨("_law_mixed", none), "_law_mixed", "_law_mixed", defArgs s_law_mixed, defBody s_law_mixed, defScope s_law_mixed, [], []⟩
def dd_law_words : He.DefD := ⟨("_law_words", none), "_law_words", "_law_words", defArgs s_law_words, defBody s_law_words, defScope s_law_words, [], []⟩
def dd_law_lot : He.DefD := ⟨("_law_lot", none), "_law_lot", "_law_lot", defArgs s_law_lot, defBody s_law_lot, defScope s_law_lot, [], []⟩
def dd_law_lots_of : He.DefD := ⟨("_law_lots_of", none), "_law_lots_of", "_law_lots_of", defArgs s_law_lots_of, defBody s_law_lots_of, defScope s_law_lots_of, [], []⟩
def dd_law_greatest : He.DefD := ⟨("_law_greatest", none), "_law_greatest", "_law_greatest", defArgs s_law_greatest, defBody s_law_greatest, defScope s_law_greatest, [], []⟩
def dd_law_told_offices : He.DefD := ⟨("_law_told_offices", none), "_law_told_offices", "_law_told_offices", defArgs s_law_told_offices, defBody s_law_told_offices, defScope s_law_told_offices, [], []⟩
def dd_law_known : He.DefD := ⟨("_law_known", none), "_law_known", "_law_known", defArgs s_law_known, defBody s_law_known, defScope s_law_known, [], []⟩
def dd_law_deaf : He.DefD := ⟨("_law_deaf", none), "_law_deaf", "_law_deaf", defArgs s_law_deaf, defBody s_law_deaf, defScope s_law_deaf, [], []⟩
def dd_law_common : He.DefD := ⟨("_law_common", none), "_law_common", "_law_common", defArgs s_law_common, defBody s_law_common, defScope s_law_common, [], []⟩
def dd_law_pierced : He.DefD := ⟨("_law_pierced", none), "_law_pierced", "_law_pierced", defArgs s_law_pierced, defBody s_law_pierced, defScope s_law_pierced, [], []⟩
def dd_law : He.DefD := ⟨("law", none), "law", "law", defArgs s_law, defBody s_law, defScope s_law, [], []⟩
def fn : List He.DefD := [dd_is_text, dd_is_name, dd_is_lot, dd_lot_within, dd_place_within, dd_rise_all, dd_are_tells, dd_are_counters, dd_are_hand_counters, dd_are_forgetful, dd_Offices_init, dd_office_hears, dd_ask_known, dd_deaf_to, dd_deaf_pair, dd_law_deal, dd_law_draw, dd_law_pick, dd_law_mixed, dd_law_words, dd_law_lot, dd_law_lots_of, dd_law_greatest, dd_law_told_offices, dd_law_known, dd_law_deaf, dd_law_common, dd_law_pierced, dd_law]
def fa : List He.Fa := [.glo "is_text", .glo "is_name", .glo "is_lot", .glo "lot_within", .glo "place_within", .glo "rise_all", .glo "are_tells", .glo "are_counters", .glo "are_hand_counters", .glo "are_forgetful", .glo "office_hears", .glo "ask_known", .glo "deaf_to", .glo "deaf_pair", .glo "_law_deal", .glo "_law_draw", .glo "_law_pick", .glo "_law_mixed", .glo "_law_words", .glo "_law_lot", .glo "_law_lots_of", .glo "_law_greatest", .glo "_law_told_offices", .glo "_law_known", .glo "_law_deaf", .glo "_law_common", .glo "_law_pierced", .glo "law", .glo "Offices", .mkr "Offices", .free "abs", .free "all", .free "any", .free "enumerate", .free "int", .free "isinstance", .free "len", .free "list", .free "range", .free "repr", .free "sorted", .free "str", .free "tuple", .int "FEWEST_OFFICE_HANDS" 2, .str "LETTERS" "abcdefghijklmnopqrstuvwxyz", .int "LONGEST" 8, .int "MOST_OFFICES" 6, .int "MOST_OFFICE_HANDS" 6, .cls "Offices", .noat "Offices" "counters", .noat "Offices" "forgets", .noat "Offices" "names", .noat "Offices" "tells"]
abbrev R : PySem.W.OpenRow := PySem.W.OpenLaw.row PySem.Challenge.rw_boundorvoid_k67_what_is_known_at_counter
abbrev hk : PySem.W.Hook := He.hookD 6 fa fn
def ob (s : PySem.W.SharedT) : He.AlD := He.obsDG 6 fa fn (HandSHeadRun.getT s)
theorem ob_eq (s : PySem.W.SharedT) : ob s = hk.obs s.abs := He.obsDG_eq (HandSHeadRun.getT_eq s)
def loose0 : List PySem.Str := ["PactError", "InvalidOffices", "LETTERS", "LONGEST", "is_text", "is_name", "is_lot", "lot_within", "place_within", "FEWEST_OFFICE_HANDS", "MOST_OFFICE_HANDS", "MOST_OFFICES", "rise_all", "are_tells", "are_counters", "are_hand_counters", "are_forgetful", "Offices", "office_hears", "ask_known"]
def loose1 : List PySem.Str := ["deaf_to", "deaf_pair", "_law_deal", "_law_draw", "_law_pick", "_law_mixed", "_law_words", "_law_lot", "_law_lots_of", "_law_greatest", "_law_told_offices", "_law_known", "_law_deaf", "_law_common", "_law_pierced"]
def loose : List PySem.Str := loose0 ++ loose1
theorem run (w : World) : HandSHeadRun.RunEq R (PySem.W.view R.prog [40]) hk ob 4000 loose w := by
  intro os
  kernel_rfl
end K67

namespace K67
open PySem PySem.Spec PyProof.Rows L2 DL
theorem sizeLine_v : sizeLine = 16777216 := sizeLine_eq
theorem p_is_text (ds : List D) (Q : D → Prop) (hl : ds.length = 1) (h : sp_is_text ds Q) : w_is_text (endsD Q fun _ => False) (init 1 ds) := by
  obtain ⟨s, rfl, q⟩ := h
  exact q
theorem letters_cps : (Str.ofString "abcdefghijklmnopqrstuvwxyz").cps.toList = [97, 98, 99, 100, 101, 102, 103, 104, 105, 106, 107, 108, 109, 110, 111, 112, 113, 114, 115, 116, 117, 118, 119, 120, 121, 122] := by decide +kernel
theorem letters_mem {c : Nat} (h : 97 ≤ c ∧ c ≤ 122) : c ∈ (Str.ofString "abcdefghijklmnopqrstuvwxyz").cps.toList := by
  rw [letters_cps]
  simp only [List.mem_cons, List.not_mem_nil, or_false]
  omega
theorem p_is_name (ds : List D) (Q : D → Prop) (hl : ds.length = 1) (h : sp_is_name ds Q) : w_is_name (endsD Q fun _ => False) (init 2 ds) := by
  obtain ⟨s, rfl, ⟨h1, h2, h3⟩, q⟩ := h
  rw [i_is_name]
  simp only [w_is_name, sp_is_text, sRet, sSeq, sIf, sSet, sSetM, sNext, sNever, sExpr, sFrz, sX, sPar2, sPar3, sPars, sFor, sAsg, sAug, sSetI, sMk, sRetN, sBreak, sCont, sRetDeal, sFldI, dAndV, dOrV, dNotV, dFn, dFnL, dFnK, dChain, dCB, dCons, dNil, dVarB, dVar, dLit, dOp, dUn, dIf, dB, dNotT, dAndT, dOrT, dYes, dTup, dLst, dSl, dPart, dNoP, dRev, dJoin, dFldC, dMake, dLc, iA, iE, iR1, iR2, vNil, vE, vF, xMut, xMut2E, xE, gdName, gdTup, gdCons, gdNil, gLen, gLt, gLe, gGt, gGe, gCmp, gSl, gSlL, gIx, gI, gIc, gAdd, gLL, gTuple, gList, gSorted, gInt, gAbs, gRepr, gAppend, gInsert, gNeg, gIsT, gIsNotT, gJoin, isi_tup, DL.ne_int, DL.eq_int, DL.eq_str, DL.ne_str, at_0, at_1, at_2, at_3, seqItems, lItems, DL.isNon, endsD, endsM, endsI, setAllD, wipeD, DSt.set, kgG, List.map_cons, List.map_nil, List.cons_append, List.nil_append, List.length_cons, List.length_nil, List.getElem?_cons_zero, List.getElem?_cons_succ, List.set_cons_zero, List.set_cons_succ, List.foldl_cons, List.foldl_nil, if_true, Nat.zero_add, Bool.not_true, Bool.not_false, Bool.false_eq_true, if_false, and_true, true_and]
  have hs := sizeLine_v
  refine ⟨s, rfl, by omega, ?_⟩
  rw [if_pos (by simp; omega), if_pos (by simp; omega)]
  refine ⟨by omega, lc_map (fun _ => .bl true) (fun d hd Y y => ?_) (gAll_yes (fun _ _ => rfl) q)⟩
  obtain ⟨c, hc, rfl⟩ := List.mem_map.mp hd
  simp only [sRet, sSeq, sIf, sSet, sSetM, sNext, sNever, sExpr, sFrz, sX, sPar2, sPar3, sPars, sFor, sAsg, sAug, sSetI, sMk, sRetN, sBreak, sCont, sRetDeal, sFldI, dAndV, dOrV, dNotV, dFn, dFnL, dFnK, dChain, dCB, dCons, dNil, dVarB, dVar, dLit, dOp, dUn, dIf, dB, dNotT, dAndT, dOrT, dYes, dTup, dLst, dSl, dPart, dNoP, dRev, dJoin, dFldC, dMake, dLc, iA, iE, iR1, iR2, vNil, vE, vF, xMut, xMut2E, xE, gdName, gdTup, gdCons, gdNil, gLen, gLt, gLe, gGt, gGe, gCmp, gSl, gSlL, gIx, gI, gIc, gAdd, gLL, gTuple, gList, gSorted, gInt, gAbs, gRepr, gAppend, gInsert, gNeg, gIsT, gIsNotT, gJoin, isi_tup, DL.ne_int, DL.eq_int, DL.eq_str, DL.ne_str, at_0, at_1, at_2, at_3, seqItems, lItems, DL.isNon, endsD, endsM, endsI, setAllD, wipeD, DSt.set, kgG, List.map_cons, List.map_nil, List.cons_append, List.nil_append, List.length_cons, List.length_nil, List.getElem?_cons_zero, List.getElem?_cons_succ, List.set_cons_zero, List.set_cons_succ, List.foldl_cons, List.foldl_nil, if_true, Nat.zero_add, Bool.not_true, Bool.not_false, Bool.false_eq_true, if_false, and_true, true_and, gInT, sgn, decide_eq_true (letters_mem (h3 c hc))]
  exact y
/-! ### encodings -/
theorem hd_lot (l : List Str) : hd (lotD l) = true := by
  unfold lotD
  simp only [hd, hdL_all, List.all_map]
  simp [hd]
theorem hd_pair (p : Str × Str) : hd (pairD p) = true := by simp [pairD, hd, hdL]
theorem str_inj (a b : Str) (h : D.str a = D.str b) : a = b := by injection h
theorem map_inj {α β : Type} {f : α → β} (hf : ∀ a b, f a = f b → a = b) : ∀ {l m : List α}, l.map f = m.map f → l = m
  | [], [], _ => rfl
  | [], _ :: _, h => by cases h
  | _ :: _, [], h => by cases h
  | a :: l, b :: m, h => by
    rw [List.map_cons, List.map_cons] at h
    injection h with h1 h2
    rw [hf _ _ h1, map_inj hf h2]
theorem lot_inj (l m : List Str) (h : lotD l = lotD m) : l = m := by
  unfold lotD at h
  injection h with h
  exact map_inj str_inj h
theorem pair_inj (p q : Str × Str) (h : pairD p = pairD q) : p = q := by
  obtain ⟨a, b⟩ := p
  obtain ⟨c, d⟩ := q
  unfold pairD at h
  injection h with h
  simp only [List.cons.injEq, D.str.injEq, and_true] at h
  obtain ⟨h1, h2⟩ := h
  rw [h1, h2]
theorem depL_map {α : Type} {f : α → D} {n : Nat} (h : ∀ a, dep (f a) ≤ n) : ∀ l : List α, depL (l.map f) ≤ n
  | [] => by simp [depL]
  | a :: l => by
    simp only [List.map_cons, depL]
    have := depL_map h l
    have := h a
    omega
theorem dep_lot (l : List Str) : dep (lotD l) ≤ 1 := by
  unfold lotD
  simp only [dep]
  have := depL_map (f := D.str) (n := 0) (fun a => by simp [dep]) l
  omega
theorem ok_lot (l : List Str) : okD (lotD l) = true := okD_of (hd_lot l) (by have := dep_lot l; omega)
theorem ok_str (s : Str) : okD (.str s) = true := okD_of (by simp [hd]) (by simp [dep])
theorem ok_pair (p : Str × Str) : okD (pairD p) = true := okD_of (hd_pair p) (by simp [pairD, dep, depL])
theorem hd_lots (ls : List (List Str)) : hd (.tup (ls.map lotD)) = true := by
  simp only [hd, hdL_all, List.all_map]
  simp [hd_lot]
theorem hd_lotsL (ls : List (List Str)) : hd (.lst (ls.map lotD)) = true := by
  simp only [hd, hdL_all, List.all_map]
  simp [hd_lot]
theorem ok_lots (ls : List (List Str)) : okD (.tup (ls.map lotD)) = true := okD_of (hd_lots ls) (by
  simp only [dep]
  have := depL_map (f := lotD) (n := 1) dep_lot ls
  omega)
theorem ok_lotsL (ls : List (List Str)) : okD (.lst (ls.map lotD)) = true := okD_of (hd_lotsL ls) (by
  simp only [dep]
  have := depL_map (f := lotD) (n := 1) dep_lot ls
  omega)
theorem ok_pairs (ps : List (Str × Str)) : okD (.tup (ps.map pairD)) = true := okD_of (by
  simp only [hd, hdL_all, List.all_map]
  simp [hd_pair]) (by
  simp only [dep]
  have := depL_map (f := pairD) (n := 1) (fun p => by simp [pairD, dep, depL]) ps
  omega)
/-- x in a lot -/
theorem in_lot {neg : Bool} {x : Str} {l : List Str} {Q : D → Prop} (q : Q (.bl (if neg then !decide (x ∈ l) else decide (x ∈ l)))) : gInT neg (.str x) (lotD l) Q := by
  show gIn neg (.str x) (lotD l) Q
  refine ⟨ok_str x, ok_lot l, ?_⟩
  show Q (.bl (if neg then !memD (.str x) (l.map D.str) else memD (.str x) (l.map D.str)))
  rw [memD_map (f := D.str) (fun _ => by simp [hd]) str_inj]
  exact q
theorem in_pairs {neg : Bool} {x : Str × Str} {l : List (Str × Str)} {Q : D → Prop} (q : Q (.bl (if neg then !decide (x ∈ l) else decide (x ∈ l)))) : gInT neg (pairD x) (.tup (l.map pairD)) Q := by
  show gIn neg (pairD x) (.tup (l.map pairD)) Q
  refine ⟨ok_pair x, ok_pairs l, ?_⟩
  show Q (.bl (if neg then !memD (pairD x) (l.map pairD) else memD (pairD x) (l.map pairD)))
  rw [memD_map hd_pair pair_inj]
  exact q
/-- consecutive items rise -/
theorem rise_at {xs : List D} (h : Rise xs) {i : Nat} {x y : D} (hx : xs[i]? = some x) (hy : xs[i + 1]? = some y) : ltD x y = true := by
  obtain ⟨h1, e1⟩ := List.getElem?_eq_some_iff.mp hx
  obtain ⟨h2, e2⟩ := List.getElem?_eq_some_iff.mp hy
  have := List.pairwise_iff_getElem.mp h i (i + 1) h1 h2 (Nat.lt_succ_self i)
  rw [e1, e2] at this
  exact this
theorem atI_nat {α : Type} {xs : List α} {i : Nat} : atI xs (i : Int) = xs[i]? := by
  unfold atI ixN
  rw [if_pos (by omega)]
  by_cases h : (i : Int) < (xs.length : Int)
  · rw [if_pos h]
    show xs[(i : Int).toNat]? = _
    rw [Int.toNat_natCast]
  · rw [if_neg h, List.getElem?_eq_none (by omega)]
    rfl
theorem alike_lot (l m : List Str) : PySem.W.alike (toPy (lotD l)) (toPy (lotD m)) = true := by
  have go : ∀ l m : List Str, PySem.W.alikeAll (toPyL (l.map D.str)) (toPyL (m.map D.str)) = true := by
    intro l
    induction l with
    | nil => intro m; simp [toPyL, PySem.W.alikeAll]
    | cons a l ih =>
      intro m
      cases m with
      | nil => simp [toPyL, PySem.W.alikeAll]
      | cons b m => simp [toPyL, toPy, PySem.W.alikeAll, PySem.W.alike, ih m]
  unfold lotD
  simp only [toPy, PySem.W.alike]
  exact go l m
theorem alike_pair (p q : Str × Str) : PySem.W.alike (toPy (pairD p)) (toPy (pairD q)) = true := by simp [pairD, toPy, toPyL, PySem.W.alike, PySem.W.alikeAll]
theorem alike_str (p q : Str) : PySem.W.alike (toPy (.str p)) (toPy (.str q)) = true := by simp [toPy, PySem.W.alike]
theorem lt_seq {x y : D} {Q : D → Prop} (hx : hd x = true ∧ dep x ≤ 60 ∧ ((∃ s, x = .str s) ∨ ∃ ys, x = .tup ys)) (hy : hd y = true ∧ dep y ≤ 60 ∧ ((∃ s, y = .str s) ∨ ∃ ys, y = .tup ys)) (al : PySem.W.alike (toPy x) (toPy y) = true) (q : Q (.bl (ltD x y))) : gLt x y Q := by
  have c : cmpOk x y = true ∧ Q (.bl (ltD x y)) := by
    refine ⟨?_, q⟩
    unfold cmpOk
    rw [okD_of hx.1 hx.2.1, okD_of hy.1 hy.2.1, al]
    rcases hx.2.2 with ⟨s, rfl⟩ | ⟨ys, rfl⟩ <;> rfl
  rcases hx.2.2 with ⟨s, rfl⟩ | ⟨ys, rfl⟩ <;> exact c
/-- all([xs[i] < xs[i + 1] for i in range(len(xs) - 1)]) -/
theorem rise_loop {x : D} {xs : List D} {N : Nat} {st : DSt} {i j : Nat} {Q : D → Prop} (hx : x = .tup xs ∨ x = .lst xs) (hr : Rise xs) (hh : ∀ x ∈ xs, hd x = true ∧ dep x ≤ 60 ∧ ((∃ s, x = .str s) ∨ ∃ ys, x = .tup ys)) (al : ∀ x ∈ xs, ∀ y ∈ xs, PySem.W.alike (toPy x) (toPy y) = true)
    (hi : ∀ v, (st.set j (.val v)).sl[i]? = some (.val x)) (hj : ∀ v, (st.set j (.val v)).sl[j]? = some (.val v)) (hn : xs.length ≤ N) (q : Q (.bl true)) :
    lcGo (gdName j) dYes (dOp gLt (dOp gIx (dVarB i) (dVarB j)) (dOp gIx (dVarB i) (dOp gAdd (dVarB j) (dLit (.int 1))))) st (rngD 0 ((xs.length : Int) - 1).toNat) (fun ys => gAll [.lst ys] Q) := by
  refine lc_map (fun _ => .bl true) (fun d hd Y y => ?_) (gAll_yes (fun _ _ => rfl) q)
  unfold rngD at hd
  obtain ⟨k, hk, rfl⟩ := List.mem_map.mp hd
  rw [List.mem_range] at hk
  have h1 : k + 1 < xs.length := by omega
  have e1 : xs[k]? = some xs[k] := List.getElem?_eq_getElem (by omega)
  have e2 : xs[k + 1]? = some xs[k + 1] := List.getElem?_eq_getElem h1
  have a1 : atI xs ((0 : Int) + (k : Int)) = some xs[k] := by rw [Int.zero_add, atI_nat]; exact e1
  have a2 : atI xs ((0 : Int) + (k : Int) + 1) = some xs[k + 1] := by
    have e : (0 : Int) + (k : Int) + 1 = ((k + 1 : Nat) : Int) := by omega
    rw [e, atI_nat]; exact e2
  have lt := lt_seq (Q := Y) (hh _ (List.getElem_mem (by omega : k < xs.length))) (hh _ (List.getElem_mem h1)) (al _ (List.getElem_mem _) _ (List.getElem_mem _)) (by rw [rise_at hr e1 e2]; exact y)
  rcases hx with rfl | rfl <;> simp only [gdName, dOp, dVarB, dLit, hi, hj, gIx, gAdd, a1, a2] <;> exact lt
end K67

namespace K67
open PySem PySem.Spec PyProof.Rows L2 DL
theorem rng_ok {n : Nat} (h : n ≤ 1000) : (n : Int) - 1 ≤ 16777216 ∧ -16777216 ≤ (n : Int) - 1 := by omega
theorem strs_ok {l : List Str} : (∀ x ∈ l.map D.str, hd x = true ∧ dep x ≤ 60 ∧ ((∃ s, x = .str s) ∨ ∃ ys, x = .tup ys)) ∧ ∀ x ∈ l.map D.str, ∀ y ∈ l.map D.str, PySem.W.alike (toPy x) (toPy y) = true := by
  refine ⟨fun x hx => ?_, fun x hx y hy => ?_⟩
  · obtain ⟨s, _, rfl⟩ := List.mem_map.mp hx
    exact ⟨by simp [hd], by simp [dep], .inl ⟨s, rfl⟩⟩
  · obtain ⟨s, _, rfl⟩ := List.mem_map.mp hx
    obtain ⟨t, _, rfl⟩ := List.mem_map.mp hy
    exact alike_str s t
theorem p_is_lot (ds : List D) (Q : D → Prop) (hl : ds.length = 1) (h : sp_is_lot ds Q) : w_is_lot (endsD Q fun _ => False) (init 3 ds) := by
  obtain ⟨l, rfl, hn, hr, hz, q⟩ := h
  rw [i_is_lot]
  simp only [w_is_lot, lotD, sRet, sSeq, sIf, sSet, sSetM, sNext, sNever, sExpr, sFrz, sX, sPar2, sPar3, sPars, sFor, sAsg, sAug, sSetI, sMk, sRetN, sBreak, sCont, sRetDeal, sFldI, dAndV, dOrV, dNotV, dFn, dFnL, dFnK, dChain, dCB, dCons, dNil, dVarB, dVar, dLit, dOp, dUn, dIf, dB, dNotT, dAndT, dOrT, dYes, dTup, dLst, dSl, dPart, dNoP, dRev, dJoin, dFldC, dMake, dLc, iA, iE, iR1, iR2, vNil, vE, vF, xMut, xMut2E, xE, gdName, gdTup, gdCons, gdNil, gLen, gLt, gLe, gGt, gGe, gCmp, gSl, gSlL, gIx, gI, gIc, gAdd, gLL, gTuple, gList, gSorted, gInt, gAbs, gRepr, gAppend, gInsert, gNeg, gIsT, gIsNotT, gJoin, isi_tup, DL.ne_int, DL.eq_int, DL.eq_str, DL.ne_str, at_0, at_1, at_2, at_3, seqItems, lItems, DL.isNon, endsD, endsM, endsI, setAllD, wipeD, DSt.set, kgG, List.map_cons, List.map_nil, List.cons_append, List.nil_append, List.length_cons, List.length_nil, List.getElem?_cons_zero, List.getElem?_cons_succ, List.set_cons_zero, List.set_cons_succ, List.foldl_cons, List.foldl_nil, if_true, Nat.zero_add, Bool.not_true, Bool.not_false, Bool.false_eq_true, if_false, and_true, true_and]
  refine lc_map (fun _ => .bl true) (fun d hd Y y => ?_) (gAll_yes (fun _ _ => rfl) ?_)
  · obtain ⟨s, hs, rfl⟩ := List.mem_map.mp hd
    simp only [sRet, sSeq, sIf, sSet, sSetM, sNext, sNever, sExpr, sFrz, sX, sPar2, sPar3, sPars, sFor, sAsg, sAug, sSetI, sMk, sRetN, sBreak, sCont, sRetDeal, sFldI, dAndV, dOrV, dNotV, dFn, dFnL, dFnK, dChain, dCB, dCons, dNil, dVarB, dVar, dLit, dOp, dUn, dIf, dB, dNotT, dAndT, dOrT, dYes, dTup, dLst, dSl, dPart, dNoP, dRev, dJoin, dFldC, dMake, dLc, iA, iE, iR1, iR2, vNil, vE, vF, xMut, xMut2E, xE, gdName, gdTup, gdCons, gdNil, gLen, gLt, gLe, gGt, gGe, gCmp, gSl, gSlL, gIx, gI, gIc, gAdd, gLL, gTuple, gList, gSorted, gInt, gAbs, gRepr, gAppend, gInsert, gNeg, gIsT, gIsNotT, gJoin, isi_tup, DL.ne_int, DL.eq_int, DL.eq_str, DL.ne_str, at_0, at_1, at_2, at_3, seqItems, lItems, DL.isNon, endsD, endsM, endsI, setAllD, wipeD, DSt.set, kgG, List.map_cons, List.map_nil, List.cons_append, List.nil_append, List.length_cons, List.length_nil, List.getElem?_cons_zero, List.getElem?_cons_succ, List.set_cons_zero, List.set_cons_succ, List.foldl_cons, List.foldl_nil, if_true, Nat.zero_add, Bool.not_true, Bool.not_false, Bool.false_eq_true, if_false, and_true, true_and]
    exact ⟨s, rfl, hn s hs, y⟩
  · simp only [sRet, sSeq, sIf, sSet, sSetM, sNext, sNever, sExpr, sFrz, sX, sPar2, sPar3, sPars, sFor, sAsg, sAug, sSetI, sMk, sRetN, sBreak, sCont, sRetDeal, sFldI, dAndV, dOrV, dNotV, dFn, dFnL, dFnK, dChain, dCB, dCons, dNil, dVarB, dVar, dLit, dOp, dUn, dIf, dB, dNotT, dAndT, dOrT, dYes, dTup, dLst, dSl, dPart, dNoP, dRev, dJoin, dFldC, dMake, dLc, iA, iE, iR1, iR2, vNil, vE, vF, xMut, xMut2E, xE, gdName, gdTup, gdCons, gdNil, gLen, gLt, gLe, gGt, gGe, gCmp, gSl, gSlL, gIx, gI, gIc, gAdd, gLL, gTuple, gList, gSorted, gInt, gAbs, gRepr, gAppend, gInsert, gNeg, gIsT, gIsNotT, gJoin, isi_tup, DL.ne_int, DL.eq_int, DL.eq_str, DL.ne_str, at_0, at_1, at_2, at_3, seqItems, lItems, DL.isNon, endsD, endsM, endsI, setAllD, wipeD, DSt.set, kgG, List.map_cons, List.map_nil, List.cons_append, List.nil_append, List.length_cons, List.length_nil, List.getElem?_cons_zero, List.getElem?_cons_succ, List.set_cons_zero, List.set_cons_succ, List.foldl_cons, List.foldl_nil, if_true, Nat.zero_add, Bool.not_true, Bool.not_false, Bool.false_eq_true, if_false, and_true, true_and]
    obtain ⟨a1, a2⟩ := strs_ok (l := l)
    have hz' : (l.map D.str).length ≤ 1000 := by rw [List.length_map]; exact hz
    refine ⟨(rng_ok hz').1, (rng_ok hz').2, ?_⟩
    exact rise_loop (N := 1000) (.inl rfl) hr a1 a2 (fun _ => rfl) (fun _ => rfl) hz' q
theorem p_lot_within (ds : List D) (Q : D → Prop) (hl : ds.length = 2) (h : sp_lot_within ds Q) : w_lot_within (endsD Q fun _ => False) (init 3 ds) := by
  obtain ⟨l, m, rfl, q⟩ := h
  rw [i_lot_within]
  simp only [w_lot_within, lotD, sRet, sSeq, sIf, sSet, sSetM, sNext, sNever, sExpr, sFrz, sX, sPar2, sPar3, sPars, sFor, sAsg, sAug, sSetI, sMk, sRetN, sBreak, sCont, sRetDeal, sFldI, dAndV, dOrV, dNotV, dFn, dFnL, dFnK, dChain, dCB, dCons, dNil, dVarB, dVar, dLit, dOp, dUn, dIf, dB, dNotT, dAndT, dOrT, dYes, dTup, dLst, dSl, dPart, dNoP, dRev, dJoin, dFldC, dMake, dLc, iA, iE, iR1, iR2, vNil, vE, vF, xMut, xMut2E, xE, gdName, gdTup, gdCons, gdNil, gLen, gLt, gLe, gGt, gGe, gCmp, gSl, gSlL, gIx, gI, gIc, gAdd, gLL, gTuple, gList, gSorted, gInt, gAbs, gRepr, gAppend, gInsert, gNeg, gIsT, gIsNotT, gJoin, isi_tup, DL.ne_int, DL.eq_int, DL.eq_str, DL.ne_str, at_0, at_1, at_2, at_3, seqItems, lItems, DL.isNon, endsD, endsM, endsI, setAllD, wipeD, DSt.set, kgG, List.map_cons, List.map_nil, List.cons_append, List.nil_append, List.length_cons, List.length_nil, List.getElem?_cons_zero, List.getElem?_cons_succ, List.set_cons_zero, List.set_cons_succ, List.foldl_cons, List.foldl_nil, if_true, Nat.zero_add, Bool.not_true, Bool.not_false, Bool.false_eq_true, if_false, and_true, true_and]
  refine lc_map (fun d => match d with
    | .str x => .bl (decide (x ∈ m))
    | _ => .non) (fun d hd Y y => ?_) ?_
  · obtain ⟨s, hs, rfl⟩ := List.mem_map.mp hd
    simp only [sRet, sSeq, sIf, sSet, sSetM, sNext, sNever, sExpr, sFrz, sX, sPar2, sPar3, sPars, sFor, sAsg, sAug, sSetI, sMk, sRetN, sBreak, sCont, sRetDeal, sFldI, dAndV, dOrV, dNotV, dFn, dFnL, dFnK, dChain, dCB, dCons, dNil, dVarB, dVar, dLit, dOp, dUn, dIf, dB, dNotT, dAndT, dOrT, dYes, dTup, dLst, dSl, dPart, dNoP, dRev, dJoin, dFldC, dMake, dLc, iA, iE, iR1, iR2, vNil, vE, vF, xMut, xMut2E, xE, gdName, gdTup, gdCons, gdNil, gLen, gLt, gLe, gGt, gGe, gCmp, gSl, gSlL, gIx, gI, gIc, gAdd, gLL, gTuple, gList, gSorted, gInt, gAbs, gRepr, gAppend, gInsert, gNeg, gIsT, gIsNotT, gJoin, isi_tup, DL.ne_int, DL.eq_int, DL.eq_str, DL.ne_str, at_0, at_1, at_2, at_3, seqItems, lItems, DL.isNon, endsD, endsM, endsI, setAllD, wipeD, DSt.set, kgG, List.map_cons, List.map_nil, List.cons_append, List.nil_append, List.length_cons, List.length_nil, List.getElem?_cons_zero, List.getElem?_cons_succ, List.set_cons_zero, List.set_cons_succ, List.foldl_cons, List.foldl_nil, if_true, Nat.zero_add, Bool.not_true, Bool.not_false, Bool.false_eq_true, if_false, and_true, true_and]
    exact in_lot (neg := false) y
  · rw [List.map_map]
    exact gAll_map (fun x => decide (x ∈ m)) (fun x _ => rfl) q
theorem p_rise_all (ds : List D) (Q : D → Prop) (hl : ds.length = 1) (h : sp_rise_all ds Q) : w_rise_all (endsD Q fun _ => False) (init 2 ds) := by
  obtain ⟨xs, hx, hz, hr, hh, al, q⟩ := h
  rcases hx with rfl | rfl
  · rw [i_rise_all]
    simp only [w_rise_all, sRet, sSeq, sIf, sSet, sSetM, sNext, sNever, sExpr, sFrz, sX, sPar2, sPar3, sPars, sFor, sAsg, sAug, sSetI, sMk, sRetN, sBreak, sCont, sRetDeal, sFldI, dAndV, dOrV, dNotV, dFn, dFnL, dFnK, dChain, dCB, dCons, dNil, dVarB, dVar, dLit, dOp, dUn, dIf, dB, dNotT, dAndT, dOrT, dYes, dTup, dLst, dSl, dPart, dNoP, dRev, dJoin, dFldC, dMake, dLc, iA, iE, iR1, iR2, vNil, vE, vF, xMut, xMut2E, xE, gdName, gdTup, gdCons, gdNil, gLen, gLt, gLe, gGt, gGe, gCmp, gSl, gSlL, gIx, gI, gIc, gAdd, gLL, gTuple, gList, gSorted, gInt, gAbs, gRepr, gAppend, gInsert, gNeg, gIsT, gIsNotT, gJoin, isi_tup, DL.ne_int, DL.eq_int, DL.eq_str, DL.ne_str, at_0, at_1, at_2, at_3, seqItems, lItems, DL.isNon, endsD, endsM, endsI, setAllD, wipeD, DSt.set, kgG, List.map_cons, List.map_nil, List.cons_append, List.nil_append, List.length_cons, List.length_nil, List.getElem?_cons_zero, List.getElem?_cons_succ, List.set_cons_zero, List.set_cons_succ, List.foldl_cons, List.foldl_nil, if_true, Nat.zero_add, Bool.not_true, Bool.not_false, Bool.false_eq_true, if_false, and_true, true_and]
    exact ⟨(rng_ok hz).1, (rng_ok hz).2, rise_loop (N := 1000) (.inl rfl) hr hh al (fun _ => rfl) (fun _ => rfl) hz q⟩
  · rw [i_rise_all]
    simp only [w_rise_all, sRet, sSeq, sIf, sSet, sSetM, sNext, sNever, sExpr, sFrz, sX, sPar2, sPar3, sPars, sFor, sAsg, sAug, sSetI, sMk, sRetN, sBreak, sCont, sRetDeal, sFldI, dAndV, dOrV, dNotV, dFn, dFnL, dFnK, dChain, dCB, dCons, dNil, dVarB, dVar, dLit, dOp, dUn, dIf, dB, dNotT, dAndT, dOrT, dYes, dTup, dLst, dSl, dPart, dNoP, dRev, dJoin, dFldC, dMake, dLc, iA, iE, iR1, iR2, vNil, vE, vF, xMut, xMut2E, xE, gdName, gdTup, gdCons, gdNil, gLen, gLt, gLe, gGt, gGe, gCmp, gSl, gSlL, gIx, gI, gIc, gAdd, gLL, gTuple, gList, gSorted, gInt, gAbs, gRepr, gAppend, gInsert, gNeg, gIsT, gIsNotT, gJoin, isi_tup, DL.ne_int, DL.eq_int, DL.eq_str, DL.ne_str, at_0, at_1, at_2, at_3, seqItems, lItems, DL.isNon, endsD, endsM, endsI, setAllD, wipeD, DSt.set, kgG, List.map_cons, List.map_nil, List.cons_append, List.nil_append, List.length_cons, List.length_nil, List.getElem?_cons_zero, List.getElem?_cons_succ, List.set_cons_zero, List.set_cons_succ, List.foldl_cons, List.foldl_nil, if_true, Nat.zero_add, Bool.not_true, Bool.not_false, Bool.false_eq_true, if_false, and_true, true_and]
    exact ⟨(rng_ok hz).1, (rng_ok hz).2, rise_loop (N := 1000) (.inr rfl) hr hh al (fun _ => rfl) (fun _ => rfl) hz q⟩
theorem pairs_ok {l : List (Str × Str)} : (∀ x ∈ l.map pairD, hd x = true ∧ dep x ≤ 60 ∧ ((∃ s, x = .str s) ∨ ∃ ys, x = .tup ys)) ∧ ∀ x ∈ l.map pairD, ∀ y ∈ l.map pairD, PySem.W.alike (toPy x) (toPy y) = true := by
  refine ⟨fun x hx => ?_, fun x hx y hy => ?_⟩
  · obtain ⟨s, _, rfl⟩ := List.mem_map.mp hx
    exact ⟨hd_pair s, by simp [pairD, dep, depL], .inr ⟨_, rfl⟩⟩
  · obtain ⟨s, _, rfl⟩ := List.mem_map.mp hx
    obtain ⟨t, _, rfl⟩ := List.mem_map.mp hy
    exact alike_pair s t
theorem lots_ok {l : List (List Str)} : (∀ x ∈ l.map lotD, hd x = true ∧ dep x ≤ 60 ∧ ((∃ s, x = .str s) ∨ ∃ ys, x = .tup ys)) ∧ ∀ x ∈ l.map lotD, ∀ y ∈ l.map lotD, PySem.W.alike (toPy x) (toPy y) = true := by
  refine ⟨fun x hx => ?_, fun x hx y hy => ?_⟩
  · obtain ⟨s, _, rfl⟩ := List.mem_map.mp hx
    exact ⟨hd_lot s, by have := dep_lot s; omega, .inr ⟨_, rfl⟩⟩
  · obtain ⟨s, _, rfl⟩ := List.mem_map.mp hx
    obtain ⟨t, _, rfl⟩ := List.mem_map.mp hy
    exact alike_lot s t
theorem p_are_tells (ds : List D) (Q : D → Prop) (hl : ds.length = 2) (h : sp_are_tells ds Q) : w_are_tells (endsD Q fun _ => False) (init 4 ds) := by
  obtain ⟨t, b, ok, hb, rfl, q⟩ := h
  rw [i_are_tells]
  simp only [w_are_tells, sRet, sSeq, sIf, sSet, sSetM, sNext, sNever, sExpr, sFrz, sX, sPar2, sPar3, sPars, sFor, sAsg, sAug, sSetI, sMk, sRetN, sBreak, sCont, sRetDeal, sFldI, dAndV, dOrV, dNotV, dFn, dFnL, dFnK, dChain, dCB, dCons, dNil, dVarB, dVar, dLit, dOp, dUn, dIf, dB, dNotT, dAndT, dOrT, dYes, dTup, dLst, dSl, dPart, dNoP, dRev, dJoin, dFldC, dMake, dLc, iA, iE, iR1, iR2, vNil, vE, vF, xMut, xMut2E, xE, gdName, gdTup, gdCons, gdNil, gLen, gLt, gLe, gGt, gGe, gCmp, gSl, gSlL, gIx, gI, gIc, gAdd, gLL, gTuple, gList, gSorted, gInt, gAbs, gRepr, gAppend, gInsert, gNeg, gIsT, gIsNotT, gJoin, isi_tup, DL.ne_int, DL.eq_int, DL.eq_str, DL.ne_str, at_0, at_1, at_2, at_3, seqItems, lItems, DL.isNon, endsD, endsM, endsI, setAllD, wipeD, DSt.set, kgG, List.map_cons, List.map_nil, List.cons_append, List.nil_append, List.length_cons, List.length_nil, List.getElem?_cons_zero, List.getElem?_cons_succ, List.set_cons_zero, List.set_cons_succ, List.foldl_cons, List.foldl_nil, if_true, Nat.zero_add, Bool.not_true, Bool.not_false, Bool.false_eq_true, if_false, and_true, true_and]
  refine for_each (fun st => ∃ x y, st = ⟨[.val (.tup (t.tells.map pairD)), .val (lotD t.names), x, y], none⟩) ⟨_, _, rfl⟩ (fun st' h' => ?_) fun d hd st h' k hk => ?_
  · obtain ⟨x, y, rfl⟩ := h'
    simp only [sRet, sSeq, sIf, sSet, sSetM, sNext, sNever, sExpr, sFrz, sX, sPar2, sPar3, sPars, sFor, sAsg, sAug, sSetI, sMk, sRetN, sBreak, sCont, sRetDeal, sFldI, dAndV, dOrV, dNotV, dFn, dFnL, dFnK, dChain, dCB, dCons, dNil, dVarB, dVar, dLit, dOp, dUn, dIf, dB, dNotT, dAndT, dOrT, dYes, dTup, dLst, dSl, dPart, dNoP, dRev, dJoin, dFldC, dMake, dLc, iA, iE, iR1, iR2, vNil, vE, vF, xMut, xMut2E, xE, gdName, gdTup, gdCons, gdNil, gLen, gLt, gLe, gGt, gGe, gCmp, gSl, gSlL, gIx, gI, gIc, gAdd, gLL, gTuple, gList, gSorted, gInt, gAbs, gRepr, gAppend, gInsert, gNeg, gIsT, gIsNotT, gJoin, isi_tup, DL.ne_int, DL.eq_int, DL.eq_str, DL.ne_str, at_0, at_1, at_2, at_3, seqItems, lItems, DL.isNon, endsD, endsM, endsI, setAllD, wipeD, DSt.set, kgG, List.map_cons, List.map_nil, List.cons_append, List.nil_append, List.length_cons, List.length_nil, List.getElem?_cons_zero, List.getElem?_cons_succ, List.set_cons_zero, List.set_cons_succ, List.foldl_cons, List.foldl_nil, if_true, Nat.zero_add, Bool.not_true, Bool.not_false, Bool.false_eq_true, if_false, and_true, true_and]
    exact ⟨_, .inl rfl, by rw [List.length_map]; exact Nat.le_trans ok.tz hb, ok.tr, pairs_ok.1, pairs_ok.2, q⟩
  · obtain ⟨x, y, rfl⟩ := h'
    obtain ⟨p, hp, rfl⟩ := List.mem_map.mp hd
    obtain ⟨p1, p2, p3⟩ := ok.tp p hp
    simp only [pairD, sRet, sSeq, sIf, sSet, sSetM, sNext, sNever, sExpr, sFrz, sX, sPar2, sPar3, sPars, sFor, sAsg, sAug, sSetI, sMk, sRetN, sBreak, sCont, sRetDeal, sFldI, dAndV, dOrV, dNotV, dFn, dFnL, dFnK, dChain, dCB, dCons, dNil, dVarB, dVar, dLit, dOp, dUn, dIf, dB, dNotT, dAndT, dOrT, dYes, dTup, dLst, dSl, dPart, dNoP, dRev, dJoin, dFldC, dMake, dLc, iA, iE, iR1, iR2, vNil, vE, vF, xMut, xMut2E, xE, gdName, gdTup, gdCons, gdNil, gLen, gLt, gLe, gGt, gGe, gCmp, gSl, gSlL, gIx, gI, gIc, gAdd, gLL, gTuple, gList, gSorted, gInt, gAbs, gRepr, gAppend, gInsert, gNeg, gIsT, gIsNotT, gJoin, isi_tup, DL.ne_int, DL.eq_int, DL.eq_str, DL.ne_str, at_0, at_1, at_2, at_3, seqItems, lItems, DL.isNon, endsD, endsM, endsI, setAllD, wipeD, DSt.set, kgG, List.map_cons, List.map_nil, List.cons_append, List.nil_append, List.length_cons, List.length_nil, List.getElem?_cons_zero, List.getElem?_cons_succ, List.set_cons_zero, List.set_cons_succ, List.foldl_cons, List.foldl_nil, if_true, Nat.zero_add, Bool.not_true, Bool.not_false, Bool.false_eq_true, if_false, and_true, true_and]
    have e : decide (((1 + 1 : Nat) : Int) = 2) = true := by decide
    simp only [e, sRet, sSeq, sIf, sSet, sSetM, sNext, sNever, sExpr, sFrz, sX, sPar2, sPar3, sPars, sFor, sAsg, sAug, sSetI, sMk, sRetN, sBreak, sCont, sRetDeal, sFldI, dAndV, dOrV, dNotV, dFn, dFnL, dFnK, dChain, dCB, dCons, dNil, dVarB, dVar, dLit, dOp, dUn, dIf, dB, dNotT, dAndT, dOrT, dYes, dTup, dLst, dSl, dPart, dNoP, dRev, dJoin, dFldC, dMake, dLc, iA, iE, iR1, iR2, vNil, vE, vF, xMut, xMut2E, xE, gdName, gdTup, gdCons, gdNil, gLen, gLt, gLe, gGt, gGe, gCmp, gSl, gSlL, gIx, gI, gIc, gAdd, gLL, gTuple, gList, gSorted, gInt, gAbs, gRepr, gAppend, gInsert, gNeg, gIsT, gIsNotT, gJoin, isi_tup, DL.ne_int, DL.eq_int, DL.eq_str, DL.ne_str, at_0, at_1, at_2, at_3, seqItems, lItems, DL.isNon, endsD, endsM, endsI, setAllD, wipeD, DSt.set, kgG, List.map_cons, List.map_nil, List.cons_append, List.nil_append, List.length_cons, List.length_nil, List.getElem?_cons_zero, List.getElem?_cons_succ, List.set_cons_zero, List.set_cons_succ, List.foldl_cons, List.foldl_nil, if_true, Nat.zero_add, Bool.not_true, Bool.not_false, Bool.false_eq_true, if_false, and_true, true_and]
    have me : ∀ z, z ∈ t.names → ∀ Y : D → Prop, Y (.bl true) → gInT false (.str z) (lotD t.names) Y := fun z hz Y y => in_lot (neg := false) (by rw [if_neg (by simp), decide_eq_true hz]; exact y)
    refine lc_map (fun _ => .bl true) (fun d hd Y y => ?_) (gAll_yes (fun _ _ => rfl) ?_)
    · have hd' : d = .str p.1 ∨ d = .str p.2 := by simpa using hd
      rcases hd' with rfl | rfl
      · simp only [sRet, sSeq, sIf, sSet, sSetM, sNext, sNever, sExpr, sFrz, sX, sPar2, sPar3, sPars, sFor, sAsg, sAug, sSetI, sMk, sRetN, sBreak, sCont, sRetDeal, sFldI, dAndV, dOrV, dNotV, dFn, dFnL, dFnK, dChain, dCB, dCons, dNil, dVarB, dVar, dLit, dOp, dUn, dIf, dB, dNotT, dAndT, dOrT, dYes, dTup, dLst, dSl, dPart, dNoP, dRev, dJoin, dFldC, dMake, dLc, iA, iE, iR1, iR2, vNil, vE, vF, xMut, xMut2E, xE, gdName, gdTup, gdCons, gdNil, gLen, gLt, gLe, gGt, gGe, gCmp, gSl, gSlL, gIx, gI, gIc, gAdd, gLL, gTuple, gList, gSorted, gInt, gAbs, gRepr, gAppend, gInsert, gNeg, gIsT, gIsNotT, gJoin, isi_tup, DL.ne_int, DL.eq_int, DL.eq_str, DL.ne_str, at_0, at_1, at_2, at_3, seqItems, lItems, DL.isNon, endsD, endsM, endsI, setAllD, wipeD, DSt.set, kgG, List.map_cons, List.map_nil, List.cons_append, List.nil_append, List.length_cons, List.length_nil, List.getElem?_cons_zero, List.getElem?_cons_succ, List.set_cons_zero, List.set_cons_succ, List.foldl_cons, List.foldl_nil, if_true, Nat.zero_add, Bool.not_true, Bool.not_false, Bool.false_eq_true, if_false, and_true, true_and]
        exact ⟨p.1, rfl, ok.n.nn _ p1, me _ p1 Y y⟩
      · simp only [sRet, sSeq, sIf, sSet, sSetM, sNext, sNever, sExpr, sFrz, sX, sPar2, sPar3, sPars, sFor, sAsg, sAug, sSetI, sMk, sRetN, sBreak, sCont, sRetDeal, sFldI, dAndV, dOrV, dNotV, dFn, dFnL, dFnK, dChain, dCB, dCons, dNil, dVarB, dVar, dLit, dOp, dUn, dIf, dB, dNotT, dAndT, dOrT, dYes, dTup, dLst, dSl, dPart, dNoP, dRev, dJoin, dFldC, dMake, dLc, iA, iE, iR1, iR2, vNil, vE, vF, xMut, xMut2E, xE, gdName, gdTup, gdCons, gdNil, gLen, gLt, gLe, gGt, gGe, gCmp, gSl, gSlL, gIx, gI, gIc, gAdd, gLL, gTuple, gList, gSorted, gInt, gAbs, gRepr, gAppend, gInsert, gNeg, gIsT, gIsNotT, gJoin, isi_tup, DL.ne_int, DL.eq_int, DL.eq_str, DL.ne_str, at_0, at_1, at_2, at_3, seqItems, lItems, DL.isNon, endsD, endsM, endsI, setAllD, wipeD, DSt.set, kgG, List.map_cons, List.map_nil, List.cons_append, List.nil_append, List.length_cons, List.length_nil, List.getElem?_cons_zero, List.getElem?_cons_succ, List.set_cons_zero, List.set_cons_succ, List.foldl_cons, List.foldl_nil, if_true, Nat.zero_add, Bool.not_true, Bool.not_false, Bool.false_eq_true, if_false, and_true, true_and]
        exact ⟨p.2, rfl, ok.n.nn _ p2, me _ p2 Y y⟩
    · simp only [sRet, sSeq, sIf, sSet, sSetM, sNext, sNever, sExpr, sFrz, sX, sPar2, sPar3, sPars, sFor, sAsg, sAug, sSetI, sMk, sRetN, sBreak, sCont, sRetDeal, sFldI, dAndV, dOrV, dNotV, dFn, dFnL, dFnK, dChain, dCB, dCons, dNil, dVarB, dVar, dLit, dOp, dUn, dIf, dB, dNotT, dAndT, dOrT, dYes, dTup, dLst, dSl, dPart, dNoP, dRev, dJoin, dFldC, dMake, dLc, iA, iE, iR1, iR2, vNil, vE, vF, xMut, xMut2E, xE, gdName, gdTup, gdCons, gdNil, gLen, gLt, gLe, gGt, gGe, gCmp, gSl, gSlL, gIx, gI, gIc, gAdd, gLL, gTuple, gList, gSorted, gInt, gAbs, gRepr, gAppend, gInsert, gNeg, gIsT, gIsNotT, gJoin, isi_tup, DL.ne_int, DL.eq_int, DL.eq_str, DL.ne_str, at_0, at_1, at_2, at_3, seqItems, lItems, DL.isNon, endsD, endsM, endsI, setAllD, wipeD, DSt.set, kgG, List.map_cons, List.map_nil, List.cons_append, List.nil_append, List.length_cons, List.length_nil, List.getElem?_cons_zero, List.getElem?_cons_succ, List.set_cons_zero, List.set_cons_succ, List.foldl_cons, List.foldl_nil, if_true, Nat.zero_add, Bool.not_true, Bool.not_false, Bool.false_eq_true, if_false, and_true, true_and, decide_eq_false p3]
      exact hk _ ⟨_, _, rfl⟩
theorem isEmpty_ne {α : Type} {l : List α} (h : l ≠ []) : l.isEmpty = false := by
  cases l with
  | nil => exact absurd rfl h
  | cons _ _ => rfl
theorem within_yes {l m : List Str} (h : ∀ x ∈ l, x ∈ m) : (l.all fun x => decide (x ∈ m)) = true := by
  rw [List.all_eq_true]
  exact fun x hx => decide_eq_true (h x hx)
theorem p_are_counters (ds : List D) (Q : D → Prop) (hl : ds.length = 2) (h : sp_are_counters ds Q) : w_are_counters (endsD Q fun _ => False) (init 3 ds) := by
  obtain ⟨n, c, b, hn, hc, hb, rfl, q⟩ := h
  rw [i_are_counters]
  simp only [w_are_counters, sRet, sSeq, sIf, sSet, sSetM, sNext, sNever, sExpr, sFrz, sX, sPar2, sPar3, sPars, sFor, sAsg, sAug, sSetI, sMk, sRetN, sBreak, sCont, sRetDeal, sFldI, dAndV, dOrV, dNotV, dFn, dFnL, dFnK, dChain, dCB, dCons, dNil, dVarB, dVar, dLit, dOp, dUn, dIf, dB, dNotT, dAndT, dOrT, dYes, dTup, dLst, dSl, dPart, dNoP, dRev, dJoin, dFldC, dMake, dLc, iA, iE, iR1, iR2, vNil, vE, vF, xMut, xMut2E, xE, gdName, gdTup, gdCons, gdNil, gLen, gLt, gLe, gGt, gGe, gCmp, gSl, gSlL, gIx, gI, gIc, gAdd, gLL, gTuple, gList, gSorted, gInt, gAbs, gRepr, gAppend, gInsert, gNeg, gIsT, gIsNotT, gJoin, isi_tup, DL.ne_int, DL.eq_int, DL.eq_str, DL.ne_str, at_0, at_1, at_2, at_3, seqItems, lItems, DL.isNon, endsD, endsM, endsI, setAllD, wipeD, DSt.set, kgG, List.map_cons, List.map_nil, List.cons_append, List.nil_append, List.length_cons, List.length_nil, List.getElem?_cons_zero, List.getElem?_cons_succ, List.set_cons_zero, List.set_cons_succ, List.foldl_cons, List.foldl_nil, if_true, Nat.zero_add, Bool.not_true, Bool.not_false, Bool.false_eq_true, if_false, and_true, true_and]
  have hlen : decide (((c.2.map lotD).length : Int) = 0) = false := decide_eq_false (by
    rw [List.length_map]
    have := hc.ne
    cases hcc : c.2 with
    | nil => exact absurd hcc this
    | cons _ _ => simp; omega)
  simp only [hlen, sRet, sSeq, sIf, sSet, sSetM, sNext, sNever, sExpr, sFrz, sX, sPar2, sPar3, sPars, sFor, sAsg, sAug, sSetI, sMk, sRetN, sBreak, sCont, sRetDeal, sFldI, dAndV, dOrV, dNotV, dFn, dFnL, dFnK, dChain, dCB, dCons, dNil, dVarB, dVar, dLit, dOp, dUn, dIf, dB, dNotT, dAndT, dOrT, dYes, dTup, dLst, dSl, dPart, dNoP, dRev, dJoin, dFldC, dMake, dLc, iA, iE, iR1, iR2, vNil, vE, vF, xMut, xMut2E, xE, gdName, gdTup, gdCons, gdNil, gLen, gLt, gLe, gGt, gGe, gCmp, gSl, gSlL, gIx, gI, gIc, gAdd, gLL, gTuple, gList, gSorted, gInt, gAbs, gRepr, gAppend, gInsert, gNeg, gIsT, gIsNotT, gJoin, isi_tup, DL.ne_int, DL.eq_int, DL.eq_str, DL.ne_str, at_0, at_1, at_2, at_3, seqItems, lItems, DL.isNon, endsD, endsM, endsI, setAllD, wipeD, DSt.set, kgG, List.map_cons, List.map_nil, List.cons_append, List.nil_append, List.length_cons, List.length_nil, List.getElem?_cons_zero, List.getElem?_cons_succ, List.set_cons_zero, List.set_cons_succ, List.foldl_cons, List.foldl_nil, if_true, Nat.zero_add, Bool.not_true, Bool.not_false, Bool.false_eq_true, if_false, and_true, true_and]
  refine lc_map (fun _ => .bl true) (fun d hd Y y => ?_) (gAll_yes (fun _ _ => rfl) ?_)
  · obtain ⟨l, hl, rfl⟩ := List.mem_map.mp hd
    obtain ⟨l0, lo⟩ := hc.l l hl
    simp only [sRet, sSeq, sIf, sSet, sSetM, sNext, sNever, sExpr, sFrz, sX, sPar2, sPar3, sPars, sFor, sAsg, sAug, sSetI, sMk, sRetN, sBreak, sCont, sRetDeal, sFldI, dAndV, dOrV, dNotV, dFn, dFnL, dFnK, dChain, dCB, dCons, dNil, dVarB, dVar, dLit, dOp, dUn, dIf, dB, dNotT, dAndT, dOrT, dYes, dTup, dLst, dSl, dPart, dNoP, dRev, dJoin, dFldC, dMake, dLc, iA, iE, iR1, iR2, vNil, vE, vF, xMut, xMut2E, xE, gdName, gdTup, gdCons, gdNil, gLen, gLt, gLe, gGt, gGe, gCmp, gSl, gSlL, gIx, gI, gIc, gAdd, gLL, gTuple, gList, gSorted, gInt, gAbs, gRepr, gAppend, gInsert, gNeg, gIsT, gIsNotT, gJoin, isi_tup, DL.ne_int, DL.eq_int, DL.eq_str, DL.ne_str, at_0, at_1, at_2, at_3, seqItems, lItems, DL.isNon, endsD, endsM, endsI, setAllD, wipeD, DSt.set, kgG, List.map_cons, List.map_nil, List.cons_append, List.nil_append, List.length_cons, List.length_nil, List.getElem?_cons_zero, List.getElem?_cons_succ, List.set_cons_zero, List.set_cons_succ, List.foldl_cons, List.foldl_nil, if_true, Nat.zero_add, Bool.not_true, Bool.not_false, Bool.false_eq_true, if_false, and_true, true_and]
    refine ⟨l, rfl, fun s hs => hn.nn s (lo.s s hs), lo.r, Nat.le_trans lo.z hb, ?_⟩
    simp only [sRet, sSeq, sIf, sSet, sSetM, sNext, sNever, sExpr, sFrz, sX, sPar2, sPar3, sPars, sFor, sAsg, sAug, sSetI, sMk, sRetN, sBreak, sCont, sRetDeal, sFldI, dAndV, dOrV, dNotV, dFn, dFnL, dFnK, dChain, dCB, dCons, dNil, dVarB, dVar, dLit, dOp, dUn, dIf, dB, dNotT, dAndT, dOrT, dYes, dTup, dLst, dSl, dPart, dNoP, dRev, dJoin, dFldC, dMake, dLc, iA, iE, iR1, iR2, vNil, vE, vF, xMut, xMut2E, xE, gdName, gdTup, gdCons, gdNil, gLen, gLt, gLe, gGt, gGe, gCmp, gSl, gSlL, gIx, gI, gIc, gAdd, gLL, gTuple, gList, gSorted, gInt, gAbs, gRepr, gAppend, gInsert, gNeg, gIsT, gIsNotT, gJoin, isi_tup, DL.ne_int, DL.eq_int, DL.eq_str, DL.ne_str, at_0, at_1, at_2, at_3, seqItems, lItems, DL.isNon, endsD, endsM, endsI, setAllD, wipeD, DSt.set, kgG, List.map_cons, List.map_nil, List.cons_append, List.nil_append, List.length_cons, List.length_nil, List.getElem?_cons_zero, List.getElem?_cons_succ, List.set_cons_zero, List.set_cons_succ, List.foldl_cons, List.foldl_nil, if_true, Nat.zero_add, Bool.not_true, Bool.not_false, Bool.false_eq_true, if_false, and_true, true_and]
    refine ⟨by decide, ne_nilT (ok_lot l) ?_⟩
    have e : (l.map D.str).isEmpty = false := isEmpty_ne (by simpa using l0)
    rw [e]
    simp only [sRet, sSeq, sIf, sSet, sSetM, sNext, sNever, sExpr, sFrz, sX, sPar2, sPar3, sPars, sFor, sAsg, sAug, sSetI, sMk, sRetN, sBreak, sCont, sRetDeal, sFldI, dAndV, dOrV, dNotV, dFn, dFnL, dFnK, dChain, dCB, dCons, dNil, dVarB, dVar, dLit, dOp, dUn, dIf, dB, dNotT, dAndT, dOrT, dYes, dTup, dLst, dSl, dPart, dNoP, dRev, dJoin, dFldC, dMake, dLc, iA, iE, iR1, iR2, vNil, vE, vF, xMut, xMut2E, xE, gdName, gdTup, gdCons, gdNil, gLen, gLt, gLe, gGt, gGe, gCmp, gSl, gSlL, gIx, gI, gIc, gAdd, gLL, gTuple, gList, gSorted, gInt, gAbs, gRepr, gAppend, gInsert, gNeg, gIsT, gIsNotT, gJoin, isi_tup, DL.ne_int, DL.eq_int, DL.eq_str, DL.ne_str, at_0, at_1, at_2, at_3, seqItems, lItems, DL.isNon, endsD, endsM, endsI, setAllD, wipeD, DSt.set, kgG, List.map_cons, List.map_nil, List.cons_append, List.nil_append, List.length_cons, List.length_nil, List.getElem?_cons_zero, List.getElem?_cons_succ, List.set_cons_zero, List.set_cons_succ, List.foldl_cons, List.foldl_nil, if_true, Nat.zero_add, Bool.not_true, Bool.not_false, Bool.false_eq_true, if_false, and_true, true_and]
    exact ⟨l, n, rfl, by rw [within_yes lo.s]; exact y⟩
  · simp only [sRet, sSeq, sIf, sSet, sSetM, sNext, sNever, sExpr, sFrz, sX, sPar2, sPar3, sPars, sFor, sAsg, sAug, sSetI, sMk, sRetN, sBreak, sCont, sRetDeal, sFldI, dAndV, dOrV, dNotV, dFn, dFnL, dFnK, dChain, dCB, dCons, dNil, dVarB, dVar, dLit, dOp, dUn, dIf, dB, dNotT, dAndT, dOrT, dYes, dTup, dLst, dSl, dPart, dNoP, dRev, dJoin, dFldC, dMake, dLc, iA, iE, iR1, iR2, vNil, vE, vF, xMut, xMut2E, xE, gdName, gdTup, gdCons, gdNil, gLen, gLt, gLe, gGt, gGe, gCmp, gSl, gSlL, gIx, gI, gIc, gAdd, gLL, gTuple, gList, gSorted, gInt, gAbs, gRepr, gAppend, gInsert, gNeg, gIsT, gIsNotT, gJoin, isi_tup, DL.ne_int, DL.eq_int, DL.eq_str, DL.ne_str, at_0, at_1, at_2, at_3, seqItems, lItems, DL.isNon, endsD, endsM, endsI, setAllD, wipeD, DSt.set, kgG, List.map_cons, List.map_nil, List.cons_append, List.nil_append, List.length_cons, List.length_nil, List.getElem?_cons_zero, List.getElem?_cons_succ, List.set_cons_zero, List.set_cons_succ, List.foldl_cons, List.foldl_nil, if_true, Nat.zero_add, Bool.not_true, Bool.not_false, Bool.false_eq_true, if_false, and_true, true_and]
    exact ⟨_, .inl rfl, by rw [List.length_map]; exact Nat.le_trans hc.z hb, hc.r, lots_ok.1, lots_ok.2, q⟩
theorem p_are_hand_counters (ds : List D) (Q : D → Prop) (hl : ds.length = 2) (h : sp_are_hand_counters ds Q) : w_are_hand_counters (endsD Q fun _ => False) (init 3 ds) := by
  obtain ⟨t, b, ok, hb, rfl, q⟩ := h
  rw [i_are_hand_counters]
  simp only [w_are_hand_counters, sRet, sSeq, sIf, sSet, sSetM, sNext, sNever, sExpr, sFrz, sX, sPar2, sPar3, sPars, sFor, sAsg, sAug, sSetI, sMk, sRetN, sBreak, sCont, sRetDeal, sFldI, dAndV, dOrV, dNotV, dFn, dFnL, dFnK, dChain, dCB, dCons, dNil, dVarB, dVar, dLit, dOp, dUn, dIf, dB, dNotT, dAndT, dOrT, dYes, dTup, dLst, dSl, dPart, dNoP, dRev, dJoin, dFldC, dMake, dLc, iA, iE, iR1, iR2, vNil, vE, vF, xMut, xMut2E, xE, gdName, gdTup, gdCons, gdNil, gLen, gLt, gLe, gGt, gGe, gCmp, gSl, gSlL, gIx, gI, gIc, gAdd, gLL, gTuple, gList, gSorted, gInt, gAbs, gRepr, gAppend, gInsert, gNeg, gIsT, gIsNotT, gJoin, isi_tup, DL.ne_int, DL.eq_int, DL.eq_str, DL.ne_str, at_0, at_1, at_2, at_3, seqItems, lItems, DL.isNon, endsD, endsM, endsI, setAllD, wipeD, DSt.set, kgG, List.map_cons, List.map_nil, List.cons_append, List.nil_append, List.length_cons, List.length_nil, List.getElem?_cons_zero, List.getElem?_cons_succ, List.set_cons_zero, List.set_cons_succ, List.foldl_cons, List.foldl_nil, if_true, Nat.zero_add, Bool.not_true, Bool.not_false, Bool.false_eq_true, if_false, and_true, true_and]
  have l1 : decide ((2 : Int) ≤ ((t.cnts.map cntD).length : Int)) = true := decide_eq_true (by rw [List.length_map]; have := ok.c2; omega)
  have l2 : decide (((t.cnts.map cntD).length : Int) ≤ 6) = true := decide_eq_true (by rw [List.length_map]; have := ok.c6; omega)
  simp only [l1, l2, sRet, sSeq, sIf, sSet, sSetM, sNext, sNever, sExpr, sFrz, sX, sPar2, sPar3, sPars, sFor, sAsg, sAug, sSetI, sMk, sRetN, sBreak, sCont, sRetDeal, sFldI, dAndV, dOrV, dNotV, dFn, dFnL, dFnK, dChain, dCB, dCons, dNil, dVarB, dVar, dLit, dOp, dUn, dIf, dB, dNotT, dAndT, dOrT, dYes, dTup, dLst, dSl, dPart, dNoP, dRev, dJoin, dFldC, dMake, dLc, iA, iE, iR1, iR2, vNil, vE, vF, xMut, xMut2E, xE, gdName, gdTup, gdCons, gdNil, gLen, gLt, gLe, gGt, gGe, gCmp, gSl, gSlL, gIx, gI, gIc, gAdd, gLL, gTuple, gList, gSorted, gInt, gAbs, gRepr, gAppend, gInsert, gNeg, gIsT, gIsNotT, gJoin, isi_tup, DL.ne_int, DL.eq_int, DL.eq_str, DL.ne_str, at_0, at_1, at_2, at_3, seqItems, lItems, DL.isNon, endsD, endsM, endsI, setAllD, wipeD, DSt.set, kgG, List.map_cons, List.map_nil, List.cons_append, List.nil_append, List.length_cons, List.length_nil, List.getElem?_cons_zero, List.getElem?_cons_succ, List.set_cons_zero, List.set_cons_succ, List.foldl_cons, List.foldl_nil, if_true, Nat.zero_add, Bool.not_true, Bool.not_false, Bool.false_eq_true, if_false, and_true, true_and]
  refine for_each (fun st => ∃ x, st = ⟨[.val (.tup (t.cnts.map cntD)), .val (lotD t.names), x], none⟩) ⟨_, rfl⟩ (fun st' h' => ?_) fun d hd st h' k hk => ?_
  · obtain ⟨x, rfl⟩ := h'
    simp only [sRet, sSeq, sIf, sSet, sSetM, sNext, sNever, sExpr, sFrz, sX, sPar2, sPar3, sPars, sFor, sAsg, sAug, sSetI, sMk, sRetN, sBreak, sCont, sRetDeal, sFldI, dAndV, dOrV, dNotV, dFn, dFnL, dFnK, dChain, dCB, dCons, dNil, dVarB, dVar, dLit, dOp, dUn, dIf, dB, dNotT, dAndT, dOrT, dYes, dTup, dLst, dSl, dPart, dNoP, dRev, dJoin, dFldC, dMake, dLc, iA, iE, iR1, iR2, vNil, vE, vF, xMut, xMut2E, xE, gdName, gdTup, gdCons, gdNil, gLen, gLt, gLe, gGt, gGe, gCmp, gSl, gSlL, gIx, gI, gIc, gAdd, gLL, gTuple, gList, gSorted, gInt, gAbs, gRepr, gAppend, gInsert, gNeg, gIsT, gIsNotT, gJoin, isi_tup, DL.ne_int, DL.eq_int, DL.eq_str, DL.ne_str, at_0, at_1, at_2, at_3, seqItems, lItems, DL.isNon, endsD, endsM, endsI, setAllD, wipeD, DSt.set, kgG, List.map_cons, List.map_nil, List.cons_append, List.nil_append, List.length_cons, List.length_nil, List.getElem?_cons_zero, List.getElem?_cons_succ, List.set_cons_zero, List.set_cons_succ, List.foldl_cons, List.foldl_nil, if_true, Nat.zero_add, Bool.not_true, Bool.not_false, Bool.false_eq_true, if_false, and_true, true_and]
    refine lc_map (fun d => match d with
      | .tup (x :: _) => x
      | _ => .non) (fun d hd Y y => ?_) ?_
    · obtain ⟨c, hc, rfl⟩ := List.mem_map.mp hd
      simp only [cntD, sRet, sSeq, sIf, sSet, sSetM, sNext, sNever, sExpr, sFrz, sX, sPar2, sPar3, sPars, sFor, sAsg, sAug, sSetI, sMk, sRetN, sBreak, sCont, sRetDeal, sFldI, dAndV, dOrV, dNotV, dFn, dFnL, dFnK, dChain, dCB, dCons, dNil, dVarB, dVar, dLit, dOp, dUn, dIf, dB, dNotT, dAndT, dOrT, dYes, dTup, dLst, dSl, dPart, dNoP, dRev, dJoin, dFldC, dMake, dLc, iA, iE, iR1, iR2, vNil, vE, vF, xMut, xMut2E, xE, gdName, gdTup, gdCons, gdNil, gLen, gLt, gLe, gGt, gGe, gCmp, gSl, gSlL, gIx, gI, gIc, gAdd, gLL, gTuple, gList, gSorted, gInt, gAbs, gRepr, gAppend, gInsert, gNeg, gIsT, gIsNotT, gJoin, isi_tup, DL.ne_int, DL.eq_int, DL.eq_str, DL.ne_str, at_0, at_1, at_2, at_3, seqItems, lItems, DL.isNon, endsD, endsM, endsI, setAllD, wipeD, DSt.set, kgG, List.map_cons, List.map_nil, List.cons_append, List.nil_append, List.length_cons, List.length_nil, List.getElem?_cons_zero, List.getElem?_cons_succ, List.set_cons_zero, List.set_cons_succ, List.foldl_cons, List.foldl_nil, if_true, Nat.zero_add, Bool.not_true, Bool.not_false, Bool.false_eq_true, if_false, and_true, true_and]
      exact y
    · rw [List.map_map]
      refine ⟨t.cnts.map fun c => D.str c.1, .inr rfl, by rw [List.length_map]; have := ok.c6; omega, ok.cr, ?_⟩
      have e : (t.cnts.map fun c => D.str c.1) = (t.cnts.map (·.1)).map D.str := by rw [List.map_map]; rfl
      rw [e]
      exact ⟨strs_ok.1, strs_ok.2, q⟩
  · obtain ⟨x, rfl⟩ := h'
    obtain ⟨c, hc, rfl⟩ := List.mem_map.mp hd
    have hc' := ok.c c hc
    simp only [cntD, sRet, sSeq, sIf, sSet, sSetM, sNext, sNever, sExpr, sFrz, sX, sPar2, sPar3, sPars, sFor, sAsg, sAug, sSetI, sMk, sRetN, sBreak, sCont, sRetDeal, sFldI, dAndV, dOrV, dNotV, dFn, dFnL, dFnK, dChain, dCB, dCons, dNil, dVarB, dVar, dLit, dOp, dUn, dIf, dB, dNotT, dAndT, dOrT, dYes, dTup, dLst, dSl, dPart, dNoP, dRev, dJoin, dFldC, dMake, dLc, iA, iE, iR1, iR2, vNil, vE, vF, xMut, xMut2E, xE, gdName, gdTup, gdCons, gdNil, gLen, gLt, gLe, gGt, gGe, gCmp, gSl, gSlL, gIx, gI, gIc, gAdd, gLL, gTuple, gList, gSorted, gInt, gAbs, gRepr, gAppend, gInsert, gNeg, gIsT, gIsNotT, gJoin, isi_tup, DL.ne_int, DL.eq_int, DL.eq_str, DL.ne_str, at_0, at_1, at_2, at_3, seqItems, lItems, DL.isNon, endsD, endsM, endsI, setAllD, wipeD, DSt.set, kgG, List.map_cons, List.map_nil, List.cons_append, List.nil_append, List.length_cons, List.length_nil, List.getElem?_cons_zero, List.getElem?_cons_succ, List.set_cons_zero, List.set_cons_succ, List.foldl_cons, List.foldl_nil, if_true, Nat.zero_add, Bool.not_true, Bool.not_false, Bool.false_eq_true, if_false, and_true, true_and]
    have e : decide (((1 + 1 : Nat) : Int) = 2) = true := by decide
    simp only [e, sRet, sSeq, sIf, sSet, sSetM, sNext, sNever, sExpr, sFrz, sX, sPar2, sPar3, sPars, sFor, sAsg, sAug, sSetI, sMk, sRetN, sBreak, sCont, sRetDeal, sFldI, dAndV, dOrV, dNotV, dFn, dFnL, dFnK, dChain, dCB, dCons, dNil, dVarB, dVar, dLit, dOp, dUn, dIf, dB, dNotT, dAndT, dOrT, dYes, dTup, dLst, dSl, dPart, dNoP, dRev, dJoin, dFldC, dMake, dLc, iA, iE, iR1, iR2, vNil, vE, vF, xMut, xMut2E, xE, gdName, gdTup, gdCons, gdNil, gLen, gLt, gLe, gGt, gGe, gCmp, gSl, gSlL, gIx, gI, gIc, gAdd, gLL, gTuple, gList, gSorted, gInt, gAbs, gRepr, gAppend, gInsert, gNeg, gIsT, gIsNotT, gJoin, isi_tup, DL.ne_int, DL.eq_int, DL.eq_str, DL.ne_str, at_0, at_1, at_2, at_3, seqItems, lItems, DL.isNon, endsD, endsM, endsI, setAllD, wipeD, DSt.set, kgG, List.map_cons, List.map_nil, List.cons_append, List.nil_append, List.length_cons, List.length_nil, List.getElem?_cons_zero, List.getElem?_cons_succ, List.set_cons_zero, List.set_cons_succ, List.foldl_cons, List.foldl_nil, if_true, Nat.zero_add, Bool.not_true, Bool.not_false, Bool.false_eq_true, if_false, and_true, true_and]
    refine ⟨c.1, rfl, hc'.h, ?_⟩
    simp only [sRet, sSeq, sIf, sSet, sSetM, sNext, sNever, sExpr, sFrz, sX, sPar2, sPar3, sPars, sFor, sAsg, sAug, sSetI, sMk, sRetN, sBreak, sCont, sRetDeal, sFldI, dAndV, dOrV, dNotV, dFn, dFnL, dFnK, dChain, dCB, dCons, dNil, dVarB, dVar, dLit, dOp, dUn, dIf, dB, dNotT, dAndT, dOrT, dYes, dTup, dLst, dSl, dPart, dNoP, dRev, dJoin, dFldC, dMake, dLc, iA, iE, iR1, iR2, vNil, vE, vF, xMut, xMut2E, xE, gdName, gdTup, gdCons, gdNil, gLen, gLt, gLe, gGt, gGe, gCmp, gSl, gSlL, gIx, gI, gIc, gAdd, gLL, gTuple, gList, gSorted, gInt, gAbs, gRepr, gAppend, gInsert, gNeg, gIsT, gIsNotT, gJoin, isi_tup, DL.ne_int, DL.eq_int, DL.eq_str, DL.ne_str, at_0, at_1, at_2, at_3, seqItems, lItems, DL.isNon, endsD, endsM, endsI, setAllD, wipeD, DSt.set, kgG, List.map_cons, List.map_nil, List.cons_append, List.nil_append, List.length_cons, List.length_nil, List.getElem?_cons_zero, List.getElem?_cons_succ, List.set_cons_zero, List.set_cons_succ, List.foldl_cons, List.foldl_nil, if_true, Nat.zero_add, Bool.not_true, Bool.not_false, Bool.false_eq_true, if_false, and_true, true_and]
    refine ⟨t.names, c, b, ok.n, hc', hb, rfl, ?_⟩
    simp only [sRet, sSeq, sIf, sSet, sSetM, sNext, sNever, sExpr, sFrz, sX, sPar2, sPar3, sPars, sFor, sAsg, sAug, sSetI, sMk, sRetN, sBreak, sCont, sRetDeal, sFldI, dAndV, dOrV, dNotV, dFn, dFnL, dFnK, dChain, dCB, dCons, dNil, dVarB, dVar, dLit, dOp, dUn, dIf, dB, dNotT, dAndT, dOrT, dYes, dTup, dLst, dSl, dPart, dNoP, dRev, dJoin, dFldC, dMake, dLc, iA, iE, iR1, iR2, vNil, vE, vF, xMut, xMut2E, xE, gdName, gdTup, gdCons, gdNil, gLen, gLt, gLe, gGt, gGe, gCmp, gSl, gSlL, gIx, gI, gIc, gAdd, gLL, gTuple, gList, gSorted, gInt, gAbs, gRepr, gAppend, gInsert, gNeg, gIsT, gIsNotT, gJoin, isi_tup, DL.ne_int, DL.eq_int, DL.eq_str, DL.ne_str, at_0, at_1, at_2, at_3, seqItems, lItems, DL.isNon, endsD, endsM, endsI, setAllD, wipeD, DSt.set, kgG, List.map_cons, List.map_nil, List.cons_append, List.nil_append, List.length_cons, List.length_nil, List.getElem?_cons_zero, List.getElem?_cons_succ, List.set_cons_zero, List.set_cons_succ, List.foldl_cons, List.foldl_nil, if_true, Nat.zero_add, Bool.not_true, Bool.not_false, Bool.false_eq_true, if_false, and_true, true_and]
    exact hk _ ⟨_, rfl⟩
theorem p_are_forgetful (ds : List D) (Q : D → Prop) (hl : ds.length = 2) (h : sp_are_forgetful ds Q) : w_are_forgetful (endsD Q fun _ => False) (init 3 ds) := by
  obtain ⟨t, b, ok, hb, rfl, q⟩ := h
  rw [i_are_forgetful]
  simp only [w_are_forgetful, sRet, sSeq, sIf, sSet, sSetM, sNext, sNever, sExpr, sFrz, sX, sPar2, sPar3, sPars, sFor, sAsg, sAug, sSetI, sMk, sRetN, sBreak, sCont, sRetDeal, sFldI, dAndV, dOrV, dNotV, dFn, dFnL, dFnK, dChain, dCB, dCons, dNil, dVarB, dVar, dLit, dOp, dUn, dIf, dB, dNotT, dAndT, dOrT, dYes, dTup, dLst, dSl, dPart, dNoP, dRev, dJoin, dFldC, dMake, dLc, iA, iE, iR1, iR2, vNil, vE, vF, xMut, xMut2E, xE, gdName, gdTup, gdCons, gdNil, gLen, gLt, gLe, gGt, gGe, gCmp, gSl, gSlL, gIx, gI, gIc, gAdd, gLL, gTuple, gList, gSorted, gInt, gAbs, gRepr, gAppend, gInsert, gNeg, gIsT, gIsNotT, gJoin, isi_tup, DL.ne_int, DL.eq_int, DL.eq_str, DL.ne_str, at_0, at_1, at_2, at_3, seqItems, lItems, DL.isNon, endsD, endsM, endsI, setAllD, wipeD, DSt.set, kgG, List.map_cons, List.map_nil, List.cons_append, List.nil_append, List.length_cons, List.length_nil, List.getElem?_cons_zero, List.getElem?_cons_succ, List.set_cons_zero, List.set_cons_succ, List.foldl_cons, List.foldl_nil, if_true, Nat.zero_add, Bool.not_true, Bool.not_false, Bool.false_eq_true, if_false, and_true, true_and]
  have hlen : decide (((t.fgs.map lotD).length : Int) = 0) = false := decide_eq_false (by
    rw [List.length_map]
    have := ok.f0
    cases hcc : t.fgs with
    | nil => exact absurd hcc this
    | cons _ _ => simp; omega)
  simp only [hlen, sRet, sSeq, sIf, sSet, sSetM, sNext, sNever, sExpr, sFrz, sX, sPar2, sPar3, sPars, sFor, sAsg, sAug, sSetI, sMk, sRetN, sBreak, sCont, sRetDeal, sFldI, dAndV, dOrV, dNotV, dFn, dFnL, dFnK, dChain, dCB, dCons, dNil, dVarB, dVar, dLit, dOp, dUn, dIf, dB, dNotT, dAndT, dOrT, dYes, dTup, dLst, dSl, dPart, dNoP, dRev, dJoin, dFldC, dMake, dLc, iA, iE, iR1, iR2, vNil, vE, vF, xMut, xMut2E, xE, gdName, gdTup, gdCons, gdNil, gLen, gLt, gLe, gGt, gGe, gCmp, gSl, gSlL, gIx, gI, gIc, gAdd, gLL, gTuple, gList, gSorted, gInt, gAbs, gRepr, gAppend, gInsert, gNeg, gIsT, gIsNotT, gJoin, isi_tup, DL.ne_int, DL.eq_int, DL.eq_str, DL.ne_str, at_0, at_1, at_2, at_3, seqItems, lItems, DL.isNon, endsD, endsM, endsI, setAllD, wipeD, DSt.set, kgG, List.map_cons, List.map_nil, List.cons_append, List.nil_append, List.length_cons, List.length_nil, List.getElem?_cons_zero, List.getElem?_cons_succ, List.set_cons_zero, List.set_cons_succ, List.foldl_cons, List.foldl_nil, if_true, Nat.zero_add, Bool.not_true, Bool.not_false, Bool.false_eq_true, if_false, and_true, true_and]
  refine lc_map (fun _ => .bl true) (fun d hd Y y => ?_) (gAll_yes (fun _ _ => rfl) ?_)
  · obtain ⟨l, hl, rfl⟩ := List.mem_map.mp hd
    have lo := ok.fl l hl
    simp only [sRet, sSeq, sIf, sSet, sSetM, sNext, sNever, sExpr, sFrz, sX, sPar2, sPar3, sPars, sFor, sAsg, sAug, sSetI, sMk, sRetN, sBreak, sCont, sRetDeal, sFldI, dAndV, dOrV, dNotV, dFn, dFnL, dFnK, dChain, dCB, dCons, dNil, dVarB, dVar, dLit, dOp, dUn, dIf, dB, dNotT, dAndT, dOrT, dYes, dTup, dLst, dSl, dPart, dNoP, dRev, dJoin, dFldC, dMake, dLc, iA, iE, iR1, iR2, vNil, vE, vF, xMut, xMut2E, xE, gdName, gdTup, gdCons, gdNil, gLen, gLt, gLe, gGt, gGe, gCmp, gSl, gSlL, gIx, gI, gIc, gAdd, gLL, gTuple, gList, gSorted, gInt, gAbs, gRepr, gAppend, gInsert, gNeg, gIsT, gIsNotT, gJoin, isi_tup, DL.ne_int, DL.eq_int, DL.eq_str, DL.ne_str, at_0, at_1, at_2, at_3, seqItems, lItems, DL.isNon, endsD, endsM, endsI, setAllD, wipeD, DSt.set, kgG, List.map_cons, List.map_nil, List.cons_append, List.nil_append, List.length_cons, List.length_nil, List.getElem?_cons_zero, List.getElem?_cons_succ, List.set_cons_zero, List.set_cons_succ, List.foldl_cons, List.foldl_nil, if_true, Nat.zero_add, Bool.not_true, Bool.not_false, Bool.false_eq_true, if_false, and_true, true_and]
    refine ⟨l, rfl, fun s hs => ok.n.nn s (lo.s s hs), lo.r, Nat.le_trans lo.z hb, ?_⟩
    simp only [sRet, sSeq, sIf, sSet, sSetM, sNext, sNever, sExpr, sFrz, sX, sPar2, sPar3, sPars, sFor, sAsg, sAug, sSetI, sMk, sRetN, sBreak, sCont, sRetDeal, sFldI, dAndV, dOrV, dNotV, dFn, dFnL, dFnK, dChain, dCB, dCons, dNil, dVarB, dVar, dLit, dOp, dUn, dIf, dB, dNotT, dAndT, dOrT, dYes, dTup, dLst, dSl, dPart, dNoP, dRev, dJoin, dFldC, dMake, dLc, iA, iE, iR1, iR2, vNil, vE, vF, xMut, xMut2E, xE, gdName, gdTup, gdCons, gdNil, gLen, gLt, gLe, gGt, gGe, gCmp, gSl, gSlL, gIx, gI, gIc, gAdd, gLL, gTuple, gList, gSorted, gInt, gAbs, gRepr, gAppend, gInsert, gNeg, gIsT, gIsNotT, gJoin, isi_tup, DL.ne_int, DL.eq_int, DL.eq_str, DL.ne_str, at_0, at_1, at_2, at_3, seqItems, lItems, DL.isNon, endsD, endsM, endsI, setAllD, wipeD, DSt.set, kgG, List.map_cons, List.map_nil, List.cons_append, List.nil_append, List.length_cons, List.length_nil, List.getElem?_cons_zero, List.getElem?_cons_succ, List.set_cons_zero, List.set_cons_succ, List.foldl_cons, List.foldl_nil, if_true, Nat.zero_add, Bool.not_true, Bool.not_false, Bool.false_eq_true, if_false, and_true, true_and]
    exact ⟨l, t.names, rfl, by rw [within_yes lo.s]; exact y⟩
  · simp only [sRet, sSeq, sIf, sSet, sSetM, sNext, sNever, sExpr, sFrz, sX, sPar2, sPar3, sPars, sFor, sAsg, sAug, sSetI, sMk, sRetN, sBreak, sCont, sRetDeal, sFldI, dAndV, dOrV, dNotV, dFn, dFnL, dFnK, dChain, dCB, dCons, dNil, dVarB, dVar, dLit, dOp, dUn, dIf, dB, dNotT, dAndT, dOrT, dYes, dTup, dLst, dSl, dPart, dNoP, dRev, dJoin, dFldC, dMake, dLc, iA, iE, iR1, iR2, vNil, vE, vF, xMut, xMut2E, xE, gdName, gdTup, gdCons, gdNil, gLen, gLt, gLe, gGt, gGe, gCmp, gSl, gSlL, gIx, gI, gIc, gAdd, gLL, gTuple, gList, gSorted, gInt, gAbs, gRepr, gAppend, gInsert, gNeg, gIsT, gIsNotT, gJoin, isi_tup, DL.ne_int, DL.eq_int, DL.eq_str, DL.ne_str, at_0, at_1, at_2, at_3, seqItems, lItems, DL.isNon, endsD, endsM, endsI, setAllD, wipeD, DSt.set, kgG, List.map_cons, List.map_nil, List.cons_append, List.nil_append, List.length_cons, List.length_nil, List.getElem?_cons_zero, List.getElem?_cons_succ, List.set_cons_zero, List.set_cons_succ, List.foldl_cons, List.foldl_nil, if_true, Nat.zero_add, Bool.not_true, Bool.not_false, Bool.false_eq_true, if_false, and_true, true_and]
    have hz : (t.fgs.map lotD).length ≤ 1000 := by rw [List.length_map]; exact Nat.le_trans ok.fz hb
    refine ⟨_, .inl rfl, hz, ok.fr, lots_ok.1, lots_ok.2, ?_⟩
    simp only [sRet, sSeq, sIf, sSet, sSetM, sNext, sNever, sExpr, sFrz, sX, sPar2, sPar3, sPars, sFor, sAsg, sAug, sSetI, sMk, sRetN, sBreak, sCont, sRetDeal, sFldI, dAndV, dOrV, dNotV, dFn, dFnL, dFnK, dChain, dCB, dCons, dNil, dVarB, dVar, dLit, dOp, dUn, dIf, dB, dNotT, dAndT, dOrT, dYes, dTup, dLst, dSl, dPart, dNoP, dRev, dJoin, dFldC, dMake, dLc, iA, iE, iR1, iR2, vNil, vE, vF, xMut, xMut2E, xE, gdName, gdTup, gdCons, gdNil, gLen, gLt, gLe, gGt, gGe, gCmp, gSl, gSlL, gIx, gI, gIc, gAdd, gLL, gTuple, gList, gSorted, gInt, gAbs, gRepr, gAppend, gInsert, gNeg, gIsT, gIsNotT, gJoin, isi_tup, DL.ne_int, DL.eq_int, DL.eq_str, DL.ne_str, at_0, at_1, at_2, at_3, seqItems, lItems, DL.isNon, endsD, endsM, endsI, setAllD, wipeD, DSt.set, kgG, List.map_cons, List.map_nil, List.cons_append, List.nil_append, List.length_cons, List.length_nil, List.getElem?_cons_zero, List.getElem?_cons_succ, List.set_cons_zero, List.set_cons_succ, List.foldl_cons, List.foldl_nil, if_true, Nat.zero_add, Bool.not_true, Bool.not_false, Bool.false_eq_true, if_false, and_true, true_and]
    have nd : (t.fgs.map lotD).Nodup := ok.fr.imp fun {x y} h e => by
      rw [e, ltD_irrefl] at h
      cases h
    exact ⟨t.fgs, rfl, Nat.le_trans ok.fz hb, nd, ok.fa, q⟩
end K67

namespace K67
open PySem PySem.Spec PyProof.Rows L2 DL
theorem p_place_within (ds : List D) (Q : D → Prop) (hl : ds.length = 1) (h : sp_place_within ds Q) : w_place_within (endsD Q fun _ => False) (init 4 ds) := by
  obtain ⟨ls, rfl, hz, nd, an, q⟩ := h
  rw [i_place_within]
  simp only [w_place_within, sRet, sSeq, sIf, sSet, sSetM, sNext, sNever, sExpr, sFrz, sX, sPar2, sPar3, sPars, sFor, sAsg, sAug, sSetI, sMk, sRetN, sBreak, sCont, sRetDeal, sFldI, dAndV, dOrV, dNotV, dFn, dFnL, dFnK, dChain, dCB, dCons, dNil, dVarB, dVar, dLit, dOp, dUn, dIf, dB, dNotT, dAndT, dOrT, dYes, dTup, dLst, dSl, dPart, dNoP, dRev, dJoin, dFldC, dMake, dLc, iA, iE, iR1, iR2, vNil, vE, vF, xMut, xMut2E, xE, gdName, gdTup, gdCons, gdNil, gLen, gLt, gLe, gGt, gGe, gCmp, gSl, gSlL, gIx, gI, gIc, gAdd, gLL, gTuple, gList, gSorted, gInt, gAbs, gRepr, gAppend, gInsert, gNeg, gIsT, gIsNotT, gJoin, isi_tup, DL.ne_int, DL.eq_int, DL.eq_str, DL.ne_str, at_0, at_1, at_2, at_3, seqItems, lItems, DL.isNon, endsD, endsM, endsI, setAllD, wipeD, DSt.set, kgG, List.map_cons, List.map_nil, List.cons_append, List.nil_append, List.length_cons, List.length_nil, List.getElem?_cons_zero, List.getElem?_cons_succ, List.set_cons_zero, List.set_cons_succ, List.foldl_cons, List.foldl_nil, if_true, Nat.zero_add, Bool.not_true, Bool.not_false, Bool.false_eq_true, if_false, and_true, true_and]
  refine for_each (fun st => ∃ x y z, st = ⟨[.val (.tup (ls.map lotD)), x, y, z], none⟩) ⟨_, _, _, rfl⟩ (fun st' h' => ?_) fun d hd st h' k hk => ?_
  · obtain ⟨x, y, z, rfl⟩ := h'
    exact q
  · obtain ⟨x, y, z, rfl⟩ := h'
    obtain ⟨i, x, hx, rfl⟩ := pairs_mem hd
    obtain ⟨hi, e⟩ := List.getElem?_eq_some_iff.mp hx
    have hi' : i < ls.length := by rw [List.length_map] at hi; exact hi
    rw [List.getElem_map] at e
    simp only [sRet, sSeq, sIf, sSet, sSetM, sNext, sNever, sExpr, sFrz, sX, sPar2, sPar3, sPars, sFor, sAsg, sAug, sSetI, sMk, sRetN, sBreak, sCont, sRetDeal, sFldI, dAndV, dOrV, dNotV, dFn, dFnL, dFnK, dChain, dCB, dCons, dNil, dVarB, dVar, dLit, dOp, dUn, dIf, dB, dNotT, dAndT, dOrT, dYes, dTup, dLst, dSl, dPart, dNoP, dRev, dJoin, dFldC, dMake, dLc, iA, iE, iR1, iR2, vNil, vE, vF, xMut, xMut2E, xE, gdName, gdTup, gdCons, gdNil, gLen, gLt, gLe, gGt, gGe, gCmp, gSl, gSlL, gIx, gI, gIc, gAdd, gLL, gTuple, gList, gSorted, gInt, gAbs, gRepr, gAppend, gInsert, gNeg, gIsT, gIsNotT, gJoin, isi_tup, DL.ne_int, DL.eq_int, DL.eq_str, DL.ne_str, at_0, at_1, at_2, at_3, seqItems, lItems, DL.isNon, endsD, endsM, endsI, setAllD, wipeD, DSt.set, kgG, List.map_cons, List.map_nil, List.cons_append, List.nil_append, List.length_cons, List.length_nil, List.getElem?_cons_zero, List.getElem?_cons_succ, List.set_cons_zero, List.set_cons_succ, List.foldl_cons, List.foldl_nil, if_true, Nat.zero_add, Bool.not_true, Bool.not_false, Bool.false_eq_true, if_false, and_true, true_and, cut_take, cut_drop1]
    have sz := sizeLine_v
    refine ⟨by simp only [List.length_take, List.length_drop, List.length_map]; omega, ?_⟩
    rw [← List.map_take, ← List.map_drop, ← List.map_append]
    have ne := rest_ne (xs := ls) (nodup_of_map nd) (List.getElem?_eq_getElem hi')
    refine lc_map (fun _ => .bl false) (fun d hd Y y => ?_) (gAny_no (fun _ _ => rfl) ?_)
    · obtain ⟨m, hm, rfl⟩ := List.mem_map.mp hd
      rw [← e]
      simp only [sRet, sSeq, sIf, sSet, sSetM, sNext, sNever, sExpr, sFrz, sX, sPar2, sPar3, sPars, sFor, sAsg, sAug, sSetI, sMk, sRetN, sBreak, sCont, sRetDeal, sFldI, dAndV, dOrV, dNotV, dFn, dFnL, dFnK, dChain, dCB, dCons, dNil, dVarB, dVar, dLit, dOp, dUn, dIf, dB, dNotT, dAndT, dOrT, dYes, dTup, dLst, dSl, dPart, dNoP, dRev, dJoin, dFldC, dMake, dLc, iA, iE, iR1, iR2, vNil, vE, vF, xMut, xMut2E, xE, gdName, gdTup, gdCons, gdNil, gLen, gLt, gLe, gGt, gGe, gCmp, gSl, gSlL, gIx, gI, gIc, gAdd, gLL, gTuple, gList, gSorted, gInt, gAbs, gRepr, gAppend, gInsert, gNeg, gIsT, gIsNotT, gJoin, isi_tup, DL.ne_int, DL.eq_int, DL.eq_str, DL.ne_str, at_0, at_1, at_2, at_3, seqItems, lItems, DL.isNon, endsD, endsM, endsI, setAllD, wipeD, DSt.set, kgG, List.map_cons, List.map_nil, List.cons_append, List.nil_append, List.length_cons, List.length_nil, List.getElem?_cons_zero, List.getElem?_cons_succ, List.set_cons_zero, List.set_cons_succ, List.foldl_cons, List.foldl_nil, if_true, Nat.zero_add, Bool.not_true, Bool.not_false, Bool.false_eq_true, if_false, and_true, true_and]
      refine ⟨ls[i], m, rfl, ?_⟩
      have e2 : ((ls[i]).all fun x => decide (x ∈ m)) = false := by
        cases q : ((ls[i]).all fun x => decide (x ∈ m)) with
        | false => rfl
        | true =>
          rw [List.all_eq_true] at q
          have mm : m ∈ ls := by
            rcases List.mem_append.mp hm with h1 | h1
            · exact List.mem_of_mem_take h1
            · exact List.mem_of_mem_drop h1
          have := an _ (List.getElem_mem hi') m mm fun x hx => of_decide_eq_true (q x hx)
          exact absurd this.symm (ne m hm)
      rw [e2]
      exact y
    · simp only [sRet, sSeq, sIf, sSet, sSetM, sNext, sNever, sExpr, sFrz, sX, sPar2, sPar3, sPars, sFor, sAsg, sAug, sSetI, sMk, sRetN, sBreak, sCont, sRetDeal, sFldI, dAndV, dOrV, dNotV, dFn, dFnL, dFnK, dChain, dCB, dCons, dNil, dVarB, dVar, dLit, dOp, dUn, dIf, dB, dNotT, dAndT, dOrT, dYes, dTup, dLst, dSl, dPart, dNoP, dRev, dJoin, dFldC, dMake, dLc, iA, iE, iR1, iR2, vNil, vE, vF, xMut, xMut2E, xE, gdName, gdTup, gdCons, gdNil, gLen, gLt, gLe, gGt, gGe, gCmp, gSl, gSlL, gIx, gI, gIc, gAdd, gLL, gTuple, gList, gSorted, gInt, gAbs, gRepr, gAppend, gInsert, gNeg, gIsT, gIsNotT, gJoin, isi_tup, DL.ne_int, DL.eq_int, DL.eq_str, DL.ne_str, at_0, at_1, at_2, at_3, seqItems, lItems, DL.isNon, endsD, endsM, endsI, setAllD, wipeD, DSt.set, kgG, List.map_cons, List.map_nil, List.cons_append, List.nil_append, List.length_cons, List.length_nil, List.getElem?_cons_zero, List.getElem?_cons_succ, List.set_cons_zero, List.set_cons_succ, List.foldl_cons, List.foldl_nil, if_true, Nat.zero_add, Bool.not_true, Bool.not_false, Bool.false_eq_true, if_false, and_true, true_and]
      exact hk _ ⟨_, _, _, rfl⟩
theorem p_Offices_init (C : Addr) (ds : List D) (Q : List (Str × D) → Prop) (hl : ds.length + 1 = 5) (h : sp_Offices_init ds Q) : w_Offices_init C (endsI C Q) (initI 5 C ds) := by
  obtain ⟨t, b, ok, hb, rfl, q⟩ := h
  rw [i_Offices_init]
  simp only [w_Offices_init, sRet, sSeq, sIf, sSet, sSetM, sNext, sNever, sExpr, sFrz, sX, sPar2, sPar3, sPars, sFor, sAsg, sAug, sSetI, sMk, sRetN, sBreak, sCont, sRetDeal, sFldI, dAndV, dOrV, dNotV, dFn, dFnL, dFnK, dChain, dCB, dCons, dNil, dVarB, dVar, dLit, dOp, dUn, dIf, dB, dNotT, dAndT, dOrT, dYes, dTup, dLst, dSl, dPart, dNoP, dRev, dJoin, dFldC, dMake, dLc, iA, iE, iR1, iR2, vNil, vE, vF, xMut, xMut2E, xE, gdName, gdTup, gdCons, gdNil, gLen, gLt, gLe, gGt, gGe, gCmp, gSl, gSlL, gIx, gI, gIc, gAdd, gLL, gTuple, gList, gSorted, gInt, gAbs, gRepr, gAppend, gInsert, gNeg, gIsT, gIsNotT, gJoin, isi_tup, DL.ne_int, DL.eq_int, DL.eq_str, DL.ne_str, at_0, at_1, at_2, at_3, seqItems, lItems, DL.isNon, endsD, endsM, endsI, setAllD, wipeD, DSt.set, kgG, List.map_cons, List.map_nil, List.cons_append, List.nil_append, List.length_cons, List.length_nil, List.getElem?_cons_zero, List.getElem?_cons_succ, List.set_cons_zero, List.set_cons_succ, List.foldl_cons, List.foldl_nil, if_true, Nat.zero_add, Bool.not_true, Bool.not_false, Bool.false_eq_true, if_false, and_true, true_and]
  refine ⟨t.names, rfl, ok.n.nn, ok.n.nr, by have := ok.n.n6; omega, ?_⟩
  simp only [lotD, sRet, sSeq, sIf, sSet, sSetM, sNext, sNever, sExpr, sFrz, sX, sPar2, sPar3, sPars, sFor, sAsg, sAug, sSetI, sMk, sRetN, sBreak, sCont, sRetDeal, sFldI, dAndV, dOrV, dNotV, dFn, dFnL, dFnK, dChain, dCB, dCons, dNil, dVarB, dVar, dLit, dOp, dUn, dIf, dB, dNotT, dAndT, dOrT, dYes, dTup, dLst, dSl, dPart, dNoP, dRev, dJoin, dFldC, dMake, dLc, iA, iE, iR1, iR2, vNil, vE, vF, xMut, xMut2E, xE, gdName, gdTup, gdCons, gdNil, gLen, gLt, gLe, gGt, gGe, gCmp, gSl, gSlL, gIx, gI, gIc, gAdd, gLL, gTuple, gList, gSorted, gInt, gAbs, gRepr, gAppend, gInsert, gNeg, gIsT, gIsNotT, gJoin, isi_tup, DL.ne_int, DL.eq_int, DL.eq_str, DL.ne_str, at_0, at_1, at_2, at_3, seqItems, lItems, DL.isNon, endsD, endsM, endsI, setAllD, wipeD, DSt.set, kgG, List.map_cons, List.map_nil, List.cons_append, List.nil_append, List.length_cons, List.length_nil, List.getElem?_cons_zero, List.getElem?_cons_succ, List.set_cons_zero, List.set_cons_succ, List.foldl_cons, List.foldl_nil, if_true, Nat.zero_add, Bool.not_true, Bool.not_false, Bool.false_eq_true, if_false, and_true, true_and]
  have l1 : decide ((1 : Int) ≤ ((t.names.map D.str).length : Int)) = true := decide_eq_true (by rw [List.length_map]; have := ok.n.n1; omega)
  have l2 : decide (((t.names.map D.str).length : Int) ≤ 6) = true := decide_eq_true (by rw [List.length_map]; have := ok.n.n6; omega)
  simp only [l1, l2, sRet, sSeq, sIf, sSet, sSetM, sNext, sNever, sExpr, sFrz, sX, sPar2, sPar3, sPars, sFor, sAsg, sAug, sSetI, sMk, sRetN, sBreak, sCont, sRetDeal, sFldI, dAndV, dOrV, dNotV, dFn, dFnL, dFnK, dChain, dCB, dCons, dNil, dVarB, dVar, dLit, dOp, dUn, dIf, dB, dNotT, dAndT, dOrT, dYes, dTup, dLst, dSl, dPart, dNoP, dRev, dJoin, dFldC, dMake, dLc, iA, iE, iR1, iR2, vNil, vE, vF, xMut, xMut2E, xE, gdName, gdTup, gdCons, gdNil, gLen, gLt, gLe, gGt, gGe, gCmp, gSl, gSlL, gIx, gI, gIc, gAdd, gLL, gTuple, gList, gSorted, gInt, gAbs, gRepr, gAppend, gInsert, gNeg, gIsT, gIsNotT, gJoin, isi_tup, DL.ne_int, DL.eq_int, DL.eq_str, DL.ne_str, at_0, at_1, at_2, at_3, seqItems, lItems, DL.isNon, endsD, endsM, endsI, setAllD, wipeD, DSt.set, kgG, List.map_cons, List.map_nil, List.cons_append, List.nil_append, List.length_cons, List.length_nil, List.getElem?_cons_zero, List.getElem?_cons_succ, List.set_cons_zero, List.set_cons_succ, List.foldl_cons, List.foldl_nil, if_true, Nat.zero_add, Bool.not_true, Bool.not_false, Bool.false_eq_true, if_false, and_true, true_and]
  refine ⟨t, b, ok, hb, rfl, ?_⟩
  simp only [sRet, sSeq, sIf, sSet, sSetM, sNext, sNever, sExpr, sFrz, sX, sPar2, sPar3, sPars, sFor, sAsg, sAug, sSetI, sMk, sRetN, sBreak, sCont, sRetDeal, sFldI, dAndV, dOrV, dNotV, dFn, dFnL, dFnK, dChain, dCB, dCons, dNil, dVarB, dVar, dLit, dOp, dUn, dIf, dB, dNotT, dAndT, dOrT, dYes, dTup, dLst, dSl, dPart, dNoP, dRev, dJoin, dFldC, dMake, dLc, iA, iE, iR1, iR2, vNil, vE, vF, xMut, xMut2E, xE, gdName, gdTup, gdCons, gdNil, gLen, gLt, gLe, gGt, gGe, gCmp, gSl, gSlL, gIx, gI, gIc, gAdd, gLL, gTuple, gList, gSorted, gInt, gAbs, gRepr, gAppend, gInsert, gNeg, gIsT, gIsNotT, gJoin, isi_tup, DL.ne_int, DL.eq_int, DL.eq_str, DL.ne_str, at_0, at_1, at_2, at_3, seqItems, lItems, DL.isNon, endsD, endsM, endsI, setAllD, wipeD, DSt.set, kgG, List.map_cons, List.map_nil, List.cons_append, List.nil_append, List.length_cons, List.length_nil, List.getElem?_cons_zero, List.getElem?_cons_succ, List.set_cons_zero, List.set_cons_succ, List.foldl_cons, List.foldl_nil, if_true, Nat.zero_add, Bool.not_true, Bool.not_false, Bool.false_eq_true, if_false, and_true, true_and]
  refine ⟨t, b, ok, hb, rfl, ?_⟩
  simp only [sRet, sSeq, sIf, sSet, sSetM, sNext, sNever, sExpr, sFrz, sX, sPar2, sPar3, sPars, sFor, sAsg, sAug, sSetI, sMk, sRetN, sBreak, sCont, sRetDeal, sFldI, dAndV, dOrV, dNotV, dFn, dFnL, dFnK, dChain, dCB, dCons, dNil, dVarB, dVar, dLit, dOp, dUn, dIf, dB, dNotT, dAndT, dOrT, dYes, dTup, dLst, dSl, dPart, dNoP, dRev, dJoin, dFldC, dMake, dLc, iA, iE, iR1, iR2, vNil, vE, vF, xMut, xMut2E, xE, gdName, gdTup, gdCons, gdNil, gLen, gLt, gLe, gGt, gGe, gCmp, gSl, gSlL, gIx, gI, gIc, gAdd, gLL, gTuple, gList, gSorted, gInt, gAbs, gRepr, gAppend, gInsert, gNeg, gIsT, gIsNotT, gJoin, isi_tup, DL.ne_int, DL.eq_int, DL.eq_str, DL.ne_str, at_0, at_1, at_2, at_3, seqItems, lItems, DL.isNon, endsD, endsM, endsI, setAllD, wipeD, DSt.set, kgG, List.map_cons, List.map_nil, List.cons_append, List.nil_append, List.length_cons, List.length_nil, List.getElem?_cons_zero, List.getElem?_cons_succ, List.set_cons_zero, List.set_cons_succ, List.foldl_cons, List.foldl_nil, if_true, Nat.zero_add, Bool.not_true, Bool.not_false, Bool.false_eq_true, if_false, and_true, true_and]
  refine ⟨t, b, ok, hb, rfl, ?_⟩
  simp only [sRet, sSeq, sIf, sSet, sSetM, sNext, sNever, sExpr, sFrz, sX, sPar2, sPar3, sPars, sFor, sAsg, sAug, sSetI, sMk, sRetN, sBreak, sCont, sRetDeal, sFldI, dAndV, dOrV, dNotV, dFn, dFnL, dFnK, dChain, dCB, dCons, dNil, dVarB, dVar, dLit, dOp, dUn, dIf, dB, dNotT, dAndT, dOrT, dYes, dTup, dLst, dSl, dPart, dNoP, dRev, dJoin, dFldC, dMake, dLc, iA, iE, iR1, iR2, vNil, vE, vF, xMut, xMut2E, xE, gdName, gdTup, gdCons, gdNil, gLen, gLt, gLe, gGt, gGe, gCmp, gSl, gSlL, gIx, gI, gIc, gAdd, gLL, gTuple, gList, gSorted, gInt, gAbs, gRepr, gAppend, gInsert, gNeg, gIsT, gIsNotT, gJoin, isi_tup, DL.ne_int, DL.eq_int, DL.eq_str, DL.ne_str, at_0, at_1, at_2, at_3, seqItems, lItems, DL.isNon, endsD, endsM, endsI, setAllD, wipeD, DSt.set, kgG, List.map_cons, List.map_nil, List.cons_append, List.nil_append, List.length_cons, List.length_nil, List.getElem?_cons_zero, List.getElem?_cons_succ, List.set_cons_zero, List.set_cons_succ, List.foldl_cons, List.foldl_nil, if_true, Nat.zero_add, Bool.not_true, Bool.not_false, Bool.false_eq_true, if_false, and_true, true_and]
  have len : ∀ (n : Str) (d : D) (fs : List (Str × D)) (k : Nat), fs.length ≤ k → (putD n d fs).length ≤ k + 1 := fun n d fs k hk => Nat.le_trans (putD_len n d fs) (by omega)
  have a1 := len "names" (D.tup (t.names.map D.str)) [] 0 (Nat.le_refl _)
  have a2 := len "tells" (D.tup (t.tells.map pairD)) _ _ a1
  have a3 := len "counters" (D.tup (t.cnts.map cntD)) _ _ a2
  exact ⟨by decide, by omega, by omega, by omega, _, rfl, q⟩
theorem f_tells {a b c d : D} : List.lookup ("tells" : Str) [(("names" : Str), a), (("tells" : Str), b), (("counters" : Str), c), (("forgets" : Str), d)] = some b := rfl
theorem f_cnts {a b c d : D} : List.lookup ("counters" : Str) [(("names" : Str), a), (("tells" : Str), b), (("counters" : Str), c), (("forgets" : Str), d)] = some c := rfl
theorem f_fgs {a b c d : D} : List.lookup ("forgets" : Str) [(("names" : Str), a), (("tells" : Str), b), (("counters" : Str), c), (("forgets" : Str), d)] = some d := rfl
theorem p_office_hears (C : Addr) (ds : List D) (Q : D → Prop) (hl : ds.length = 4) (h : sp_office_hears C ds Q) : w_office_hears C (endsD Q fun _ => False) (init 5 ds) := by
  obtain ⟨t, lot, gone, o, rfl, q⟩ := h
  rw [i_office_hears]
  unfold hears at q
  simp only [w_office_hears, offD, sRet, sSeq, sIf, sSet, sSetM, sNext, sNever, sExpr, sFrz, sX, sPar2, sPar3, sPars, sFor, sAsg, sAug, sSetI, sMk, sRetN, sBreak, sCont, sRetDeal, sFldI, dAndV, dOrV, dNotV, dFn, dFnL, dFnK, dChain, dCB, dCons, dNil, dVarB, dVar, dLit, dOp, dUn, dIf, dB, dNotT, dAndT, dOrT, dYes, dTup, dLst, dSl, dPart, dNoP, dRev, dJoin, dFldC, dMake, dLc, iA, iE, iR1, iR2, vNil, vE, vF, xMut, xMut2E, xE, gdName, gdTup, gdCons, gdNil, gLen, gLt, gLe, gGt, gGe, gCmp, gSl, gSlL, gIx, gI, gIc, gAdd, gLL, gTuple, gList, gSorted, gInt, gAbs, gRepr, gAppend, gInsert, gNeg, gIsT, gIsNotT, gJoin, isi_tup, DL.ne_int, DL.eq_int, DL.eq_str, DL.ne_str, at_0, at_1, at_2, at_3, seqItems, lItems, DL.isNon, endsD, endsM, endsI, setAllD, wipeD, DSt.set, kgG, List.map_cons, List.map_nil, List.cons_append, List.nil_append, List.length_cons, List.length_nil, List.getElem?_cons_zero, List.getElem?_cons_succ, List.set_cons_zero, List.set_cons_succ, List.foldl_cons, List.foldl_nil, if_true, Nat.zero_add, Bool.not_true, Bool.not_false, Bool.false_eq_true, if_false, and_true, true_and]
  refine in_lot (neg := false) ?_
  by_cases h1 : o ∈ gone
  · simp only [decide_eq_true h1, sRet, sSeq, sIf, sSet, sSetM, sNext, sNever, sExpr, sFrz, sX, sPar2, sPar3, sPars, sFor, sAsg, sAug, sSetI, sMk, sRetN, sBreak, sCont, sRetDeal, sFldI, dAndV, dOrV, dNotV, dFn, dFnL, dFnK, dChain, dCB, dCons, dNil, dVarB, dVar, dLit, dOp, dUn, dIf, dB, dNotT, dAndT, dOrT, dYes, dTup, dLst, dSl, dPart, dNoP, dRev, dJoin, dFldC, dMake, dLc, iA, iE, iR1, iR2, vNil, vE, vF, xMut, xMut2E, xE, gdName, gdTup, gdCons, gdNil, gLen, gLt, gLe, gGt, gGe, gCmp, gSl, gSlL, gIx, gI, gIc, gAdd, gLL, gTuple, gList, gSorted, gInt, gAbs, gRepr, gAppend, gInsert, gNeg, gIsT, gIsNotT, gJoin, isi_tup, DL.ne_int, DL.eq_int, DL.eq_str, DL.ne_str, at_0, at_1, at_2, at_3, seqItems, lItems, DL.isNon, endsD, endsM, endsI, setAllD, wipeD, DSt.set, kgG, List.map_cons, List.map_nil, List.cons_append, List.nil_append, List.length_cons, List.length_nil, List.getElem?_cons_zero, List.getElem?_cons_succ, List.set_cons_zero, List.set_cons_succ, List.foldl_cons, List.foldl_nil, if_true, Nat.zero_add, Bool.not_true, Bool.not_false, Bool.false_eq_true, if_false, and_true, true_and]
    simp [h1] at q
    exact q
  · simp only [decide_eq_false h1, sRet, sSeq, sIf, sSet, sSetM, sNext, sNever, sExpr, sFrz, sX, sPar2, sPar3, sPars, sFor, sAsg, sAug, sSetI, sMk, sRetN, sBreak, sCont, sRetDeal, sFldI, dAndV, dOrV, dNotV, dFn, dFnL, dFnK, dChain, dCB, dCons, dNil, dVarB, dVar, dLit, dOp, dUn, dIf, dB, dNotT, dAndT, dOrT, dYes, dTup, dLst, dSl, dPart, dNoP, dRev, dJoin, dFldC, dMake, dLc, iA, iE, iR1, iR2, vNil, vE, vF, xMut, xMut2E, xE, gdName, gdTup, gdCons, gdNil, gLen, gLt, gLe, gGt, gGe, gCmp, gSl, gSlL, gIx, gI, gIc, gAdd, gLL, gTuple, gList, gSorted, gInt, gAbs, gRepr, gAppend, gInsert, gNeg, gIsT, gIsNotT, gJoin, isi_tup, DL.ne_int, DL.eq_int, DL.eq_str, DL.ne_str, at_0, at_1, at_2, at_3, seqItems, lItems, DL.isNon, endsD, endsM, endsI, setAllD, wipeD, DSt.set, kgG, List.map_cons, List.map_nil, List.cons_append, List.nil_append, List.length_cons, List.length_nil, List.getElem?_cons_zero, List.getElem?_cons_succ, List.set_cons_zero, List.set_cons_succ, List.foldl_cons, List.foldl_nil, if_true, Nat.zero_add, Bool.not_true, Bool.not_false, Bool.false_eq_true, if_false, and_true, true_and]
    refine in_lot (neg := false) ?_
    by_cases h2 : o ∈ lot
    · simp only [decide_eq_true h2, sRet, sSeq, sIf, sSet, sSetM, sNext, sNever, sExpr, sFrz, sX, sPar2, sPar3, sPars, sFor, sAsg, sAug, sSetI, sMk, sRetN, sBreak, sCont, sRetDeal, sFldI, dAndV, dOrV, dNotV, dFn, dFnL, dFnK, dChain, dCB, dCons, dNil, dVarB, dVar, dLit, dOp, dUn, dIf, dB, dNotT, dAndT, dOrT, dYes, dTup, dLst, dSl, dPart, dNoP, dRev, dJoin, dFldC, dMake, dLc, iA, iE, iR1, iR2, vNil, vE, vF, xMut, xMut2E, xE, gdName, gdTup, gdCons, gdNil, gLen, gLt, gLe, gGt, gGe, gCmp, gSl, gSlL, gIx, gI, gIc, gAdd, gLL, gTuple, gList, gSorted, gInt, gAbs, gRepr, gAppend, gInsert, gNeg, gIsT, gIsNotT, gJoin, isi_tup, DL.ne_int, DL.eq_int, DL.eq_str, DL.ne_str, at_0, at_1, at_2, at_3, seqItems, lItems, DL.isNon, endsD, endsM, endsI, setAllD, wipeD, DSt.set, kgG, List.map_cons, List.map_nil, List.cons_append, List.nil_append, List.length_cons, List.length_nil, List.getElem?_cons_zero, List.getElem?_cons_succ, List.set_cons_zero, List.set_cons_succ, List.foldl_cons, List.foldl_nil, if_true, Nat.zero_add, Bool.not_true, Bool.not_false, Bool.false_eq_true, if_false, and_true, true_and]
      simp [h1, h2] at q
      exact q
    · simp only [decide_eq_false h2, lotD, sRet, sSeq, sIf, sSet, sSetM, sNext, sNever, sExpr, sFrz, sX, sPar2, sPar3, sPars, sFor, sAsg, sAug, sSetI, sMk, sRetN, sBreak, sCont, sRetDeal, sFldI, dAndV, dOrV, dNotV, dFn, dFnL, dFnK, dChain, dCB, dCons, dNil, dVarB, dVar, dLit, dOp, dUn, dIf, dB, dNotT, dAndT, dOrT, dYes, dTup, dLst, dSl, dPart, dNoP, dRev, dJoin, dFldC, dMake, dLc, iA, iE, iR1, iR2, vNil, vE, vF, xMut, xMut2E, xE, gdName, gdTup, gdCons, gdNil, gLen, gLt, gLe, gGt, gGe, gCmp, gSl, gSlL, gIx, gI, gIc, gAdd, gLL, gTuple, gList, gSorted, gInt, gAbs, gRepr, gAppend, gInsert, gNeg, gIsT, gIsNotT, gJoin, isi_tup, DL.ne_int, DL.eq_int, DL.eq_str, DL.ne_str, at_0, at_1, at_2, at_3, seqItems, lItems, DL.isNon, endsD, endsM, endsI, setAllD, wipeD, DSt.set, kgG, List.map_cons, List.map_nil, List.cons_append, List.nil_append, List.length_cons, List.length_nil, List.getElem?_cons_zero, List.getElem?_cons_succ, List.set_cons_zero, List.set_cons_succ, List.foldl_cons, List.foldl_nil, if_true, Nat.zero_add, Bool.not_true, Bool.not_false, Bool.false_eq_true, if_false, and_true, true_and]
      refine lc_map (fun d => match d with
        | .str x => .bl (decide (x ∉ gone) && decide ((x, o) ∈ t.tells))
        | _ => .non) (fun d hd Y y => ?_) ?_
      · obtain ⟨x, hx, rfl⟩ := List.mem_map.mp hd
        simp only [sRet, sSeq, sIf, sSet, sSetM, sNext, sNever, sExpr, sFrz, sX, sPar2, sPar3, sPars, sFor, sAsg, sAug, sSetI, sMk, sRetN, sBreak, sCont, sRetDeal, sFldI, dAndV, dOrV, dNotV, dFn, dFnL, dFnK, dChain, dCB, dCons, dNil, dVarB, dVar, dLit, dOp, dUn, dIf, dB, dNotT, dAndT, dOrT, dYes, dTup, dLst, dSl, dPart, dNoP, dRev, dJoin, dFldC, dMake, dLc, iA, iE, iR1, iR2, vNil, vE, vF, xMut, xMut2E, xE, gdName, gdTup, gdCons, gdNil, gLen, gLt, gLe, gGt, gGe, gCmp, gSl, gSlL, gIx, gI, gIc, gAdd, gLL, gTuple, gList, gSorted, gInt, gAbs, gRepr, gAppend, gInsert, gNeg, gIsT, gIsNotT, gJoin, isi_tup, DL.ne_int, DL.eq_int, DL.eq_str, DL.ne_str, at_0, at_1, at_2, at_3, seqItems, lItems, DL.isNon, endsD, endsM, endsI, setAllD, wipeD, DSt.set, kgG, List.map_cons, List.map_nil, List.cons_append, List.nil_append, List.length_cons, List.length_nil, List.getElem?_cons_zero, List.getElem?_cons_succ, List.set_cons_zero, List.set_cons_succ, List.foldl_cons, List.foldl_nil, if_true, Nat.zero_add, Bool.not_true, Bool.not_false, Bool.false_eq_true, if_false, and_true, true_and]
        refine in_lot (neg := true) ?_
        by_cases h3 : x ∈ gone
        · simp only [decide_eq_true h3, sRet, sSeq, sIf, sSet, sSetM, sNext, sNever, sExpr, sFrz, sX, sPar2, sPar3, sPars, sFor, sAsg, sAug, sSetI, sMk, sRetN, sBreak, sCont, sRetDeal, sFldI, dAndV, dOrV, dNotV, dFn, dFnL, dFnK, dChain, dCB, dCons, dNil, dVarB, dVar, dLit, dOp, dUn, dIf, dB, dNotT, dAndT, dOrT, dYes, dTup, dLst, dSl, dPart, dNoP, dRev, dJoin, dFldC, dMake, dLc, iA, iE, iR1, iR2, vNil, vE, vF, xMut, xMut2E, xE, gdName, gdTup, gdCons, gdNil, gLen, gLt, gLe, gGt, gGe, gCmp, gSl, gSlL, gIx, gI, gIc, gAdd, gLL, gTuple, gList, gSorted, gInt, gAbs, gRepr, gAppend, gInsert, gNeg, gIsT, gIsNotT, gJoin, isi_tup, DL.ne_int, DL.eq_int, DL.eq_str, DL.ne_str, at_0, at_1, at_2, at_3, seqItems, lItems, DL.isNon, endsD, endsM, endsI, setAllD, wipeD, DSt.set, kgG, List.map_cons, List.map_nil, List.cons_append, List.nil_append, List.length_cons, List.length_nil, List.getElem?_cons_zero, List.getElem?_cons_succ, List.set_cons_zero, List.set_cons_succ, List.foldl_cons, List.foldl_nil, if_true, Nat.zero_add, Bool.not_true, Bool.not_false, Bool.false_eq_true, if_false, and_true, true_and]
          simp [h3] at y
          exact y
        · simp only [decide_eq_false h3, sRet, sSeq, sIf, sSet, sSetM, sNext, sNever, sExpr, sFrz, sX, sPar2, sPar3, sPars, sFor, sAsg, sAug, sSetI, sMk, sRetN, sBreak, sCont, sRetDeal, sFldI, dAndV, dOrV, dNotV, dFn, dFnL, dFnK, dChain, dCB, dCons, dNil, dVarB, dVar, dLit, dOp, dUn, dIf, dB, dNotT, dAndT, dOrT, dYes, dTup, dLst, dSl, dPart, dNoP, dRev, dJoin, dFldC, dMake, dLc, iA, iE, iR1, iR2, vNil, vE, vF, xMut, xMut2E, xE, gdName, gdTup, gdCons, gdNil, gLen, gLt, gLe, gGt, gGe, gCmp, gSl, gSlL, gIx, gI, gIc, gAdd, gLL, gTuple, gList, gSorted, gInt, gAbs, gRepr, gAppend, gInsert, gNeg, gIsT, gIsNotT, gJoin, isi_tup, DL.ne_int, DL.eq_int, DL.eq_str, DL.ne_str, at_0, at_1, at_2, at_3, seqItems, lItems, DL.isNon, endsD, endsM, endsI, setAllD, wipeD, DSt.set, kgG, List.map_cons, List.map_nil, List.cons_append, List.nil_append, List.length_cons, List.length_nil, List.getElem?_cons_zero, List.getElem?_cons_succ, List.set_cons_zero, List.set_cons_succ, List.foldl_cons, List.foldl_nil, if_true, Nat.zero_add, Bool.not_true, Bool.not_false, Bool.false_eq_true, if_false, and_true, true_and, f_tells]
          refine ⟨by decide, in_pairs (x := (x, o)) (neg := false) ?_⟩
          simp [h3] at y
          exact y
      · rw [List.map_map]
        refine gAny_map (fun x => decide (x ∉ gone) && decide ((x, o) ∈ t.tells)) (fun x _ => rfl) ?_
        simp [h1, h2] at q ⊢
        exact q
theorem p_ask_known (C : Addr) (ds : List D) (Q : D → Prop) (hl : ds.length = 4) (h : sp_ask_known C ds Q) : w_ask_known C (endsD Q fun _ => False) (init 5 ds) := by
  obtain ⟨t, lot, other, gone, rfl, q⟩ := h
  rw [i_ask_known]
  simp only [w_ask_known, lotD, sRet, sSeq, sIf, sSet, sSetM, sNext, sNever, sExpr, sFrz, sX, sPar2, sPar3, sPars, sFor, sAsg, sAug, sSetI, sMk, sRetN, sBreak, sCont, sRetDeal, sFldI, dAndV, dOrV, dNotV, dFn, dFnL, dFnK, dChain, dCB, dCons, dNil, dVarB, dVar, dLit, dOp, dUn, dIf, dB, dNotT, dAndT, dOrT, dYes, dTup, dLst, dSl, dPart, dNoP, dRev, dJoin, dFldC, dMake, dLc, iA, iE, iR1, iR2, vNil, vE, vF, xMut, xMut2E, xE, gdName, gdTup, gdCons, gdNil, gLen, gLt, gLe, gGt, gGe, gCmp, gSl, gSlL, gIx, gI, gIc, gAdd, gLL, gTuple, gList, gSorted, gInt, gAbs, gRepr, gAppend, gInsert, gNeg, gIsT, gIsNotT, gJoin, isi_tup, DL.ne_int, DL.eq_int, DL.eq_str, DL.ne_str, at_0, at_1, at_2, at_3, seqItems, lItems, DL.isNon, endsD, endsM, endsI, setAllD, wipeD, DSt.set, kgG, List.map_cons, List.map_nil, List.cons_append, List.nil_append, List.length_cons, List.length_nil, List.getElem?_cons_zero, List.getElem?_cons_succ, List.set_cons_zero, List.set_cons_succ, List.foldl_cons, List.foldl_nil, if_true, Nat.zero_add, Bool.not_true, Bool.not_false, Bool.false_eq_true, if_false, and_true, true_and]
  refine lc_map (fun d => match d with
    | .str x => .bl (hears t lot x gone)
    | _ => .non) (fun d hd Y y => ?_) ?_
  · obtain ⟨x, hx, rfl⟩ := List.mem_map.mp hd
    simp only [sRet, sSeq, sIf, sSet, sSetM, sNext, sNever, sExpr, sFrz, sX, sPar2, sPar3, sPars, sFor, sAsg, sAug, sSetI, sMk, sRetN, sBreak, sCont, sRetDeal, sFldI, dAndV, dOrV, dNotV, dFn, dFnL, dFnK, dChain, dCB, dCons, dNil, dVarB, dVar, dLit, dOp, dUn, dIf, dB, dNotT, dAndT, dOrT, dYes, dTup, dLst, dSl, dPart, dNoP, dRev, dJoin, dFldC, dMake, dLc, iA, iE, iR1, iR2, vNil, vE, vF, xMut, xMut2E, xE, gdName, gdTup, gdCons, gdNil, gLen, gLt, gLe, gGt, gGe, gCmp, gSl, gSlL, gIx, gI, gIc, gAdd, gLL, gTuple, gList, gSorted, gInt, gAbs, gRepr, gAppend, gInsert, gNeg, gIsT, gIsNotT, gJoin, isi_tup, DL.ne_int, DL.eq_int, DL.eq_str, DL.ne_str, at_0, at_1, at_2, at_3, seqItems, lItems, DL.isNon, endsD, endsM, endsI, setAllD, wipeD, DSt.set, kgG, List.map_cons, List.map_nil, List.cons_append, List.nil_append, List.length_cons, List.length_nil, List.getElem?_cons_zero, List.getElem?_cons_succ, List.set_cons_zero, List.set_cons_succ, List.foldl_cons, List.foldl_nil, if_true, Nat.zero_add, Bool.not_true, Bool.not_false, Bool.false_eq_true, if_false, and_true, true_and]
    exact ⟨t, lot, gone, x, rfl, y⟩
  · rw [List.map_map]
    exact gAny_map (fun x => hears t lot x gone) (fun x _ => rfl) q
theorem filter_map {α : Type} {f : α → D} (p : α → Bool) (p' : D → Bool) (h : ∀ a, p' (f a) = p a) : ∀ l : List α, (l.map f).filter p' = (l.filter p).map f
  | [] => rfl
  | a :: l => by
    rw [List.map_cons, List.filter_cons, List.filter_cons, h, filter_map p p' h l]
    cases p a <;> rfl
/-- the lot of data -/
def lotOf : D → List Str
  | .tup xs => xs.filterMap fun x => match x with
    | .str s => some s
    | _ => none
  | _ => []
theorem lotOf_lot (l : List Str) : lotOf (lotD l) = l := by
  unfold lotD lotOf
  simp only []
  induction l with
  | nil => rfl
  | cons a l ih => rw [List.map_cons, List.filterMap_cons]; simp only [ih]
theorem p_deaf_to (C : Addr) (ds : List D) (Q : D → Prop) (hl : ds.length = 3) (h : sp_deaf_to C ds Q) : w_deaf_to C (endsD Q fun _ => False) (init 4 ds) := by
  obtain ⟨t, lot, other, rfl, q⟩ := h
  rw [i_deaf_to]
  simp only [w_deaf_to, offD, sRet, sSeq, sIf, sSet, sSetM, sNext, sNever, sExpr, sFrz, sX, sPar2, sPar3, sPars, sFor, sAsg, sAug, sSetI, sMk, sRetN, sBreak, sCont, sRetDeal, sFldI, dAndV, dOrV, dNotV, dFn, dFnL, dFnK, dChain, dCB, dCons, dNil, dVarB, dVar, dLit, dOp, dUn, dIf, dB, dNotT, dAndT, dOrT, dYes, dTup, dLst, dSl, dPart, dNoP, dRev, dJoin, dFldC, dMake, dLc, iA, iE, iR1, iR2, vNil, vE, vF, xMut, xMut2E, xE, gdName, gdTup, gdCons, gdNil, gLen, gLt, gLe, gGt, gGe, gCmp, gSl, gSlL, gIx, gI, gIc, gAdd, gLL, gTuple, gList, gSorted, gInt, gAbs, gRepr, gAppend, gInsert, gNeg, gIsT, gIsNotT, gJoin, isi_tup, DL.ne_int, DL.eq_int, DL.eq_str, DL.ne_str, at_0, at_1, at_2, at_3, seqItems, lItems, DL.isNon, endsD, endsM, endsI, setAllD, wipeD, DSt.set, kgG, List.map_cons, List.map_nil, List.cons_append, List.nil_append, List.length_cons, List.length_nil, List.getElem?_cons_zero, List.getElem?_cons_succ, List.set_cons_zero, List.set_cons_succ, List.foldl_cons, List.foldl_nil, if_true, Nat.zero_add, Bool.not_true, Bool.not_false, Bool.false_eq_true, if_false, and_true, true_and, f_fgs]
  refine lc_det (fun d => !known t lot other (lotOf d)) (fun d => d) (fun d hd Y Z y z => ?_) ?_
  · obtain ⟨g, hg, rfl⟩ := List.mem_map.mp hd
    rw [lotOf_lot] at y z
    simp only [sRet, sSeq, sIf, sSet, sSetM, sNext, sNever, sExpr, sFrz, sX, sPar2, sPar3, sPars, sFor, sAsg, sAug, sSetI, sMk, sRetN, sBreak, sCont, sRetDeal, sFldI, dAndV, dOrV, dNotV, dFn, dFnL, dFnK, dChain, dCB, dCons, dNil, dVarB, dVar, dLit, dOp, dUn, dIf, dB, dNotT, dAndT, dOrT, dYes, dTup, dLst, dSl, dPart, dNoP, dRev, dJoin, dFldC, dMake, dLc, iA, iE, iR1, iR2, vNil, vE, vF, xMut, xMut2E, xE, gdName, gdTup, gdCons, gdNil, gLen, gLt, gLe, gGt, gGe, gCmp, gSl, gSlL, gIx, gI, gIc, gAdd, gLL, gTuple, gList, gSorted, gInt, gAbs, gRepr, gAppend, gInsert, gNeg, gIsT, gIsNotT, gJoin, isi_tup, DL.ne_int, DL.eq_int, DL.eq_str, DL.ne_str, at_0, at_1, at_2, at_3, seqItems, lItems, DL.isNon, endsD, endsM, endsI, setAllD, wipeD, DSt.set, kgG, List.map_cons, List.map_nil, List.cons_append, List.nil_append, List.length_cons, List.length_nil, List.getElem?_cons_zero, List.getElem?_cons_succ, List.set_cons_zero, List.set_cons_succ, List.foldl_cons, List.foldl_nil, if_true, Nat.zero_add, Bool.not_true, Bool.not_false, Bool.false_eq_true, if_false, and_true, true_and]
    refine ⟨t, lot, other, g, rfl, ?_⟩
    cases e : known t lot other g with
    | true =>
      rw [e] at z
      simp only [sRet, sSeq, sIf, sSet, sSetM, sNext, sNever, sExpr, sFrz, sX, sPar2, sPar3, sPars, sFor, sAsg, sAug, sSetI, sMk, sRetN, sBreak, sCont, sRetDeal, sFldI, dAndV, dOrV, dNotV, dFn, dFnL, dFnK, dChain, dCB, dCons, dNil, dVarB, dVar, dLit, dOp, dUn, dIf, dB, dNotT, dAndT, dOrT, dYes, dTup, dLst, dSl, dPart, dNoP, dRev, dJoin, dFldC, dMake, dLc, iA, iE, iR1, iR2, vNil, vE, vF, xMut, xMut2E, xE, gdName, gdTup, gdCons, gdNil, gLen, gLt, gLe, gGt, gGe, gCmp, gSl, gSlL, gIx, gI, gIc, gAdd, gLL, gTuple, gList, gSorted, gInt, gAbs, gRepr, gAppend, gInsert, gNeg, gIsT, gIsNotT, gJoin, isi_tup, DL.ne_int, DL.eq_int, DL.eq_str, DL.ne_str, at_0, at_1, at_2, at_3, seqItems, lItems, DL.isNon, endsD, endsM, endsI, setAllD, wipeD, DSt.set, kgG, List.map_cons, List.map_nil, List.cons_append, List.nil_append, List.length_cons, List.length_nil, List.getElem?_cons_zero, List.getElem?_cons_succ, List.set_cons_zero, List.set_cons_succ, List.foldl_cons, List.foldl_nil, if_true, Nat.zero_add, Bool.not_true, Bool.not_false, Bool.false_eq_true, if_false, and_true, true_and]
      exact z rfl
    | false =>
      rw [e] at y
      simp only [sRet, sSeq, sIf, sSet, sSetM, sNext, sNever, sExpr, sFrz, sX, sPar2, sPar3, sPars, sFor, sAsg, sAug, sSetI, sMk, sRetN, sBreak, sCont, sRetDeal, sFldI, dAndV, dOrV, dNotV, dFn, dFnL, dFnK, dChain, dCB, dCons, dNil, dVarB, dVar, dLit, dOp, dUn, dIf, dB, dNotT, dAndT, dOrT, dYes, dTup, dLst, dSl, dPart, dNoP, dRev, dJoin, dFldC, dMake, dLc, iA, iE, iR1, iR2, vNil, vE, vF, xMut, xMut2E, xE, gdName, gdTup, gdCons, gdNil, gLen, gLt, gLe, gGt, gGe, gCmp, gSl, gSlL, gIx, gI, gIc, gAdd, gLL, gTuple, gList, gSorted, gInt, gAbs, gRepr, gAppend, gInsert, gNeg, gIsT, gIsNotT, gJoin, isi_tup, DL.ne_int, DL.eq_int, DL.eq_str, DL.ne_str, at_0, at_1, at_2, at_3, seqItems, lItems, DL.isNon, endsD, endsM, endsI, setAllD, wipeD, DSt.set, kgG, List.map_cons, List.map_nil, List.cons_append, List.nil_append, List.length_cons, List.length_nil, List.getElem?_cons_zero, List.getElem?_cons_succ, List.set_cons_zero, List.set_cons_succ, List.foldl_cons, List.foldl_nil, if_true, Nat.zero_add, Bool.not_true, Bool.not_false, Bool.false_eq_true, if_false, and_true, true_and]
      exact y rfl
  · rw [List.map_id', filter_map (fun g => !known t lot other g) _ (fun g => by rw [lotOf_lot])]
    have e := cut_take ((t.fgs.filter fun g => !known t lot other g).map lotD) 1
    have e1 : (((1 : Nat) : Int)) = (1 : Int) := rfl
    rw [e1] at e
    show Q (D.lst (cutG _ none (some 1)))
    rw [e, ← List.map_take]
    exact q
theorem p_law_known (ds : List D) (Q : D → Prop) (hl : ds.length = 4) (h : sp_law_known ds Q) : w_law_known (endsD Q fun _ => False) (init 6 ds) := by
  obtain ⟨t, lot, other, gone, rfl, q⟩ := h
  rw [i_law_known]
  simp only [w_law_known, sRet, sSeq, sIf, sSet, sSetM, sNext, sNever, sExpr, sFrz, sX, sPar2, sPar3, sPars, sFor, sAsg, sAug, sSetI, sMk, sRetN, sBreak, sCont, sRetDeal, sFldI, dAndV, dOrV, dNotV, dFn, dFnL, dFnK, dChain, dCB, dCons, dNil, dVarB, dVar, dLit, dOp, dUn, dIf, dB, dNotT, dAndT, dOrT, dYes, dTup, dLst, dSl, dPart, dNoP, dRev, dJoin, dFldC, dMake, dLc, iA, iE, iR1, iR2, vNil, vE, vF, xMut, xMut2E, xE, gdName, gdTup, gdCons, gdNil, gLen, gLt, gLe, gGt, gGe, gCmp, gSl, gSlL, gIx, gI, gIc, gAdd, gLL, gTuple, gList, gSorted, gInt, gAbs, gRepr, gAppend, gInsert, gNeg, gIsT, gIsNotT, gJoin, isi_tup, DL.ne_int, DL.eq_int, DL.eq_str, DL.ne_str, at_0, at_1, at_2, at_3, seqItems, lItems, DL.isNon, endsD, endsM, endsI, setAllD, wipeD, DSt.set, kgG, List.map_cons, List.map_nil, List.cons_append, List.nil_append, List.length_cons, List.length_nil, List.getElem?_cons_zero, List.getElem?_cons_succ, List.set_cons_zero, List.set_cons_succ, List.foldl_cons, List.foldl_nil, if_true, Nat.zero_add, Bool.not_true, Bool.not_false, Bool.false_eq_true, if_false, and_true, true_and]
  refine for_first (r := fun o => if hears t lot o gone then some (.bl true) else none) (fun st => ∃ x y, st = ⟨[.val t.d, .val (lotD lot), .val (lotD other), .val (lotD gone), x, y], none⟩) ⟨_, _, rfl⟩ (fun e st' h' => ?_) (fun d e => ?_) fun o ho st h' k rt hk hr => ?_
  · obtain ⟨x, y, rfl⟩ := h'
    have e' : known t lot other gone = false := by
      cases q2 : known t lot other gone with
      | false => rfl
      | true =>
        unfold known at q2
        rw [List.any_eq_true] at q2
        obtain ⟨o, ho, h1⟩ := q2
        rw [List.findSome?_eq_none_iff] at e
        have := e o ho
        rw [if_pos h1] at this
        cases this
    rw [e'] at q
    exact q
  · obtain ⟨o, ho, h1⟩ := List.exists_of_findSome?_eq_some e
    cases h2 : hears t lot o gone with
    | false => rw [h2] at h1; cases h1
    | true =>
      rw [h2] at h1
      have e' : known t lot other gone = true := by
        unfold known
        rw [List.any_eq_true]
        exact ⟨o, ho, h2⟩
      rw [e'] at q
      injection h1 with h1
      rw [← h1]
      exact q
  · obtain ⟨x, y, rfl⟩ := h'
    simp only [sRet, sSeq, sIf, sSet, sSetM, sNext, sNever, sExpr, sFrz, sX, sPar2, sPar3, sPars, sFor, sAsg, sAug, sSetI, sMk, sRetN, sBreak, sCont, sRetDeal, sFldI, dAndV, dOrV, dNotV, dFn, dFnL, dFnK, dChain, dCB, dCons, dNil, dVarB, dVar, dLit, dOp, dUn, dIf, dB, dNotT, dAndT, dOrT, dYes, dTup, dLst, dSl, dPart, dNoP, dRev, dJoin, dFldC, dMake, dLc, iA, iE, iR1, iR2, vNil, vE, vF, xMut, xMut2E, xE, gdName, gdTup, gdCons, gdNil, gLen, gLt, gLe, gGt, gGe, gCmp, gSl, gSlL, gIx, gI, gIc, gAdd, gLL, gTuple, gList, gSorted, gInt, gAbs, gRepr, gAppend, gInsert, gNeg, gIsT, gIsNotT, gJoin, isi_tup, DL.ne_int, DL.eq_int, DL.eq_str, DL.ne_str, at_0, at_1, at_2, at_3, seqItems, lItems, DL.isNon, endsD, endsM, endsI, setAllD, wipeD, DSt.set, kgG, List.map_cons, List.map_nil, List.cons_append, List.nil_append, List.length_cons, List.length_nil, List.getElem?_cons_zero, List.getElem?_cons_succ, List.set_cons_zero, List.set_cons_succ, List.foldl_cons, List.foldl_nil, if_true, Nat.zero_add, Bool.not_true, Bool.not_false, Bool.false_eq_true, if_false, and_true, true_and]
    refine in_lot (neg := true) ?_
    unfold hears at hk hr
    by_cases h1 : o ∈ gone
    · simp only [decide_eq_true h1, sRet, sSeq, sIf, sSet, sSetM, sNext, sNever, sExpr, sFrz, sX, sPar2, sPar3, sPars, sFor, sAsg, sAug, sSetI, sMk, sRetN, sBreak, sCont, sRetDeal, sFldI, dAndV, dOrV, dNotV, dFn, dFnL, dFnK, dChain, dCB, dCons, dNil, dVarB, dVar, dLit, dOp, dUn, dIf, dB, dNotT, dAndT, dOrT, dYes, dTup, dLst, dSl, dPart, dNoP, dRev, dJoin, dFldC, dMake, dLc, iA, iE, iR1, iR2, vNil, vE, vF, xMut, xMut2E, xE, gdName, gdTup, gdCons, gdNil, gLen, gLt, gLe, gGt, gGe, gCmp, gSl, gSlL, gIx, gI, gIc, gAdd, gLL, gTuple, gList, gSorted, gInt, gAbs, gRepr, gAppend, gInsert, gNeg, gIsT, gIsNotT, gJoin, isi_tup, DL.ne_int, DL.eq_int, DL.eq_str, DL.ne_str, at_0, at_1, at_2, at_3, seqItems, lItems, DL.isNon, endsD, endsM, endsI, setAllD, wipeD, DSt.set, kgG, List.map_cons, List.map_nil, List.cons_append, List.nil_append, List.length_cons, List.length_nil, List.getElem?_cons_zero, List.getElem?_cons_succ, List.set_cons_zero, List.set_cons_succ, List.foldl_cons, List.foldl_nil, if_true, Nat.zero_add, Bool.not_true, Bool.not_false, Bool.false_eq_true, if_false, and_true, true_and]
      exact hk (by simp [h1]) _ ⟨_, _, rfl⟩
    · simp only [decide_eq_false h1, sRet, sSeq, sIf, sSet, sSetM, sNext, sNever, sExpr, sFrz, sX, sPar2, sPar3, sPars, sFor, sAsg, sAug, sSetI, sMk, sRetN, sBreak, sCont, sRetDeal, sFldI, dAndV, dOrV, dNotV, dFn, dFnL, dFnK, dChain, dCB, dCons, dNil, dVarB, dVar, dLit, dOp, dUn, dIf, dB, dNotT, dAndT, dOrT, dYes, dTup, dLst, dSl, dPart, dNoP, dRev, dJoin, dFldC, dMake, dLc, iA, iE, iR1, iR2, vNil, vE, vF, xMut, xMut2E, xE, gdName, gdTup, gdCons, gdNil, gLen, gLt, gLe, gGt, gGe, gCmp, gSl, gSlL, gIx, gI, gIc, gAdd, gLL, gTuple, gList, gSorted, gInt, gAbs, gRepr, gAppend, gInsert, gNeg, gIsT, gIsNotT, gJoin, isi_tup, DL.ne_int, DL.eq_int, DL.eq_str, DL.ne_str, at_0, at_1, at_2, at_3, seqItems, lItems, DL.isNon, endsD, endsM, endsI, setAllD, wipeD, DSt.set, kgG, List.map_cons, List.map_nil, List.cons_append, List.nil_append, List.length_cons, List.length_nil, List.getElem?_cons_zero, List.getElem?_cons_succ, List.set_cons_zero, List.set_cons_succ, List.foldl_cons, List.foldl_nil, if_true, Nat.zero_add, Bool.not_true, Bool.not_false, Bool.false_eq_true, if_false, and_true, true_and]
      refine in_lot (neg := false) ?_
      by_cases h2 : o ∈ lot
      · simp only [decide_eq_true h2, sRet, sSeq, sIf, sSet, sSetM, sNext, sNever, sExpr, sFrz, sX, sPar2, sPar3, sPars, sFor, sAsg, sAug, sSetI, sMk, sRetN, sBreak, sCont, sRetDeal, sFldI, dAndV, dOrV, dNotV, dFn, dFnL, dFnK, dChain, dCB, dCons, dNil, dVarB, dVar, dLit, dOp, dUn, dIf, dB, dNotT, dAndT, dOrT, dYes, dTup, dLst, dSl, dPart, dNoP, dRev, dJoin, dFldC, dMake, dLc, iA, iE, iR1, iR2, vNil, vE, vF, xMut, xMut2E, xE, gdName, gdTup, gdCons, gdNil, gLen, gLt, gLe, gGt, gGe, gCmp, gSl, gSlL, gIx, gI, gIc, gAdd, gLL, gTuple, gList, gSorted, gInt, gAbs, gRepr, gAppend, gInsert, gNeg, gIsT, gIsNotT, gJoin, isi_tup, DL.ne_int, DL.eq_int, DL.eq_str, DL.ne_str, at_0, at_1, at_2, at_3, seqItems, lItems, DL.isNon, endsD, endsM, endsI, setAllD, wipeD, DSt.set, kgG, List.map_cons, List.map_nil, List.cons_append, List.nil_append, List.length_cons, List.length_nil, List.getElem?_cons_zero, List.getElem?_cons_succ, List.set_cons_zero, List.set_cons_succ, List.foldl_cons, List.foldl_nil, if_true, Nat.zero_add, Bool.not_true, Bool.not_false, Bool.false_eq_true, if_false, and_true, true_and]
        exact hr _ (by simp [h1, h2])
      · simp only [decide_eq_false h2, lotD, sRet, sSeq, sIf, sSet, sSetM, sNext, sNever, sExpr, sFrz, sX, sPar2, sPar3, sPars, sFor, sAsg, sAug, sSetI, sMk, sRetN, sBreak, sCont, sRetDeal, sFldI, dAndV, dOrV, dNotV, dFn, dFnL, dFnK, dChain, dCB, dCons, dNil, dVarB, dVar, dLit, dOp, dUn, dIf, dB, dNotT, dAndT, dOrT, dYes, dTup, dLst, dSl, dPart, dNoP, dRev, dJoin, dFldC, dMake, dLc, iA, iE, iR1, iR2, vNil, vE, vF, xMut, xMut2E, xE, gdName, gdTup, gdCons, gdNil, gLen, gLt, gLe, gGt, gGe, gCmp, gSl, gSlL, gIx, gI, gIc, gAdd, gLL, gTuple, gList, gSorted, gInt, gAbs, gRepr, gAppend, gInsert, gNeg, gIsT, gIsNotT, gJoin, isi_tup, DL.ne_int, DL.eq_int, DL.eq_str, DL.ne_str, at_0, at_1, at_2, at_3, seqItems, lItems, DL.isNon, endsD, endsM, endsI, setAllD, wipeD, DSt.set, kgG, List.map_cons, List.map_nil, List.cons_append, List.nil_append, List.length_cons, List.length_nil, List.getElem?_cons_zero, List.getElem?_cons_succ, List.set_cons_zero, List.set_cons_succ, List.foldl_cons, List.foldl_nil, if_true, Nat.zero_add, Bool.not_true, Bool.not_false, Bool.false_eq_true, if_false, and_true, true_and]
        refine lc_det (fun d => match d with
          | .str x => decide (x ∉ gone) && decide ((x, o) ∈ t.tells)
          | _ => false) (fun d => d) (fun d hd Y Z y z => ?_) ?_
        · obtain ⟨x, hx, rfl⟩ := List.mem_map.mp hd
          simp only [sRet, sSeq, sIf, sSet, sSetM, sNext, sNever, sExpr, sFrz, sX, sPar2, sPar3, sPars, sFor, sAsg, sAug, sSetI, sMk, sRetN, sBreak, sCont, sRetDeal, sFldI, dAndV, dOrV, dNotV, dFn, dFnL, dFnK, dChain, dCB, dCons, dNil, dVarB, dVar, dLit, dOp, dUn, dIf, dB, dNotT, dAndT, dOrT, dYes, dTup, dLst, dSl, dPart, dNoP, dRev, dJoin, dFldC, dMake, dLc, iA, iE, iR1, iR2, vNil, vE, vF, xMut, xMut2E, xE, gdName, gdTup, gdCons, gdNil, gLen, gLt, gLe, gGt, gGe, gCmp, gSl, gSlL, gIx, gI, gIc, gAdd, gLL, gTuple, gList, gSorted, gInt, gAbs, gRepr, gAppend, gInsert, gNeg, gIsT, gIsNotT, gJoin, isi_tup, DL.ne_int, DL.eq_int, DL.eq_str, DL.ne_str, at_0, at_1, at_2, at_3, seqItems, lItems, DL.isNon, endsD, endsM, endsI, setAllD, wipeD, DSt.set, kgG, List.map_cons, List.map_nil, List.cons_append, List.nil_append, List.length_cons, List.length_nil, List.getElem?_cons_zero, List.getElem?_cons_succ, List.set_cons_zero, List.set_cons_succ, List.foldl_cons, List.foldl_nil, if_true, Nat.zero_add, Bool.not_true, Bool.not_false, Bool.false_eq_true, if_false, and_true, true_and]
          refine in_lot (neg := true) ?_
          by_cases h3 : x ∈ gone
          · simp only [decide_eq_true h3, sRet, sSeq, sIf, sSet, sSetM, sNext, sNever, sExpr, sFrz, sX, sPar2, sPar3, sPars, sFor, sAsg, sAug, sSetI, sMk, sRetN, sBreak, sCont, sRetDeal, sFldI, dAndV, dOrV, dNotV, dFn, dFnL, dFnK, dChain, dCB, dCons, dNil, dVarB, dVar, dLit, dOp, dUn, dIf, dB, dNotT, dAndT, dOrT, dYes, dTup, dLst, dSl, dPart, dNoP, dRev, dJoin, dFldC, dMake, dLc, iA, iE, iR1, iR2, vNil, vE, vF, xMut, xMut2E, xE, gdName, gdTup, gdCons, gdNil, gLen, gLt, gLe, gGt, gGe, gCmp, gSl, gSlL, gIx, gI, gIc, gAdd, gLL, gTuple, gList, gSorted, gInt, gAbs, gRepr, gAppend, gInsert, gNeg, gIsT, gIsNotT, gJoin, isi_tup, DL.ne_int, DL.eq_int, DL.eq_str, DL.ne_str, at_0, at_1, at_2, at_3, seqItems, lItems, DL.isNon, endsD, endsM, endsI, setAllD, wipeD, DSt.set, kgG, List.map_cons, List.map_nil, List.cons_append, List.nil_append, List.length_cons, List.length_nil, List.getElem?_cons_zero, List.getElem?_cons_succ, List.set_cons_zero, List.set_cons_succ, List.foldl_cons, List.foldl_nil, if_true, Nat.zero_add, Bool.not_true, Bool.not_false, Bool.false_eq_true, if_false, and_true, true_and]
            exact z (by simp [h3])
          · simp only [decide_eq_false h3, Told.d, sRet, sSeq, sIf, sSet, sSetM, sNext, sNever, sExpr, sFrz, sX, sPar2, sPar3, sPars, sFor, sAsg, sAug, sSetI, sMk, sRetN, sBreak, sCont, sRetDeal, sFldI, dAndV, dOrV, dNotV, dFn, dFnL, dFnK, dChain, dCB, dCons, dNil, dVarB, dVar, dLit, dOp, dUn, dIf, dB, dNotT, dAndT, dOrT, dYes, dTup, dLst, dSl, dPart, dNoP, dRev, dJoin, dFldC, dMake, dLc, iA, iE, iR1, iR2, vNil, vE, vF, xMut, xMut2E, xE, gdName, gdTup, gdCons, gdNil, gLen, gLt, gLe, gGt, gGe, gCmp, gSl, gSlL, gIx, gI, gIc, gAdd, gLL, gTuple, gList, gSorted, gInt, gAbs, gRepr, gAppend, gInsert, gNeg, gIsT, gIsNotT, gJoin, isi_tup, DL.ne_int, DL.eq_int, DL.eq_str, DL.ne_str, at_0, at_1, at_2, at_3, seqItems, lItems, DL.isNon, endsD, endsM, endsI, setAllD, wipeD, DSt.set, kgG, List.map_cons, List.map_nil, List.cons_append, List.nil_append, List.length_cons, List.length_nil, List.getElem?_cons_zero, List.getElem?_cons_succ, List.set_cons_zero, List.set_cons_succ, List.foldl_cons, List.foldl_nil, if_true, Nat.zero_add, Bool.not_true, Bool.not_false, Bool.false_eq_true, if_false, and_true, true_and]
            refine ⟨by decide, in_pairs (x := (x, o)) (neg := false) ?_⟩
            by_cases h4 : (x, o) ∈ t.tells
            · simp only [decide_eq_true h4, sRet, sSeq, sIf, sSet, sSetM, sNext, sNever, sExpr, sFrz, sX, sPar2, sPar3, sPars, sFor, sAsg, sAug, sSetI, sMk, sRetN, sBreak, sCont, sRetDeal, sFldI, dAndV, dOrV, dNotV, dFn, dFnL, dFnK, dChain, dCB, dCons, dNil, dVarB, dVar, dLit, dOp, dUn, dIf, dB, dNotT, dAndT, dOrT, dYes, dTup, dLst, dSl, dPart, dNoP, dRev, dJoin, dFldC, dMake, dLc, iA, iE, iR1, iR2, vNil, vE, vF, xMut, xMut2E, xE, gdName, gdTup, gdCons, gdNil, gLen, gLt, gLe, gGt, gGe, gCmp, gSl, gSlL, gIx, gI, gIc, gAdd, gLL, gTuple, gList, gSorted, gInt, gAbs, gRepr, gAppend, gInsert, gNeg, gIsT, gIsNotT, gJoin, isi_tup, DL.ne_int, DL.eq_int, DL.eq_str, DL.ne_str, at_0, at_1, at_2, at_3, seqItems, lItems, DL.isNon, endsD, endsM, endsI, setAllD, wipeD, DSt.set, kgG, List.map_cons, List.map_nil, List.cons_append, List.nil_append, List.length_cons, List.length_nil, List.getElem?_cons_zero, List.getElem?_cons_succ, List.set_cons_zero, List.set_cons_succ, List.foldl_cons, List.foldl_nil, if_true, Nat.zero_add, Bool.not_true, Bool.not_false, Bool.false_eq_true, if_false, and_true, true_and]
              exact y (by simp [h3, h4])
            · simp only [decide_eq_false h4, sRet, sSeq, sIf, sSet, sSetM, sNext, sNever, sExpr, sFrz, sX, sPar2, sPar3, sPars, sFor, sAsg, sAug, sSetI, sMk, sRetN, sBreak, sCont, sRetDeal, sFldI, dAndV, dOrV, dNotV, dFn, dFnL, dFnK, dChain, dCB, dCons, dNil, dVarB, dVar, dLit, dOp, dUn, dIf, dB, dNotT, dAndT, dOrT, dYes, dTup, dLst, dSl, dPart, dNoP, dRev, dJoin, dFldC, dMake, dLc, iA, iE, iR1, iR2, vNil, vE, vF, xMut, xMut2E, xE, gdName, gdTup, gdCons, gdNil, gLen, gLt, gLe, gGt, gGe, gCmp, gSl, gSlL, gIx, gI, gIc, gAdd, gLL, gTuple, gList, gSorted, gInt, gAbs, gRepr, gAppend, gInsert, gNeg, gIsT, gIsNotT, gJoin, isi_tup, DL.ne_int, DL.eq_int, DL.eq_str, DL.ne_str, at_0, at_1, at_2, at_3, seqItems, lItems, DL.isNon, endsD, endsM, endsI, setAllD, wipeD, DSt.set, kgG, List.map_cons, List.map_nil, List.cons_append, List.nil_append, List.length_cons, List.length_nil, List.getElem?_cons_zero, List.getElem?_cons_succ, List.set_cons_zero, List.set_cons_succ, List.foldl_cons, List.foldl_nil, if_true, Nat.zero_add, Bool.not_true, Bool.not_false, Bool.false_eq_true, if_false, and_true, true_and]
              exact z (by simp [h3, h4])
        · rw [List.map_id', filter_map (fun x => decide (x ∉ gone) && decide ((x, o) ∈ t.tells)) _ (fun _ => rfl)]
          refine ⟨Nat.zero_le _, ne_nilL (okD_of (by rw [← show hd (lotD (lot.filter fun x => decide (x ∉ gone) && decide ((x, o) ∈ t.tells))) = hd (.lst _) from rfl]; exact hd_lot _) (by have := dep_lot (lot.filter fun x => decide (x ∉ gone) && decide ((x, o) ∈ t.tells)); unfold lotD at this; simp only [dep] at this ⊢; omega)) ?_⟩
          cases e4 : (lot.filter fun x => decide (x ∉ gone) && decide ((x, o) ∈ t.tells)) with
          | nil =>
            simp only [sRet, sSeq, sIf, sSet, sSetM, sNext, sNever, sExpr, sFrz, sX, sPar2, sPar3, sPars, sFor, sAsg, sAug, sSetI, sMk, sRetN, sBreak, sCont, sRetDeal, sFldI, dAndV, dOrV, dNotV, dFn, dFnL, dFnK, dChain, dCB, dCons, dNil, dVarB, dVar, dLit, dOp, dUn, dIf, dB, dNotT, dAndT, dOrT, dYes, dTup, dLst, dSl, dPart, dNoP, dRev, dJoin, dFldC, dMake, dLc, iA, iE, iR1, iR2, vNil, vE, vF, xMut, xMut2E, xE, gdName, gdTup, gdCons, gdNil, gLen, gLt, gLe, gGt, gGe, gCmp, gSl, gSlL, gIx, gI, gIc, gAdd, gLL, gTuple, gList, gSorted, gInt, gAbs, gRepr, gAppend, gInsert, gNeg, gIsT, gIsNotT, gJoin, isi_tup, DL.ne_int, DL.eq_int, DL.eq_str, DL.ne_str, at_0, at_1, at_2, at_3, seqItems, lItems, DL.isNon, endsD, endsM, endsI, setAllD, wipeD, DSt.set, kgG, List.map_cons, List.map_nil, List.cons_append, List.nil_append, List.length_cons, List.length_nil, List.getElem?_cons_zero, List.getElem?_cons_succ, List.set_cons_zero, List.set_cons_succ, List.foldl_cons, List.foldl_nil, if_true, Nat.zero_add, Bool.not_true, Bool.not_false, Bool.false_eq_true, if_false, and_true, true_and, List.isEmpty_nil]
            refine hk ?_ _ ⟨_, _, rfl⟩
            rw [List.filter_eq_nil_iff] at e4
            simp [h1, h2] at e4 ⊢
            exact e4
          | cons x xs =>
            simp only [sRet, sSeq, sIf, sSet, sSetM, sNext, sNever, sExpr, sFrz, sX, sPar2, sPar3, sPars, sFor, sAsg, sAug, sSetI, sMk, sRetN, sBreak, sCont, sRetDeal, sFldI, dAndV, dOrV, dNotV, dFn, dFnL, dFnK, dChain, dCB, dCons, dNil, dVarB, dVar, dLit, dOp, dUn, dIf, dB, dNotT, dAndT, dOrT, dYes, dTup, dLst, dSl, dPart, dNoP, dRev, dJoin, dFldC, dMake, dLc, iA, iE, iR1, iR2, vNil, vE, vF, xMut, xMut2E, xE, gdName, gdTup, gdCons, gdNil, gLen, gLt, gLe, gGt, gGe, gCmp, gSl, gSlL, gIx, gI, gIc, gAdd, gLL, gTuple, gList, gSorted, gInt, gAbs, gRepr, gAppend, gInsert, gNeg, gIsT, gIsNotT, gJoin, isi_tup, DL.ne_int, DL.eq_int, DL.eq_str, DL.ne_str, at_0, at_1, at_2, at_3, seqItems, lItems, DL.isNon, endsD, endsM, endsI, setAllD, wipeD, DSt.set, kgG, List.map_cons, List.map_nil, List.cons_append, List.nil_append, List.length_cons, List.length_nil, List.getElem?_cons_zero, List.getElem?_cons_succ, List.set_cons_zero, List.set_cons_succ, List.foldl_cons, List.foldl_nil, if_true, Nat.zero_add, Bool.not_true, Bool.not_false, Bool.false_eq_true, if_false, and_true, true_and, List.isEmpty_cons]
            refine hr _ ?_
            have : x ∈ lot.filter fun x => decide (x ∉ gone) && decide ((x, o) ∈ t.tells) := by rw [e4]; exact List.mem_cons_self
            rw [List.mem_filter] at this
            have h5 : (lot.any fun one => decide (one ∉ gone) && decide ((one, o) ∈ t.tells)) = true := by
              rw [List.any_eq_true]
              exact ⟨x, this⟩
            rw [h5]
            simp [h1]
end K67

namespace K67
open PySem PySem.Spec PyProof.Rows L2 DL
def F4 (t : Told) (c : Str × List (List Str)) (lot : List Str) (e : Str × List (List Str)) (more : List Str) : List (Str × List Str × Str × List Str × List Str) := if e.1 ≠ c.1 then ((deafTo t lot more).take 1).map fun g => (c.1, lot, e.1, more, g) else []
def F3 (t : Told) (c : Str × List (List Str)) (lot : List Str) (e : Str × List (List Str)) := e.2.flatMap (F4 t c lot e)
def F2 (t : Told) (c : Str × List (List Str)) (lot : List Str) := t.cnts.flatMap (F3 t c lot)
def F1 (t : Told) (c : Str × List (List Str)) := c.2.flatMap (F2 t c)
theorem deafs_eq (t : Told) : deafs t = t.cnts.flatMap (F1 t) := rfl
theorem deafR_none {t : Told} (h : (deafs t).head?.map deafD = none) : deafR t = .non := by
  unfold deafR
  cases e : deafs t with
  | nil => rfl
  | cons x xs => rw [e] at h; cases h
theorem deafR_some {t : Told} {d : D} (h : (deafs t).head?.map deafD = some d) : deafR t = d := by
  unfold deafR
  cases e : deafs t with
  | nil => rw [e] at h; cases h
  | cons x xs => rw [e] at h; injection h
theorem leaf_hd {t : Told} {c : Str × List (List Str)} {lot : List Str} {e : Str × List (List Str)} {more g : List Str} {gs : List (List Str)} (h : e.1 ≠ c.1) (hd : deafTo t lot more = g :: gs) : (F4 t c lot e more).head?.map deafD = some (deafD (c.1, lot, e.1, more, g)) := by
  unfold F4
  rw [if_pos h, hd]
  rfl
theorem leaf_nil {t : Told} {c : Str × List (List Str)} {lot : List Str} {e : Str × List (List Str)} {more : List Str} (hd : deafTo t lot more = []) : (F4 t c lot e more).head?.map deafD = none := by
  unfold F4
  rw [hd]
  split <;> rfl
theorem leaf_eq {t : Told} {c : Str × List (List Str)} {lot : List Str} {e : Str × List (List Str)} {more : List Str} (h : e.1 = c.1) : (F4 t c lot e more).head?.map deafD = none := by
  unfold F4
  rw [if_neg (by simp [h])]
  rfl
theorem p_deaf_pair (C : Addr) (ds : List D) (Q : D → Prop) (hl : ds.length = 1) (h : sp_deaf_pair C ds Q) : w_deaf_pair C (endsD Q fun _ => False) (init 8 ds) := by
  obtain ⟨t, rfl, q⟩ := h
  rw [i_deaf_pair]
  simp only [w_deaf_pair, offD, sRet, sSeq, sIf, sSet, sSetM, sNext, sNever, sExpr, sFrz, sX, sPar2, sPar3, sPars, sFor, sAsg, sAug, sSetI, sMk, sRetN, sBreak, sCont, sRetDeal, sFldI, dAndV, dOrV, dNotV, dFn, dFnL, dFnK, dChain, dCB, dCons, dNil, dVarB, dVar, dLit, dOp, dUn, dIf, dB, dNotT, dAndT, dOrT, dYes, dTup, dLst, dSl, dPart, dNoP, dRev, dJoin, dFldC, dMake, dLc, iA, iE, iR1, iR2, vNil, vE, vF, xMut, xMut2E, xE, gdName, gdTup, gdCons, gdNil, gLen, gLt, gLe, gGt, gGe, gCmp, gSl, gSlL, gIx, gI, gIc, gAdd, gLL, gTuple, gList, gSorted, gInt, gAbs, gRepr, gAppend, gInsert, gNeg, gIsT, gIsNotT, gJoin, isi_tup, DL.ne_int, DL.eq_int, DL.eq_str, DL.ne_str, at_0, at_1, at_2, at_3, seqItems, lItems, DL.isNon, endsD, endsM, endsI, setAllD, wipeD, DSt.set, kgG, List.map_cons, List.map_nil, List.cons_append, List.nil_append, List.length_cons, List.length_nil, List.getElem?_cons_zero, List.getElem?_cons_succ, List.set_cons_zero, List.set_cons_succ, List.foldl_cons, List.foldl_nil, if_true, Nat.zero_add, Bool.not_true, Bool.not_false, Bool.false_eq_true, if_false, and_true, true_and, f_cnts]
  refine for_first (r := fun c => (F1 t c).head?.map deafD) (fun st => ∃ x1 x2 x3 x4 x5 x6 x7, st = ⟨[.val (offD C t), x1, x2, x3, x4, x5, x6, x7], none⟩) ⟨_, _, _, _, _, _, _, rfl⟩ (fun e st' h' => ?_) (fun d e => ?_) fun c hc st h' k1 rt1 hk1 hr1 => ?_
  · obtain ⟨x1, x2, x3, x4, x5, x6, x7, rfl⟩ := h'
    rw [find_head, ← deafs_eq] at e
    rw [deafR_none e] at q
    exact q
  · rw [find_head, ← deafs_eq] at e
    rw [deafR_some e] at q
    exact q
  · obtain ⟨x1, x2, x3, x4, x5, x6, x7, rfl⟩ := h'
    simp only [cntD, sRet, sSeq, sIf, sSet, sSetM, sNext, sNever, sExpr, sFrz, sX, sPar2, sPar3, sPars, sFor, sAsg, sAug, sSetI, sMk, sRetN, sBreak, sCont, sRetDeal, sFldI, dAndV, dOrV, dNotV, dFn, dFnL, dFnK, dChain, dCB, dCons, dNil, dVarB, dVar, dLit, dOp, dUn, dIf, dB, dNotT, dAndT, dOrT, dYes, dTup, dLst, dSl, dPart, dNoP, dRev, dJoin, dFldC, dMake, dLc, iA, iE, iR1, iR2, vNil, vE, vF, xMut, xMut2E, xE, gdName, gdTup, gdCons, gdNil, gLen, gLt, gLe, gGt, gGe, gCmp, gSl, gSlL, gIx, gI, gIc, gAdd, gLL, gTuple, gList, gSorted, gInt, gAbs, gRepr, gAppend, gInsert, gNeg, gIsT, gIsNotT, gJoin, isi_tup, DL.ne_int, DL.eq_int, DL.eq_str, DL.ne_str, at_0, at_1, at_2, at_3, seqItems, lItems, DL.isNon, endsD, endsM, endsI, setAllD, wipeD, DSt.set, kgG, List.map_cons, List.map_nil, List.cons_append, List.nil_append, List.length_cons, List.length_nil, List.getElem?_cons_zero, List.getElem?_cons_succ, List.set_cons_zero, List.set_cons_succ, List.foldl_cons, List.foldl_nil, if_true, Nat.zero_add, Bool.not_true, Bool.not_false, Bool.false_eq_true, if_false, and_true, true_and]
    refine for_first (r := fun lot => (F2 t c lot).head?.map deafD) (fun st => ∃ x3 x4 x5 x6 x7, st = ⟨[.val (offD C t), .val (.str c.1), .val (.tup (c.2.map lotD)), x3, x4, x5, x6, x7], none⟩) ⟨_, _, _, _, _, rfl⟩ (fun e st' h' => ?_) (fun d e => hr1 d (by rw [find_head] at e; exact e)) fun lot hlot st h' k2 rt2 hk2 hr2 => ?_
    · obtain ⟨x3, x4, x5, x6, x7, rfl⟩ := h'
      rw [find_head] at e
      exact hk1 e _ ⟨_, _, _, _, _, _, _, rfl⟩
    obtain ⟨x3, x4, x5, x6, x7, rfl⟩ := h'
    simp only [offD, sRet, sSeq, sIf, sSet, sSetM, sNext, sNever, sExpr, sFrz, sX, sPar2, sPar3, sPars, sFor, sAsg, sAug, sSetI, sMk, sRetN, sBreak, sCont, sRetDeal, sFldI, dAndV, dOrV, dNotV, dFn, dFnL, dFnK, dChain, dCB, dCons, dNil, dVarB, dVar, dLit, dOp, dUn, dIf, dB, dNotT, dAndT, dOrT, dYes, dTup, dLst, dSl, dPart, dNoP, dRev, dJoin, dFldC, dMake, dLc, iA, iE, iR1, iR2, vNil, vE, vF, xMut, xMut2E, xE, gdName, gdTup, gdCons, gdNil, gLen, gLt, gLe, gGt, gGe, gCmp, gSl, gSlL, gIx, gI, gIc, gAdd, gLL, gTuple, gList, gSorted, gInt, gAbs, gRepr, gAppend, gInsert, gNeg, gIsT, gIsNotT, gJoin, isi_tup, DL.ne_int, DL.eq_int, DL.eq_str, DL.ne_str, at_0, at_1, at_2, at_3, seqItems, lItems, DL.isNon, endsD, endsM, endsI, setAllD, wipeD, DSt.set, kgG, List.map_cons, List.map_nil, List.cons_append, List.nil_append, List.length_cons, List.length_nil, List.getElem?_cons_zero, List.getElem?_cons_succ, List.set_cons_zero, List.set_cons_succ, List.foldl_cons, List.foldl_nil, if_true, Nat.zero_add, Bool.not_true, Bool.not_false, Bool.false_eq_true, if_false, and_true, true_and, f_cnts]
    refine for_first (r := fun e => (F3 t c lot e).head?.map deafD) (fun st => ∃ x4 x5 x6 x7, st = ⟨[.val (offD C t), .val (.str c.1), .val (.tup (c.2.map lotD)), .val (lotD lot), x4, x5, x6, x7], none⟩) ⟨_, _, _, _, rfl⟩ (fun e st' h' => ?_) (fun d e => hr2 d (by rw [find_head] at e; exact e)) fun e he st h' k3 rt3 hk3 hr3 => ?_
    · obtain ⟨x4, x5, x6, x7, rfl⟩ := h'
      rw [find_head] at e
      exact hk2 e _ ⟨_, _, _, _, _, rfl⟩
    obtain ⟨x4, x5, x6, x7, rfl⟩ := h'
    simp only [cntD, sRet, sSeq, sIf, sSet, sSetM, sNext, sNever, sExpr, sFrz, sX, sPar2, sPar3, sPars, sFor, sAsg, sAug, sSetI, sMk, sRetN, sBreak, sCont, sRetDeal, sFldI, dAndV, dOrV, dNotV, dFn, dFnL, dFnK, dChain, dCB, dCons, dNil, dVarB, dVar, dLit, dOp, dUn, dIf, dB, dNotT, dAndT, dOrT, dYes, dTup, dLst, dSl, dPart, dNoP, dRev, dJoin, dFldC, dMake, dLc, iA, iE, iR1, iR2, vNil, vE, vF, xMut, xMut2E, xE, gdName, gdTup, gdCons, gdNil, gLen, gLt, gLe, gGt, gGe, gCmp, gSl, gSlL, gIx, gI, gIc, gAdd, gLL, gTuple, gList, gSorted, gInt, gAbs, gRepr, gAppend, gInsert, gNeg, gIsT, gIsNotT, gJoin, isi_tup, DL.ne_int, DL.eq_int, DL.eq_str, DL.ne_str, at_0, at_1, at_2, at_3, seqItems, lItems, DL.isNon, endsD, endsM, endsI, setAllD, wipeD, DSt.set, kgG, List.map_cons, List.map_nil, List.cons_append, List.nil_append, List.length_cons, List.length_nil, List.getElem?_cons_zero, List.getElem?_cons_succ, List.set_cons_zero, List.set_cons_succ, List.foldl_cons, List.foldl_nil, if_true, Nat.zero_add, Bool.not_true, Bool.not_false, Bool.false_eq_true, if_false, and_true, true_and]
    refine for_first (r := fun more => (F4 t c lot e more).head?.map deafD) (fun st => ∃ x6 x7, st = ⟨[.val (offD C t), .val (.str c.1), .val (.tup (c.2.map lotD)), .val (lotD lot), .val (.str e.1), .val (.tup (e.2.map lotD)), x6, x7], none⟩) ⟨_, _, rfl⟩ (fun e st' h' => ?_) (fun d e => hr3 d (by rw [find_head] at e; exact e)) fun more hm st h' k4 rt4 hk4 hr4 => ?_
    · obtain ⟨x6, x7, rfl⟩ := h'
      rw [find_head] at e
      exact hk3 e _ ⟨_, _, _, _, rfl⟩
    · obtain ⟨x6, x7, rfl⟩ := h'
      simp only [offD, sRet, sSeq, sIf, sSet, sSetM, sNext, sNever, sExpr, sFrz, sX, sPar2, sPar3, sPars, sFor, sAsg, sAug, sSetI, sMk, sRetN, sBreak, sCont, sRetDeal, sFldI, dAndV, dOrV, dNotV, dFn, dFnL, dFnK, dChain, dCB, dCons, dNil, dVarB, dVar, dLit, dOp, dUn, dIf, dB, dNotT, dAndT, dOrT, dYes, dTup, dLst, dSl, dPart, dNoP, dRev, dJoin, dFldC, dMake, dLc, iA, iE, iR1, iR2, vNil, vE, vF, xMut, xMut2E, xE, gdName, gdTup, gdCons, gdNil, gLen, gLt, gLe, gGt, gGe, gCmp, gSl, gSlL, gIx, gI, gIc, gAdd, gLL, gTuple, gList, gSorted, gInt, gAbs, gRepr, gAppend, gInsert, gNeg, gIsT, gIsNotT, gJoin, isi_tup, DL.ne_int, DL.eq_int, DL.eq_str, DL.ne_str, at_0, at_1, at_2, at_3, seqItems, lItems, DL.isNon, endsD, endsM, endsI, setAllD, wipeD, DSt.set, kgG, List.map_cons, List.map_nil, List.cons_append, List.nil_append, List.length_cons, List.length_nil, List.getElem?_cons_zero, List.getElem?_cons_succ, List.set_cons_zero, List.set_cons_succ, List.foldl_cons, List.foldl_nil, if_true, Nat.zero_add, Bool.not_true, Bool.not_false, Bool.false_eq_true, if_false, and_true, true_and]
      by_cases h1 : e.1 = c.1
      · simp only [decide_eq_true h1, sRet, sSeq, sIf, sSet, sSetM, sNext, sNever, sExpr, sFrz, sX, sPar2, sPar3, sPars, sFor, sAsg, sAug, sSetI, sMk, sRetN, sBreak, sCont, sRetDeal, sFldI, dAndV, dOrV, dNotV, dFn, dFnL, dFnK, dChain, dCB, dCons, dNil, dVarB, dVar, dLit, dOp, dUn, dIf, dB, dNotT, dAndT, dOrT, dYes, dTup, dLst, dSl, dPart, dNoP, dRev, dJoin, dFldC, dMake, dLc, iA, iE, iR1, iR2, vNil, vE, vF, xMut, xMut2E, xE, gdName, gdTup, gdCons, gdNil, gLen, gLt, gLe, gGt, gGe, gCmp, gSl, gSlL, gIx, gI, gIc, gAdd, gLL, gTuple, gList, gSorted, gInt, gAbs, gRepr, gAppend, gInsert, gNeg, gIsT, gIsNotT, gJoin, isi_tup, DL.ne_int, DL.eq_int, DL.eq_str, DL.ne_str, at_0, at_1, at_2, at_3, seqItems, lItems, DL.isNon, endsD, endsM, endsI, setAllD, wipeD, DSt.set, kgG, List.map_cons, List.map_nil, List.cons_append, List.nil_append, List.length_cons, List.length_nil, List.getElem?_cons_zero, List.getElem?_cons_succ, List.set_cons_zero, List.set_cons_succ, List.foldl_cons, List.foldl_nil, if_true, Nat.zero_add, Bool.not_true, Bool.not_false, Bool.false_eq_true, if_false, and_true, true_and]
        refine ⟨Nat.zero_le _, Nat.zero_le _, ne_nilL ok_nilL ?_⟩
        simp only [sRet, sSeq, sIf, sSet, sSetM, sNext, sNever, sExpr, sFrz, sX, sPar2, sPar3, sPars, sFor, sAsg, sAug, sSetI, sMk, sRetN, sBreak, sCont, sRetDeal, sFldI, dAndV, dOrV, dNotV, dFn, dFnL, dFnK, dChain, dCB, dCons, dNil, dVarB, dVar, dLit, dOp, dUn, dIf, dB, dNotT, dAndT, dOrT, dYes, dTup, dLst, dSl, dPart, dNoP, dRev, dJoin, dFldC, dMake, dLc, iA, iE, iR1, iR2, vNil, vE, vF, xMut, xMut2E, xE, gdName, gdTup, gdCons, gdNil, gLen, gLt, gLe, gGt, gGe, gCmp, gSl, gSlL, gIx, gI, gIc, gAdd, gLL, gTuple, gList, gSorted, gInt, gAbs, gRepr, gAppend, gInsert, gNeg, gIsT, gIsNotT, gJoin, isi_tup, DL.ne_int, DL.eq_int, DL.eq_str, DL.ne_str, at_0, at_1, at_2, at_3, seqItems, lItems, DL.isNon, endsD, endsM, endsI, setAllD, wipeD, DSt.set, kgG, List.map_cons, List.map_nil, List.cons_append, List.nil_append, List.length_cons, List.length_nil, List.getElem?_cons_zero, List.getElem?_cons_succ, List.set_cons_zero, List.set_cons_succ, List.foldl_cons, List.foldl_nil, if_true, Nat.zero_add, Bool.not_true, Bool.not_false, Bool.false_eq_true, if_false, and_true, true_and, List.isEmpty_nil]
        exact hk4 (leaf_eq h1) _ ⟨_, _, rfl⟩
      · simp only [decide_eq_false h1, sRet, sSeq, sIf, sSet, sSetM, sNext, sNever, sExpr, sFrz, sX, sPar2, sPar3, sPars, sFor, sAsg, sAug, sSetI, sMk, sRetN, sBreak, sCont, sRetDeal, sFldI, dAndV, dOrV, dNotV, dFn, dFnL, dFnK, dChain, dCB, dCons, dNil, dVarB, dVar, dLit, dOp, dUn, dIf, dB, dNotT, dAndT, dOrT, dYes, dTup, dLst, dSl, dPart, dNoP, dRev, dJoin, dFldC, dMake, dLc, iA, iE, iR1, iR2, vNil, vE, vF, xMut, xMut2E, xE, gdName, gdTup, gdCons, gdNil, gLen, gLt, gLe, gGt, gGe, gCmp, gSl, gSlL, gIx, gI, gIc, gAdd, gLL, gTuple, gList, gSorted, gInt, gAbs, gRepr, gAppend, gInsert, gNeg, gIsT, gIsNotT, gJoin, isi_tup, DL.ne_int, DL.eq_int, DL.eq_str, DL.ne_str, at_0, at_1, at_2, at_3, seqItems, lItems, DL.isNon, endsD, endsM, endsI, setAllD, wipeD, DSt.set, kgG, List.map_cons, List.map_nil, List.cons_append, List.nil_append, List.length_cons, List.length_nil, List.getElem?_cons_zero, List.getElem?_cons_succ, List.set_cons_zero, List.set_cons_succ, List.foldl_cons, List.foldl_nil, if_true, Nat.zero_add, Bool.not_true, Bool.not_false, Bool.false_eq_true, if_false, and_true, true_and]
        refine ⟨t, lot, more, rfl, ?_⟩
        simp only [sRet, sSeq, sIf, sSet, sSetM, sNext, sNever, sExpr, sFrz, sX, sPar2, sPar3, sPars, sFor, sAsg, sAug, sSetI, sMk, sRetN, sBreak, sCont, sRetDeal, sFldI, dAndV, dOrV, dNotV, dFn, dFnL, dFnK, dChain, dCB, dCons, dNil, dVarB, dVar, dLit, dOp, dUn, dIf, dB, dNotT, dAndT, dOrT, dYes, dTup, dLst, dSl, dPart, dNoP, dRev, dJoin, dFldC, dMake, dLc, iA, iE, iR1, iR2, vNil, vE, vF, xMut, xMut2E, xE, gdName, gdTup, gdCons, gdNil, gLen, gLt, gLe, gGt, gGe, gCmp, gSl, gSlL, gIx, gI, gIc, gAdd, gLL, gTuple, gList, gSorted, gInt, gAbs, gRepr, gAppend, gInsert, gNeg, gIsT, gIsNotT, gJoin, isi_tup, DL.ne_int, DL.eq_int, DL.eq_str, DL.ne_str, at_0, at_1, at_2, at_3, seqItems, lItems, DL.isNon, endsD, endsM, endsI, setAllD, wipeD, DSt.set, kgG, List.map_cons, List.map_nil, List.cons_append, List.nil_append, List.length_cons, List.length_nil, List.getElem?_cons_zero, List.getElem?_cons_succ, List.set_cons_zero, List.set_cons_succ, List.foldl_cons, List.foldl_nil, if_true, Nat.zero_add, Bool.not_true, Bool.not_false, Bool.false_eq_true, if_false, and_true, true_and]
        refine ⟨Nat.zero_le _, ne_nilL (ok_lotsL _) ?_⟩
        cases e4 : deafTo t lot more with
        | nil =>
          simp only [sRet, sSeq, sIf, sSet, sSetM, sNext, sNever, sExpr, sFrz, sX, sPar2, sPar3, sPars, sFor, sAsg, sAug, sSetI, sMk, sRetN, sBreak, sCont, sRetDeal, sFldI, dAndV, dOrV, dNotV, dFn, dFnL, dFnK, dChain, dCB, dCons, dNil, dVarB, dVar, dLit, dOp, dUn, dIf, dB, dNotT, dAndT, dOrT, dYes, dTup, dLst, dSl, dPart, dNoP, dRev, dJoin, dFldC, dMake, dLc, iA, iE, iR1, iR2, vNil, vE, vF, xMut, xMut2E, xE, gdName, gdTup, gdCons, gdNil, gLen, gLt, gLe, gGt, gGe, gCmp, gSl, gSlL, gIx, gI, gIc, gAdd, gLL, gTuple, gList, gSorted, gInt, gAbs, gRepr, gAppend, gInsert, gNeg, gIsT, gIsNotT, gJoin, isi_tup, DL.ne_int, DL.eq_int, DL.eq_str, DL.ne_str, at_0, at_1, at_2, at_3, seqItems, lItems, DL.isNon, endsD, endsM, endsI, setAllD, wipeD, DSt.set, kgG, List.map_cons, List.map_nil, List.cons_append, List.nil_append, List.length_cons, List.length_nil, List.getElem?_cons_zero, List.getElem?_cons_succ, List.set_cons_zero, List.set_cons_succ, List.foldl_cons, List.foldl_nil, if_true, Nat.zero_add, Bool.not_true, Bool.not_false, Bool.false_eq_true, if_false, and_true, true_and, List.isEmpty_nil, List.take_nil]
          exact hk4 (leaf_nil e4) _ ⟨_, _, rfl⟩
        | cons g gs =>
          simp only [sRet, sSeq, sIf, sSet, sSetM, sNext, sNever, sExpr, sFrz, sX, sPar2, sPar3, sPars, sFor, sAsg, sAug, sSetI, sMk, sRetN, sBreak, sCont, sRetDeal, sFldI, dAndV, dOrV, dNotV, dFn, dFnL, dFnK, dChain, dCB, dCons, dNil, dVarB, dVar, dLit, dOp, dUn, dIf, dB, dNotT, dAndT, dOrT, dYes, dTup, dLst, dSl, dPart, dNoP, dRev, dJoin, dFldC, dMake, dLc, iA, iE, iR1, iR2, vNil, vE, vF, xMut, xMut2E, xE, gdName, gdTup, gdCons, gdNil, gLen, gLt, gLe, gGt, gGe, gCmp, gSl, gSlL, gIx, gI, gIc, gAdd, gLL, gTuple, gList, gSorted, gInt, gAbs, gRepr, gAppend, gInsert, gNeg, gIsT, gIsNotT, gJoin, isi_tup, DL.ne_int, DL.eq_int, DL.eq_str, DL.ne_str, at_0, at_1, at_2, at_3, seqItems, lItems, DL.isNon, endsD, endsM, endsI, setAllD, wipeD, DSt.set, kgG, List.map_cons, List.map_nil, List.cons_append, List.nil_append, List.length_cons, List.length_nil, List.getElem?_cons_zero, List.getElem?_cons_succ, List.set_cons_zero, List.set_cons_succ, List.foldl_cons, List.foldl_nil, if_true, Nat.zero_add, Bool.not_true, Bool.not_false, Bool.false_eq_true, if_false, and_true, true_and, List.isEmpty_cons, List.take_succ_cons]
          exact ⟨by decide, hr4 _ (leaf_hd h1 e4)⟩
theorem p_law_deaf (ds : List D) (Q : D → Prop) (hl : ds.length = 1) (h : sp_law_deaf ds Q) : w_law_deaf (endsD Q fun _ => False) (init 9 ds) := by
  obtain ⟨t, rfl, q⟩ := h
  rw [i_law_deaf]
  simp only [w_law_deaf, Told.d, sRet, sSeq, sIf, sSet, sSetM, sNext, sNever, sExpr, sFrz, sX, sPar2, sPar3, sPars, sFor, sAsg, sAug, sSetI, sMk, sRetN, sBreak, sCont, sRetDeal, sFldI, dAndV, dOrV, dNotV, dFn, dFnL, dFnK, dChain, dCB, dCons, dNil, dVarB, dVar, dLit, dOp, dUn, dIf, dB, dNotT, dAndT, dOrT, dYes, dTup, dLst, dSl, dPart, dNoP, dRev, dJoin, dFldC, dMake, dLc, iA, iE, iR1, iR2, vNil, vE, vF, xMut, xMut2E, xE, gdName, gdTup, gdCons, gdNil, gLen, gLt, gLe, gGt, gGe, gCmp, gSl, gSlL, gIx, gI, gIc, gAdd, gLL, gTuple, gList, gSorted, gInt, gAbs, gRepr, gAppend, gInsert, gNeg, gIsT, gIsNotT, gJoin, isi_tup, DL.ne_int, DL.eq_int, DL.eq_str, DL.ne_str, at_0, at_1, at_2, at_3, seqItems, lItems, DL.isNon, endsD, endsM, endsI, setAllD, wipeD, DSt.set, kgG, List.map_cons, List.map_nil, List.cons_append, List.nil_append, List.length_cons, List.length_nil, List.getElem?_cons_zero, List.getElem?_cons_succ, List.set_cons_zero, List.set_cons_succ, List.foldl_cons, List.foldl_nil, if_true, Nat.zero_add, Bool.not_true, Bool.not_false, Bool.false_eq_true, if_false, and_true, true_and]
  refine for_first (r := fun c => (F1 t c).head?.map deafD) (fun st => ∃ x1 x2 x3 x4 x5 x6 x7 y, st = ⟨[.val (t.d), x1, x2, x3, x4, x5, x6, x7, y], none⟩) ⟨_, _, _, _, _, _, _, _, rfl⟩ (fun e st' h' => ?_) (fun d e => ?_) fun c hc st h' k1 rt1 hk1 hr1 => ?_
  · obtain ⟨x1, x2, x3, x4, x5, x6, x7, y, rfl⟩ := h'
    rw [find_head, ← deafs_eq] at e
    rw [deafR_none e] at q
    exact q
  · rw [find_head, ← deafs_eq] at e
    rw [deafR_some e] at q
    exact q
  · obtain ⟨x1, x2, x3, x4, x5, x6, x7, y, rfl⟩ := h'
    simp only [cntD, sRet, sSeq, sIf, sSet, sSetM, sNext, sNever, sExpr, sFrz, sX, sPar2, sPar3, sPars, sFor, sAsg, sAug, sSetI, sMk, sRetN, sBreak, sCont, sRetDeal, sFldI, dAndV, dOrV, dNotV, dFn, dFnL, dFnK, dChain, dCB, dCons, dNil, dVarB, dVar, dLit, dOp, dUn, dIf, dB, dNotT, dAndT, dOrT, dYes, dTup, dLst, dSl, dPart, dNoP, dRev, dJoin, dFldC, dMake, dLc, iA, iE, iR1, iR2, vNil, vE, vF, xMut, xMut2E, xE, gdName, gdTup, gdCons, gdNil, gLen, gLt, gLe, gGt, gGe, gCmp, gSl, gSlL, gIx, gI, gIc, gAdd, gLL, gTuple, gList, gSorted, gInt, gAbs, gRepr, gAppend, gInsert, gNeg, gIsT, gIsNotT, gJoin, isi_tup, DL.ne_int, DL.eq_int, DL.eq_str, DL.ne_str, at_0, at_1, at_2, at_3, seqItems, lItems, DL.isNon, endsD, endsM, endsI, setAllD, wipeD, DSt.set, kgG, List.map_cons, List.map_nil, List.cons_append, List.nil_append, List.length_cons, List.length_nil, List.getElem?_cons_zero, List.getElem?_cons_succ, List.set_cons_zero, List.set_cons_succ, List.foldl_cons, List.foldl_nil, if_true, Nat.zero_add, Bool.not_true, Bool.not_false, Bool.false_eq_true, if_false, and_true, true_and]
    refine for_first (r := fun lot => (F2 t c lot).head?.map deafD) (fun st => ∃ x3 x4 x5 x6 x7 y, st = ⟨[.val (t.d), .val (.str c.1), .val (.tup (c.2.map lotD)), x3, x4, x5, x6, x7, y], none⟩) ⟨_, _, _, _, _, _, rfl⟩ (fun e st' h' => ?_) (fun d e => hr1 d (by rw [find_head] at e; exact e)) fun lot hlot st h' k2 rt2 hk2 hr2 => ?_
    · obtain ⟨x3, x4, x5, x6, x7, y, rfl⟩ := h'
      rw [find_head] at e
      exact hk1 e _ ⟨_, _, _, _, _, _, _, _, rfl⟩
    obtain ⟨x3, x4, x5, x6, x7, y, rfl⟩ := h'
    simp only [Told.d, sRet, sSeq, sIf, sSet, sSetM, sNext, sNever, sExpr, sFrz, sX, sPar2, sPar3, sPars, sFor, sAsg, sAug, sSetI, sMk, sRetN, sBreak, sCont, sRetDeal, sFldI, dAndV, dOrV, dNotV, dFn, dFnL, dFnK, dChain, dCB, dCons, dNil, dVarB, dVar, dLit, dOp, dUn, dIf, dB, dNotT, dAndT, dOrT, dYes, dTup, dLst, dSl, dPart, dNoP, dRev, dJoin, dFldC, dMake, dLc, iA, iE, iR1, iR2, vNil, vE, vF, xMut, xMut2E, xE, gdName, gdTup, gdCons, gdNil, gLen, gLt, gLe, gGt, gGe, gCmp, gSl, gSlL, gIx, gI, gIc, gAdd, gLL, gTuple, gList, gSorted, gInt, gAbs, gRepr, gAppend, gInsert, gNeg, gIsT, gIsNotT, gJoin, isi_tup, DL.ne_int, DL.eq_int, DL.eq_str, DL.ne_str, at_0, at_1, at_2, at_3, seqItems, lItems, DL.isNon, endsD, endsM, endsI, setAllD, wipeD, DSt.set, kgG, List.map_cons, List.map_nil, List.cons_append, List.nil_append, List.length_cons, List.length_nil, List.getElem?_cons_zero, List.getElem?_cons_succ, List.set_cons_zero, List.set_cons_succ, List.foldl_cons, List.foldl_nil, if_true, Nat.zero_add, Bool.not_true, Bool.not_false, Bool.false_eq_true, if_false, and_true, true_and]
    refine for_first (r := fun e => (F3 t c lot e).head?.map deafD) (fun st => ∃ x4 x5 x6 x7 y, st = ⟨[.val (t.d), .val (.str c.1), .val (.tup (c.2.map lotD)), .val (lotD lot), x4, x5, x6, x7, y], none⟩) ⟨_, _, _, _, _, rfl⟩ (fun e st' h' => ?_) (fun d e => hr2 d (by rw [find_head] at e; exact e)) fun e he st h' k3 rt3 hk3 hr3 => ?_
    · obtain ⟨x4, x5, x6, x7, y, rfl⟩ := h'
      rw [find_head] at e
      exact hk2 e _ ⟨_, _, _, _, _, _, rfl⟩
    obtain ⟨x4, x5, x6, x7, y, rfl⟩ := h'
    simp only [cntD, sRet, sSeq, sIf, sSet, sSetM, sNext, sNever, sExpr, sFrz, sX, sPar2, sPar3, sPars, sFor, sAsg, sAug, sSetI, sMk, sRetN, sBreak, sCont, sRetDeal, sFldI, dAndV, dOrV, dNotV, dFn, dFnL, dFnK, dChain, dCB, dCons, dNil, dVarB, dVar, dLit, dOp, dUn, dIf, dB, dNotT, dAndT, dOrT, dYes, dTup, dLst, dSl, dPart, dNoP, dRev, dJoin, dFldC, dMake, dLc, iA, iE, iR1, iR2, vNil, vE, vF, xMut, xMut2E, xE, gdName, gdTup, gdCons, gdNil, gLen, gLt, gLe, gGt, gGe, gCmp, gSl, gSlL, gIx, gI, gIc, gAdd, gLL, gTuple, gList, gSorted, gInt, gAbs, gRepr, gAppend, gInsert, gNeg, gIsT, gIsNotT, gJoin, isi_tup, DL.ne_int, DL.eq_int, DL.eq_str, DL.ne_str, at_0, at_1, at_2, at_3, seqItems, lItems, DL.isNon, endsD, endsM, endsI, setAllD, wipeD, DSt.set, kgG, List.map_cons, List.map_nil, List.cons_append, List.nil_append, List.length_cons, List.length_nil, List.getElem?_cons_zero, List.getElem?_cons_succ, List.set_cons_zero, List.set_cons_succ, List.foldl_cons, List.foldl_nil, if_true, Nat.zero_add, Bool.not_true, Bool.not_false, Bool.false_eq_true, if_false, and_true, true_and]
    refine for_first (r := fun more => (F4 t c lot e more).head?.map deafD) (fun st => ∃ x6 x7 y, st = ⟨[.val (t.d), .val (.str c.1), .val (.tup (c.2.map lotD)), .val (lotD lot), .val (.str e.1), .val (.tup (e.2.map lotD)), x6, x7, y], none⟩) ⟨_, _, _, rfl⟩ (fun e st' h' => ?_) (fun d e => hr3 d (by rw [find_head] at e; exact e)) fun more hm st h' k4 rt4 hk4 hr4 => ?_
    · obtain ⟨x6, x7, y, rfl⟩ := h'
      rw [find_head] at e
      exact hk3 e _ ⟨_, _, _, _, _, rfl⟩
    · obtain ⟨x6, x7, y, rfl⟩ := h'
      simp only [Told.d, sRet, sSeq, sIf, sSet, sSetM, sNext, sNever, sExpr, sFrz, sX, sPar2, sPar3, sPars, sFor, sAsg, sAug, sSetI, sMk, sRetN, sBreak, sCont, sRetDeal, sFldI, dAndV, dOrV, dNotV, dFn, dFnL, dFnK, dChain, dCB, dCons, dNil, dVarB, dVar, dLit, dOp, dUn, dIf, dB, dNotT, dAndT, dOrT, dYes, dTup, dLst, dSl, dPart, dNoP, dRev, dJoin, dFldC, dMake, dLc, iA, iE, iR1, iR2, vNil, vE, vF, xMut, xMut2E, xE, gdName, gdTup, gdCons, gdNil, gLen, gLt, gLe, gGt, gGe, gCmp, gSl, gSlL, gIx, gI, gIc, gAdd, gLL, gTuple, gList, gSorted, gInt, gAbs, gRepr, gAppend, gInsert, gNeg, gIsT, gIsNotT, gJoin, isi_tup, DL.ne_int, DL.eq_int, DL.eq_str, DL.ne_str, at_0, at_1, at_2, at_3, seqItems, lItems, DL.isNon, endsD, endsM, endsI, setAllD, wipeD, DSt.set, kgG, List.map_cons, List.map_nil, List.cons_append, List.nil_append, List.length_cons, List.length_nil, List.getElem?_cons_zero, List.getElem?_cons_succ, List.set_cons_zero, List.set_cons_succ, List.foldl_cons, List.foldl_nil, if_true, Nat.zero_add, Bool.not_true, Bool.not_false, Bool.false_eq_true, if_false, and_true, true_and]
      refine lc_det (fun d => !known t lot more (lotOf d)) (fun d => d) (fun d hd Y Z y z => ?_) ?_
      · obtain ⟨g, hg, rfl⟩ := List.mem_map.mp hd
        rw [lotOf_lot] at y z
        simp only [sRet, sSeq, sIf, sSet, sSetM, sNext, sNever, sExpr, sFrz, sX, sPar2, sPar3, sPars, sFor, sAsg, sAug, sSetI, sMk, sRetN, sBreak, sCont, sRetDeal, sFldI, dAndV, dOrV, dNotV, dFn, dFnL, dFnK, dChain, dCB, dCons, dNil, dVarB, dVar, dLit, dOp, dUn, dIf, dB, dNotT, dAndT, dOrT, dYes, dTup, dLst, dSl, dPart, dNoP, dRev, dJoin, dFldC, dMake, dLc, iA, iE, iR1, iR2, vNil, vE, vF, xMut, xMut2E, xE, gdName, gdTup, gdCons, gdNil, gLen, gLt, gLe, gGt, gGe, gCmp, gSl, gSlL, gIx, gI, gIc, gAdd, gLL, gTuple, gList, gSorted, gInt, gAbs, gRepr, gAppend, gInsert, gNeg, gIsT, gIsNotT, gJoin, isi_tup, DL.ne_int, DL.eq_int, DL.eq_str, DL.ne_str, at_0, at_1, at_2, at_3, seqItems, lItems, DL.isNon, endsD, endsM, endsI, setAllD, wipeD, DSt.set, kgG, List.map_cons, List.map_nil, List.cons_append, List.nil_append, List.length_cons, List.length_nil, List.getElem?_cons_zero, List.getElem?_cons_succ, List.set_cons_zero, List.set_cons_succ, List.foldl_cons, List.foldl_nil, if_true, Nat.zero_add, Bool.not_true, Bool.not_false, Bool.false_eq_true, if_false, and_true, true_and]
        refine ⟨t, lot, more, g, rfl, ?_⟩
        cases e : known t lot more g with
        | true =>
          rw [e] at z
          simp only [sRet, sSeq, sIf, sSet, sSetM, sNext, sNever, sExpr, sFrz, sX, sPar2, sPar3, sPars, sFor, sAsg, sAug, sSetI, sMk, sRetN, sBreak, sCont, sRetDeal, sFldI, dAndV, dOrV, dNotV, dFn, dFnL, dFnK, dChain, dCB, dCons, dNil, dVarB, dVar, dLit, dOp, dUn, dIf, dB, dNotT, dAndT, dOrT, dYes, dTup, dLst, dSl, dPart, dNoP, dRev, dJoin, dFldC, dMake, dLc, iA, iE, iR1, iR2, vNil, vE, vF, xMut, xMut2E, xE, gdName, gdTup, gdCons, gdNil, gLen, gLt, gLe, gGt, gGe, gCmp, gSl, gSlL, gIx, gI, gIc, gAdd, gLL, gTuple, gList, gSorted, gInt, gAbs, gRepr, gAppend, gInsert, gNeg, gIsT, gIsNotT, gJoin, isi_tup, DL.ne_int, DL.eq_int, DL.eq_str, DL.ne_str, at_0, at_1, at_2, at_3, seqItems, lItems, DL.isNon, endsD, endsM, endsI, setAllD, wipeD, DSt.set, kgG, List.map_cons, List.map_nil, List.cons_append, List.nil_append, List.length_cons, List.length_nil, List.getElem?_cons_zero, List.getElem?_cons_succ, List.set_cons_zero, List.set_cons_succ, List.foldl_cons, List.foldl_nil, if_true, Nat.zero_add, Bool.not_true, Bool.not_false, Bool.false_eq_true, if_false, and_true, true_and]
          exact z rfl
        | false =>
          rw [e] at y
          simp only [sRet, sSeq, sIf, sSet, sSetM, sNext, sNever, sExpr, sFrz, sX, sPar2, sPar3, sPars, sFor, sAsg, sAug, sSetI, sMk, sRetN, sBreak, sCont, sRetDeal, sFldI, dAndV, dOrV, dNotV, dFn, dFnL, dFnK, dChain, dCB, dCons, dNil, dVarB, dVar, dLit, dOp, dUn, dIf, dB, dNotT, dAndT, dOrT, dYes, dTup, dLst, dSl, dPart, dNoP, dRev, dJoin, dFldC, dMake, dLc, iA, iE, iR1, iR2, vNil, vE, vF, xMut, xMut2E, xE, gdName, gdTup, gdCons, gdNil, gLen, gLt, gLe, gGt, gGe, gCmp, gSl, gSlL, gIx, gI, gIc, gAdd, gLL, gTuple, gList, gSorted, gInt, gAbs, gRepr, gAppend, gInsert, gNeg, gIsT, gIsNotT, gJoin, isi_tup, DL.ne_int, DL.eq_int, DL.eq_str, DL.ne_str, at_0, at_1, at_2, at_3, seqItems, lItems, DL.isNon, endsD, endsM, endsI, setAllD, wipeD, DSt.set, kgG, List.map_cons, List.map_nil, List.cons_append, List.nil_append, List.length_cons, List.length_nil, List.getElem?_cons_zero, List.getElem?_cons_succ, List.set_cons_zero, List.set_cons_succ, List.foldl_cons, List.foldl_nil, if_true, Nat.zero_add, Bool.not_true, Bool.not_false, Bool.false_eq_true, if_false, and_true, true_and]
          exact y rfl
      · rw [List.map_id', filter_map (fun g => !known t lot more g) _ (fun g => by rw [lotOf_lot])]
        have e5 : (t.fgs.filter fun g => !known t lot more g) = deafTo t lot more := rfl
        rw [e5]
        by_cases h1 : e.1 = c.1
        · simp only [decide_eq_true h1, sRet, sSeq, sIf, sSet, sSetM, sNext, sNever, sExpr, sFrz, sX, sPar2, sPar3, sPars, sFor, sAsg, sAug, sSetI, sMk, sRetN, sBreak, sCont, sRetDeal, sFldI, dAndV, dOrV, dNotV, dFn, dFnL, dFnK, dChain, dCB, dCons, dNil, dVarB, dVar, dLit, dOp, dUn, dIf, dB, dNotT, dAndT, dOrT, dYes, dTup, dLst, dSl, dPart, dNoP, dRev, dJoin, dFldC, dMake, dLc, iA, iE, iR1, iR2, vNil, vE, vF, xMut, xMut2E, xE, gdName, gdTup, gdCons, gdNil, gLen, gLt, gLe, gGt, gGe, gCmp, gSl, gSlL, gIx, gI, gIc, gAdd, gLL, gTuple, gList, gSorted, gInt, gAbs, gRepr, gAppend, gInsert, gNeg, gIsT, gIsNotT, gJoin, isi_tup, DL.ne_int, DL.eq_int, DL.eq_str, DL.ne_str, at_0, at_1, at_2, at_3, seqItems, lItems, DL.isNon, endsD, endsM, endsI, setAllD, wipeD, DSt.set, kgG, List.map_cons, List.map_nil, List.cons_append, List.nil_append, List.length_cons, List.length_nil, List.getElem?_cons_zero, List.getElem?_cons_succ, List.set_cons_zero, List.set_cons_succ, List.foldl_cons, List.foldl_nil, if_true, Nat.zero_add, Bool.not_true, Bool.not_false, Bool.false_eq_true, if_false, and_true, true_and]
          exact hk4 (leaf_eq h1) _ ⟨_, _, _, rfl⟩
        · simp only [decide_eq_false h1, sRet, sSeq, sIf, sSet, sSetM, sNext, sNever, sExpr, sFrz, sX, sPar2, sPar3, sPars, sFor, sAsg, sAug, sSetI, sMk, sRetN, sBreak, sCont, sRetDeal, sFldI, dAndV, dOrV, dNotV, dFn, dFnL, dFnK, dChain, dCB, dCons, dNil, dVarB, dVar, dLit, dOp, dUn, dIf, dB, dNotT, dAndT, dOrT, dYes, dTup, dLst, dSl, dPart, dNoP, dRev, dJoin, dFldC, dMake, dLc, iA, iE, iR1, iR2, vNil, vE, vF, xMut, xMut2E, xE, gdName, gdTup, gdCons, gdNil, gLen, gLt, gLe, gGt, gGe, gCmp, gSl, gSlL, gIx, gI, gIc, gAdd, gLL, gTuple, gList, gSorted, gInt, gAbs, gRepr, gAppend, gInsert, gNeg, gIsT, gIsNotT, gJoin, isi_tup, DL.ne_int, DL.eq_int, DL.eq_str, DL.ne_str, at_0, at_1, at_2, at_3, seqItems, lItems, DL.isNon, endsD, endsM, endsI, setAllD, wipeD, DSt.set, kgG, List.map_cons, List.map_nil, List.cons_append, List.nil_append, List.length_cons, List.length_nil, List.getElem?_cons_zero, List.getElem?_cons_succ, List.set_cons_zero, List.set_cons_succ, List.foldl_cons, List.foldl_nil, if_true, Nat.zero_add, Bool.not_true, Bool.not_false, Bool.false_eq_true, if_false, and_true, true_and]
          refine ⟨Nat.zero_le _, ne_nilL (ok_lotsL _) ?_⟩
          cases e4 : deafTo t lot more with
          | nil =>
            simp only [sRet, sSeq, sIf, sSet, sSetM, sNext, sNever, sExpr, sFrz, sX, sPar2, sPar3, sPars, sFor, sAsg, sAug, sSetI, sMk, sRetN, sBreak, sCont, sRetDeal, sFldI, dAndV, dOrV, dNotV, dFn, dFnL, dFnK, dChain, dCB, dCons, dNil, dVarB, dVar, dLit, dOp, dUn, dIf, dB, dNotT, dAndT, dOrT, dYes, dTup, dLst, dSl, dPart, dNoP, dRev, dJoin, dFldC, dMake, dLc, iA, iE, iR1, iR2, vNil, vE, vF, xMut, xMut2E, xE, gdName, gdTup, gdCons, gdNil, gLen, gLt, gLe, gGt, gGe, gCmp, gSl, gSlL, gIx, gI, gIc, gAdd, gLL, gTuple, gList, gSorted, gInt, gAbs, gRepr, gAppend, gInsert, gNeg, gIsT, gIsNotT, gJoin, isi_tup, DL.ne_int, DL.eq_int, DL.eq_str, DL.ne_str, at_0, at_1, at_2, at_3, seqItems, lItems, DL.isNon, endsD, endsM, endsI, setAllD, wipeD, DSt.set, kgG, List.map_cons, List.map_nil, List.cons_append, List.nil_append, List.length_cons, List.length_nil, List.getElem?_cons_zero, List.getElem?_cons_succ, List.set_cons_zero, List.set_cons_succ, List.foldl_cons, List.foldl_nil, if_true, Nat.zero_add, Bool.not_true, Bool.not_false, Bool.false_eq_true, if_false, and_true, true_and, List.isEmpty_nil]
            exact hk4 (leaf_nil e4) _ ⟨_, _, _, rfl⟩
          | cons g gs =>
            simp only [sRet, sSeq, sIf, sSet, sSetM, sNext, sNever, sExpr, sFrz, sX, sPar2, sPar3, sPars, sFor, sAsg, sAug, sSetI, sMk, sRetN, sBreak, sCont, sRetDeal, sFldI, dAndV, dOrV, dNotV, dFn, dFnL, dFnK, dChain, dCB, dCons, dNil, dVarB, dVar, dLit, dOp, dUn, dIf, dB, dNotT, dAndT, dOrT, dYes, dTup, dLst, dSl, dPart, dNoP, dRev, dJoin, dFldC, dMake, dLc, iA, iE, iR1, iR2, vNil, vE, vF, xMut, xMut2E, xE, gdName, gdTup, gdCons, gdNil, gLen, gLt, gLe, gGt, gGe, gCmp, gSl, gSlL, gIx, gI, gIc, gAdd, gLL, gTuple, gList, gSorted, gInt, gAbs, gRepr, gAppend, gInsert, gNeg, gIsT, gIsNotT, gJoin, isi_tup, DL.ne_int, DL.eq_int, DL.eq_str, DL.ne_str, at_0, at_1, at_2, at_3, seqItems, lItems, DL.isNon, endsD, endsM, endsI, setAllD, wipeD, DSt.set, kgG, List.map_cons, List.map_nil, List.cons_append, List.nil_append, List.length_cons, List.length_nil, List.getElem?_cons_zero, List.getElem?_cons_succ, List.set_cons_zero, List.set_cons_succ, List.foldl_cons, List.foldl_nil, if_true, Nat.zero_add, Bool.not_true, Bool.not_false, Bool.false_eq_true, if_false, and_true, true_and, List.isEmpty_cons]
            exact ⟨by decide, hr4 _ (leaf_hd h1 e4)⟩
end K67

namespace K67
open PySem PySem.Spec PyProof.Rows L2 DL
theorem log2_lt {n : Int} {k : Nat} (h : n.natAbs < 2 ^ k) (hk : 0 < k) : n.natAbs.log2 < k := by
  by_cases hz : n.natAbs = 0
  · rw [hz]
    show Nat.log2 0 < k
    rw [Nat.log2_zero]
    exact hk
  · exact (Nat.log2_lt hz).mpr h
theorem p_law_deal (ds : List D) (Q : Prop) (hl : ds.length = 1) (h : sp_law_deal ds Q) : w_law_deal (endsM Q) (init 4 ds) := by
  obtain ⟨ns, rfl, q⟩ := h
  rw [i_law_deal]
  simp only [w_law_deal, sRet, sSeq, sIf, sSet, sSetM, sNext, sNever, sExpr, sFrz, sX, sPar2, sPar3, sPars, sFor, sAsg, sAug, sSetI, sMk, sRetN, sBreak, sCont, sRetDeal, sFldI, dAndV, dOrV, dNotV, dFn, dFnL, dFnK, dChain, dCB, dCons, dNil, dVarB, dVar, dLit, dOp, dUn, dIf, dB, dNotT, dAndT, dOrT, dYes, dTup, dLst, dSl, dPart, dNoP, dRev, dJoin, dFldC, dMake, dLc, iA, iE, iR1, iR2, vNil, vE, vF, xMut, xMut2E, xE, gdName, gdTup, gdCons, gdNil, gLen, gLt, gLe, gGt, gGe, gCmp, gSl, gSlL, gIx, gI, gIc, gAdd, gLL, gTuple, gList, gSorted, gInt, gAbs, gRepr, gAppend, gInsert, gNeg, gIsT, gIsNotT, gJoin, isi_tup, DL.ne_int, DL.eq_int, DL.eq_str, DL.ne_str, at_0, at_1, at_2, at_3, seqItems, lItems, DL.isNon, endsD, endsM, endsI, setAllD, wipeD, DSt.set, kgG, List.map_cons, List.map_nil, List.cons_append, List.nil_append, List.length_cons, List.length_nil, List.getElem?_cons_zero, List.getElem?_cons_succ, List.set_cons_zero, List.set_cons_succ, List.foldl_cons, List.foldl_nil, if_true, Nat.zero_add, Bool.not_true, Bool.not_false, Bool.false_eq_true, if_false, and_true, true_and]
  refine lc_map (fun d => match d with
    | .int i => .int (if i < 0 then -i else i)
    | _ => .non) (fun d hd Y y => ?_) ?_
  · have hd' : d ∈ ns.map D.int := List.mem_of_mem_drop (List.mem_of_mem_take hd)
    obtain ⟨i, hi, rfl⟩ := List.mem_map.mp hd'
    simp only [sRet, sSeq, sIf, sSet, sSetM, sNext, sNever, sExpr, sFrz, sX, sPar2, sPar3, sPars, sFor, sAsg, sAug, sSetI, sMk, sRetN, sBreak, sCont, sRetDeal, sFldI, dAndV, dOrV, dNotV, dFn, dFnL, dFnK, dChain, dCB, dCons, dNil, dVarB, dVar, dLit, dOp, dUn, dIf, dB, dNotT, dAndT, dOrT, dYes, dTup, dLst, dSl, dPart, dNoP, dRev, dJoin, dFldC, dMake, dLc, iA, iE, iR1, iR2, vNil, vE, vF, xMut, xMut2E, xE, gdName, gdTup, gdCons, gdNil, gLen, gLt, gLe, gGt, gGe, gCmp, gSl, gSlL, gIx, gI, gIc, gAdd, gLL, gTuple, gList, gSorted, gInt, gAbs, gRepr, gAppend, gInsert, gNeg, gIsT, gIsNotT, gJoin, isi_tup, DL.ne_int, DL.eq_int, DL.eq_str, DL.ne_str, at_0, at_1, at_2, at_3, seqItems, lItems, DL.isNon, endsD, endsM, endsI, setAllD, wipeD, DSt.set, kgG, List.map_cons, List.map_nil, List.cons_append, List.nil_append, List.length_cons, List.length_nil, List.getElem?_cons_zero, List.getElem?_cons_succ, List.set_cons_zero, List.set_cons_succ, List.foldl_cons, List.foldl_nil, if_true, Nat.zero_add, Bool.not_true, Bool.not_false, Bool.false_eq_true, if_false, and_true, true_and]
    exact y
  · have e : ∃ ms : List Int, ms.length ≤ 50 ∧ (∀ m ∈ ms, 0 ≤ m) ∧ (cutG (ns.map D.int) none (some 50)).map (fun d => match d with
      | .int i => .int (if i < 0 then -i else i)
      | _ => .non) = ms.map D.int := by
      refine ⟨(ns.take 50).map fun i => if i < 0 then -i else i, by rw [List.length_map, List.length_take]; omega, fun m hm => ?_, ?_⟩
      · obtain ⟨i, _, rfl⟩ := List.mem_map.mp hm
        split <;> omega
      · have := cut_take (ns.map D.int) 50
        rw [show (((50 : Nat) : Int)) = (50 : Int) from rfl] at this
        rw [this, ← List.map_take, List.map_map, List.map_map]
        rfl
    obtain ⟨ms, h1, h2, e⟩ := e
    rw [e]
    refine for_each (fun st => ∃ x y, st = ⟨[.val (.scr ns), x, .val (.lst (ms.map D.int)), .val (.int y)], none⟩ ∧ 0 ≤ y ∧ y < 2147483647) ⟨_, _, rfl, by decide, by decide⟩ (fun st' h' => ?_) fun d hd st h' k hk => ?_
    · obtain ⟨x, y, rfl, y0, y1⟩ := h'
      simp only [sRet, sSeq, sIf, sSet, sSetM, sNext, sNever, sExpr, sFrz, sX, sPar2, sPar3, sPars, sFor, sAsg, sAug, sSetI, sMk, sRetN, sBreak, sCont, sRetDeal, sFldI, dAndV, dOrV, dNotV, dFn, dFnL, dFnK, dChain, dCB, dCons, dNil, dVarB, dVar, dLit, dOp, dUn, dIf, dB, dNotT, dAndT, dOrT, dYes, dTup, dLst, dSl, dPart, dNoP, dRev, dJoin, dFldC, dMake, dLc, iA, iE, iR1, iR2, vNil, vE, vF, xMut, xMut2E, xE, gdName, gdTup, gdCons, gdNil, gLen, gLt, gLe, gGt, gGe, gCmp, gSl, gSlL, gIx, gI, gIc, gAdd, gLL, gTuple, gList, gSorted, gInt, gAbs, gRepr, gAppend, gInsert, gNeg, gIsT, gIsNotT, gJoin, isi_tup, DL.ne_int, DL.eq_int, DL.eq_str, DL.ne_str, at_0, at_1, at_2, at_3, seqItems, lItems, DL.isNon, endsD, endsM, endsI, setAllD, wipeD, DSt.set, kgG, List.map_cons, List.map_nil, List.cons_append, List.nil_append, List.length_cons, List.length_nil, List.getElem?_cons_zero, List.getElem?_cons_succ, List.set_cons_zero, List.set_cons_succ, List.foldl_cons, List.foldl_nil, if_true, Nat.zero_add, Bool.not_true, Bool.not_false, Bool.false_eq_true, if_false, and_true, true_and]
      refine lc_det (fun d => match d with
        | .int i => decide ((10 : Int) ^ (18 : Int).toNat ≤ i)
        | _ => false) (fun d => d) (fun d hd Y Z y z => ?_) ?_
      · obtain ⟨i, hi, rfl⟩ := List.mem_map.mp hd
        simp only [sRet, sSeq, sIf, sSet, sSetM, sNext, sNever, sExpr, sFrz, sX, sPar2, sPar3, sPars, sFor, sAsg, sAug, sSetI, sMk, sRetN, sBreak, sCont, sRetDeal, sFldI, dAndV, dOrV, dNotV, dFn, dFnL, dFnK, dChain, dCB, dCons, dNil, dVarB, dVar, dLit, dOp, dUn, dIf, dB, dNotT, dAndT, dOrT, dYes, dTup, dLst, dSl, dPart, dNoP, dRev, dJoin, dFldC, dMake, dLc, iA, iE, iR1, iR2, vNil, vE, vF, xMut, xMut2E, xE, gdName, gdTup, gdCons, gdNil, gLen, gLt, gLe, gGt, gGe, gCmp, gSl, gSlL, gIx, gI, gIc, gAdd, gLL, gTuple, gList, gSorted, gInt, gAbs, gRepr, gAppend, gInsert, gNeg, gIsT, gIsNotT, gJoin, isi_tup, DL.ne_int, DL.eq_int, DL.eq_str, DL.ne_str, at_0, at_1, at_2, at_3, seqItems, lItems, DL.isNon, endsD, endsM, endsI, setAllD, wipeD, DSt.set, kgG, List.map_cons, List.map_nil, List.cons_append, List.nil_append, List.length_cons, List.length_nil, List.getElem?_cons_zero, List.getElem?_cons_succ, List.set_cons_zero, List.set_cons_succ, List.foldl_cons, List.foldl_nil, if_true, Nat.zero_add, Bool.not_true, Bool.not_false, Bool.false_eq_true, if_false, and_true, true_and]
        refine ⟨⟨by decide, by decide, by decide⟩, ?_⟩
        by_cases c : (10 : Int) ^ (18 : Int).toNat ≤ i
        · rw [if_pos (decide_eq_true c)]
          exact y (decide_eq_true c)
        · rw [if_neg (fun h => c (of_decide_eq_true h))]
          exact z (decide_eq_false c)
      · rw [List.map_id', filter_map (fun i => decide ((10 : Int) ^ (18 : Int).toNat ≤ i)) _ (fun _ => rfl)]
        refine ⟨y0, y1, ?_, ⟨(ms.filter fun i => decide ((10 : Int) ^ (18 : Int).toNat ≤ i)).reverse, ?_, fun n hn => ?_⟩, q⟩
        · rw [List.length_reverse, List.length_map]
          have := List.length_filter_le (fun i => decide ((10 : Int) ^ (18 : Int).toNat ≤ i)) ms
          omega
        · rw [List.map_reverse]
        · exact h2 n (List.mem_filter.mp (List.mem_reverse.mp hn)).1
    · obtain ⟨x, y, rfl, y0, y1⟩ := h'
      obtain ⟨i, hi, rfl⟩ := List.mem_map.mp hd
      have hi0 := h2 i hi
      simp only [sRet, sSeq, sIf, sSet, sSetM, sNext, sNever, sExpr, sFrz, sX, sPar2, sPar3, sPars, sFor, sAsg, sAug, sSetI, sMk, sRetN, sBreak, sCont, sRetDeal, sFldI, dAndV, dOrV, dNotV, dFn, dFnL, dFnK, dChain, dCB, dCons, dNil, dVarB, dVar, dLit, dOp, dUn, dIf, dB, dNotT, dAndT, dOrT, dYes, dTup, dLst, dSl, dPart, dNoP, dRev, dJoin, dFldC, dMake, dLc, iA, iE, iR1, iR2, vNil, vE, vF, xMut, xMut2E, xE, gdName, gdTup, gdCons, gdNil, gLen, gLt, gLe, gGt, gGe, gCmp, gSl, gSlL, gIx, gI, gIc, gAdd, gLL, gTuple, gList, gSorted, gInt, gAbs, gRepr, gAppend, gInsert, gNeg, gIsT, gIsNotT, gJoin, isi_tup, DL.ne_int, DL.eq_int, DL.eq_str, DL.ne_str, at_0, at_1, at_2, at_3, seqItems, lItems, DL.isNon, endsD, endsM, endsI, setAllD, wipeD, DSt.set, kgG, List.map_cons, List.map_nil, List.cons_append, List.nil_append, List.length_cons, List.length_nil, List.getElem?_cons_zero, List.getElem?_cons_succ, List.set_cons_zero, List.set_cons_succ, List.foldl_cons, List.foldl_nil, if_true, Nat.zero_add, Bool.not_true, Bool.not_false, Bool.false_eq_true, if_false, and_true, true_and]
      refine ⟨?_, by decide, by decide, hk _ ⟨_, _, rfl, Int.emod_nonneg _ (by decide), Int.emod_lt_of_pos _ (by decide)⟩⟩
      show y.natAbs.log2 + (48271 : Int).natAbs.log2 < 1000000
      have a1 := log2_lt (n := y) (k := 31) (by omega) (by decide)
      have a2 := log2_lt (n := 48271) (k := 16) (by decide) (by decide)
      omega
theorem p_law_pick (a b : Addr) (ds : List D) (Q : D → Prop) (hl : ds.length + 1 = 2) (h : sp_law_pick ds Q) : w_law_pick (endsD Q fun _ => False) (initL 2 ds a b) := by
  rcases h with ⟨xs, hx, h0, hz, q⟩ | ⟨z, rfl, h0, hz, q⟩
  · have hp : 0 < (xs.length : Int) := by
      have := List.length_pos_iff.mpr h0
      omega
    rcases hx with rfl | rfl
    · rw [i_law_pick]
      simp only [w_law_pick, sp_law_draw, drawN, sRet, sSeq, sIf, sSet, sSetM, sNext, sNever, sExpr, sFrz, sX, sPar2, sPar3, sPars, sFor, sAsg, sAug, sSetI, sMk, sRetN, sBreak, sCont, sRetDeal, sFldI, dAndV, dOrV, dNotV, dFn, dFnL, dFnK, dChain, dCB, dCons, dNil, dVarB, dVar, dLit, dOp, dUn, dIf, dB, dNotT, dAndT, dOrT, dYes, dTup, dLst, dSl, dPart, dNoP, dRev, dJoin, dFldC, dMake, dLc, iA, iE, iR1, iR2, vNil, vE, vF, xMut, xMut2E, xE, gdName, gdTup, gdCons, gdNil, gLen, gLt, gLe, gGt, gGe, gCmp, gSl, gSlL, gIx, gI, gIc, gAdd, gLL, gTuple, gList, gSorted, gInt, gAbs, gRepr, gAppend, gInsert, gNeg, gIsT, gIsNotT, gJoin, isi_tup, DL.ne_int, DL.eq_int, DL.eq_str, DL.ne_str, at_0, at_1, at_2, at_3, seqItems, lItems, DL.isNon, endsD, endsM, endsI, setAllD, wipeD, DSt.set, kgG, List.map_cons, List.map_nil, List.cons_append, List.nil_append, List.length_cons, List.length_nil, List.getElem?_cons_zero, List.getElem?_cons_succ, List.set_cons_zero, List.set_cons_succ, List.foldl_cons, List.foldl_nil, if_true, Nat.zero_add, Bool.not_true, Bool.not_false, Bool.false_eq_true, if_false, and_true, true_and]
      refine ⟨_, rfl, hp, by omega, fun k k0 k1 => ?_⟩
      obtain ⟨x, hx, e⟩ := atI_in k0 k1
      simp only [sRet, sSeq, sIf, sSet, sSetM, sNext, sNever, sExpr, sFrz, sX, sPar2, sPar3, sPars, sFor, sAsg, sAug, sSetI, sMk, sRetN, sBreak, sCont, sRetDeal, sFldI, dAndV, dOrV, dNotV, dFn, dFnL, dFnK, dChain, dCB, dCons, dNil, dVarB, dVar, dLit, dOp, dUn, dIf, dB, dNotT, dAndT, dOrT, dYes, dTup, dLst, dSl, dPart, dNoP, dRev, dJoin, dFldC, dMake, dLc, iA, iE, iR1, iR2, vNil, vE, vF, xMut, xMut2E, xE, gdName, gdTup, gdCons, gdNil, gLen, gLt, gLe, gGt, gGe, gCmp, gSl, gSlL, gIx, gI, gIc, gAdd, gLL, gTuple, gList, gSorted, gInt, gAbs, gRepr, gAppend, gInsert, gNeg, gIsT, gIsNotT, gJoin, isi_tup, DL.ne_int, DL.eq_int, DL.eq_str, DL.ne_str, at_0, at_1, at_2, at_3, seqItems, lItems, DL.isNon, endsD, endsM, endsI, setAllD, wipeD, DSt.set, kgG, List.map_cons, List.map_nil, List.cons_append, List.nil_append, List.length_cons, List.length_nil, List.getElem?_cons_zero, List.getElem?_cons_succ, List.set_cons_zero, List.set_cons_succ, List.foldl_cons, List.foldl_nil, if_true, Nat.zero_add, Bool.not_true, Bool.not_false, Bool.false_eq_true, if_false, and_true, true_and, e]
      exact q x hx
    · rw [i_law_pick]
      simp only [w_law_pick, sp_law_draw, drawN, sRet, sSeq, sIf, sSet, sSetM, sNext, sNever, sExpr, sFrz, sX, sPar2, sPar3, sPars, sFor, sAsg, sAug, sSetI, sMk, sRetN, sBreak, sCont, sRetDeal, sFldI, dAndV, dOrV, dNotV, dFn, dFnL, dFnK, dChain, dCB, dCons, dNil, dVarB, dVar, dLit, dOp, dUn, dIf, dB, dNotT, dAndT, dOrT, dYes, dTup, dLst, dSl, dPart, dNoP, dRev, dJoin, dFldC, dMake, dLc, iA, iE, iR1, iR2, vNil, vE, vF, xMut, xMut2E, xE, gdName, gdTup, gdCons, gdNil, gLen, gLt, gLe, gGt, gGe, gCmp, gSl, gSlL, gIx, gI, gIc, gAdd, gLL, gTuple, gList, gSorted, gInt, gAbs, gRepr, gAppend, gInsert, gNeg, gIsT, gIsNotT, gJoin, isi_tup, DL.ne_int, DL.eq_int, DL.eq_str, DL.ne_str, at_0, at_1, at_2, at_3, seqItems, lItems, DL.isNon, endsD, endsM, endsI, setAllD, wipeD, DSt.set, kgG, List.map_cons, List.map_nil, List.cons_append, List.nil_append, List.length_cons, List.length_nil, List.getElem?_cons_zero, List.getElem?_cons_succ, List.set_cons_zero, List.set_cons_succ, List.foldl_cons, List.foldl_nil, if_true, Nat.zero_add, Bool.not_true, Bool.not_false, Bool.false_eq_true, if_false, and_true, true_and]
      refine ⟨_, rfl, hp, by omega, fun k k0 k1 => ?_⟩
      obtain ⟨x, hx, e⟩ := atI_in k0 k1
      simp only [sRet, sSeq, sIf, sSet, sSetM, sNext, sNever, sExpr, sFrz, sX, sPar2, sPar3, sPars, sFor, sAsg, sAug, sSetI, sMk, sRetN, sBreak, sCont, sRetDeal, sFldI, dAndV, dOrV, dNotV, dFn, dFnL, dFnK, dChain, dCB, dCons, dNil, dVarB, dVar, dLit, dOp, dUn, dIf, dB, dNotT, dAndT, dOrT, dYes, dTup, dLst, dSl, dPart, dNoP, dRev, dJoin, dFldC, dMake, dLc, iA, iE, iR1, iR2, vNil, vE, vF, xMut, xMut2E, xE, gdName, gdTup, gdCons, gdNil, gLen, gLt, gLe, gGt, gGe, gCmp, gSl, gSlL, gIx, gI, gIc, gAdd, gLL, gTuple, gList, gSorted, gInt, gAbs, gRepr, gAppend, gInsert, gNeg, gIsT, gIsNotT, gJoin, isi_tup, DL.ne_int, DL.eq_int, DL.eq_str, DL.ne_str, at_0, at_1, at_2, at_3, seqItems, lItems, DL.isNon, endsD, endsM, endsI, setAllD, wipeD, DSt.set, kgG, List.map_cons, List.map_nil, List.cons_append, List.nil_append, List.length_cons, List.length_nil, List.getElem?_cons_zero, List.getElem?_cons_succ, List.set_cons_zero, List.set_cons_succ, List.foldl_cons, List.foldl_nil, if_true, Nat.zero_add, Bool.not_true, Bool.not_false, Bool.false_eq_true, if_false, and_true, true_and, e]
      exact q x hx
  · rw [i_law_pick]
    have sz := sizeLine_v
    have hz' : z.length = z.cps.toList.length := by simp [Str.length]
    simp only [w_law_pick, sp_law_draw, drawN, sRet, sSeq, sIf, sSet, sSetM, sNext, sNever, sExpr, sFrz, sX, sPar2, sPar3, sPars, sFor, sAsg, sAug, sSetI, sMk, sRetN, sBreak, sCont, sRetDeal, sFldI, dAndV, dOrV, dNotV, dFn, dFnL, dFnK, dChain, dCB, dCons, dNil, dVarB, dVar, dLit, dOp, dUn, dIf, dB, dNotT, dAndT, dOrT, dYes, dTup, dLst, dSl, dPart, dNoP, dRev, dJoin, dFldC, dMake, dLc, iA, iE, iR1, iR2, vNil, vE, vF, xMut, xMut2E, xE, gdName, gdTup, gdCons, gdNil, gLen, gLt, gLe, gGt, gGe, gCmp, gSl, gSlL, gIx, gI, gIc, gAdd, gLL, gTuple, gList, gSorted, gInt, gAbs, gRepr, gAppend, gInsert, gNeg, gIsT, gIsNotT, gJoin, isi_tup, DL.ne_int, DL.eq_int, DL.eq_str, DL.ne_str, at_0, at_1, at_2, at_3, seqItems, lItems, DL.isNon, endsD, endsM, endsI, setAllD, wipeD, DSt.set, kgG, List.map_cons, List.map_nil, List.cons_append, List.nil_append, List.length_cons, List.length_nil, List.getElem?_cons_zero, List.getElem?_cons_succ, List.set_cons_zero, List.set_cons_succ, List.foldl_cons, List.foldl_nil, if_true, Nat.zero_add, Bool.not_true, Bool.not_false, Bool.false_eq_true, if_false, and_true, true_and]
    refine ⟨by omega, _, rfl, by omega, by omega, fun k k0 k1 => ?_⟩
    obtain ⟨x, hx, e⟩ := atI_in (xs := z.cps.toList) k0 (by omega)
    simp only [sRet, sSeq, sIf, sSet, sSetM, sNext, sNever, sExpr, sFrz, sX, sPar2, sPar3, sPars, sFor, sAsg, sAug, sSetI, sMk, sRetN, sBreak, sCont, sRetDeal, sFldI, dAndV, dOrV, dNotV, dFn, dFnL, dFnK, dChain, dCB, dCons, dNil, dVarB, dVar, dLit, dOp, dUn, dIf, dB, dNotT, dAndT, dOrT, dYes, dTup, dLst, dSl, dPart, dNoP, dRev, dJoin, dFldC, dMake, dLc, iA, iE, iR1, iR2, vNil, vE, vF, xMut, xMut2E, xE, gdName, gdTup, gdCons, gdNil, gLen, gLt, gLe, gGt, gGe, gCmp, gSl, gSlL, gIx, gI, gIc, gAdd, gLL, gTuple, gList, gSorted, gInt, gAbs, gRepr, gAppend, gInsert, gNeg, gIsT, gIsNotT, gJoin, isi_tup, DL.ne_int, DL.eq_int, DL.eq_str, DL.ne_str, at_0, at_1, at_2, at_3, seqItems, lItems, DL.isNon, endsD, endsM, endsI, setAllD, wipeD, DSt.set, kgG, List.map_cons, List.map_nil, List.cons_append, List.nil_append, List.length_cons, List.length_nil, List.getElem?_cons_zero, List.getElem?_cons_succ, List.set_cons_zero, List.set_cons_succ, List.foldl_cons, List.foldl_nil, if_true, Nat.zero_add, Bool.not_true, Bool.not_false, Bool.false_eq_true, if_false, and_true, true_and, e]
    exact ⟨by omega, q x hx⟩
theorem p_law_mixed (a b : Addr) (ds : List D) (Q : D → Prop) (hl : ds.length + 1 = 2) (h : sp_law_mixed ds Q) : w_law_mixed (endsD Q fun _ => False) (initL 4 ds a b) := by
  obtain ⟨xs, rfl, hz, q⟩ := h
  rw [i_law_mixed]
  simp only [w_law_mixed, sRet, sSeq, sIf, sSet, sSetM, sNext, sNever, sExpr, sFrz, sX, sPar2, sPar3, sPars, sFor, sAsg, sAug, sSetI, sMk, sRetN, sBreak, sCont, sRetDeal, sFldI, dAndV, dOrV, dNotV, dFn, dFnL, dFnK, dChain, dCB, dCons, dNil, dVarB, dVar, dLit, dOp, dUn, dIf, dB, dNotT, dAndT, dOrT, dYes, dTup, dLst, dSl, dPart, dNoP, dRev, dJoin, dFldC, dMake, dLc, iA, iE, iR1, iR2, vNil, vE, vF, xMut, xMut2E, xE, gdName, gdTup, gdCons, gdNil, gLen, gLt, gLe, gGt, gGe, gCmp, gSl, gSlL, gIx, gI, gIc, gAdd, gLL, gTuple, gList, gSorted, gInt, gAbs, gRepr, gAppend, gInsert, gNeg, gIsT, gIsNotT, gJoin, isi_tup, DL.ne_int, DL.eq_int, DL.eq_str, DL.ne_str, at_0, at_1, at_2, at_3, seqItems, lItems, DL.isNon, endsD, endsM, endsI, setAllD, wipeD, DSt.set, kgG, List.map_cons, List.map_nil, List.cons_append, List.nil_append, List.length_cons, List.length_nil, List.getElem?_cons_zero, List.getElem?_cons_succ, List.set_cons_zero, List.set_cons_succ, List.foldl_cons, List.foldl_nil, if_true, Nat.zero_add, Bool.not_true, Bool.not_false, Bool.false_eq_true, if_false, and_true, true_and]
  refine ⟨by decide, ?_⟩
  refine for_ix (ds := xs) (i := 0) (fun i st => ∃ ys y, st = ⟨[.deal, .val (.lst xs), .mu (.lst ys), y], some (a, b)⟩ ∧ ys.Perm (xs.take i)) rfl ⟨_, _, rfl, .nil⟩ (fun st' h' => ?_) (Nat.zero_le _) fun i d st hd h' k hk => ?_
  · obtain ⟨ys, y, rfl, p⟩ := h'
    rw [List.take_length] at p
    exact q ys p
  · obtain ⟨ys, y, rfl, p⟩ := h'
    have hi := (List.getElem?_eq_some_iff.mp hd).1
    have hlen := p.length_eq
    rw [List.length_take] at hlen
    have sz := sizeLine_v
    simp only [sp_law_draw, drawN, sRet, sSeq, sIf, sSet, sSetM, sNext, sNever, sExpr, sFrz, sX, sPar2, sPar3, sPars, sFor, sAsg, sAug, sSetI, sMk, sRetN, sBreak, sCont, sRetDeal, sFldI, dAndV, dOrV, dNotV, dFn, dFnL, dFnK, dChain, dCB, dCons, dNil, dVarB, dVar, dLit, dOp, dUn, dIf, dB, dNotT, dAndT, dOrT, dYes, dTup, dLst, dSl, dPart, dNoP, dRev, dJoin, dFldC, dMake, dLc, iA, iE, iR1, iR2, vNil, vE, vF, xMut, xMut2E, xE, gdName, gdTup, gdCons, gdNil, gLen, gLt, gLe, gGt, gGe, gCmp, gSl, gSlL, gIx, gI, gIc, gAdd, gLL, gTuple, gList, gSorted, gInt, gAbs, gRepr, gAppend, gInsert, gNeg, gIsT, gIsNotT, gJoin, isi_tup, DL.ne_int, DL.eq_int, DL.eq_str, DL.ne_str, at_0, at_1, at_2, at_3, seqItems, lItems, DL.isNon, endsD, endsM, endsI, setAllD, wipeD, DSt.set, kgG, List.map_cons, List.map_nil, List.cons_append, List.nil_append, List.length_cons, List.length_nil, List.getElem?_cons_zero, List.getElem?_cons_succ, List.set_cons_zero, List.set_cons_succ, List.foldl_cons, List.foldl_nil, if_true, Nat.zero_add, Bool.not_true, Bool.not_false, Bool.false_eq_true, if_false, and_true, true_and]
    refine ⟨⟨_, rfl⟩, _, rfl, by omega, by omega, fun n n0 n1 => ?_⟩
    refine ⟨by omega, n0, by omega, hk _ ⟨_, _, rfl, ?_⟩⟩
    have e : xs.take (i + 1) = xs.take i ++ [d] := by rw [List.take_add_one, hd]; rfl
    rw [e]
    have p1 : (ys.take n.toNat ++ [d] ++ ys.drop n.toNat).Perm (d :: (ys.take n.toNat ++ ys.drop n.toNat)) := by
      rw [List.append_assoc]
      exact List.perm_middle
    rw [List.take_append_drop] at p1
    exact p1.trans ((p.cons d).trans (List.perm_append_comm (l₁ := [d])))
end K67

namespace K67
open PySem PySem.Spec PyProof.Rows L2 DL
theorem letters_rng {c : Nat} (h : c ∈ (Str.ofString "abcdefghijklmnopqrstuvwxyz").cps.toList) : 97 ≤ c ∧ c ≤ 122 := by
  rw [letters_cps] at h
  simp only [List.mem_cons, List.not_mem_nil, or_false] at h
  omega
theorem letters_at {k : Int} (h0 : 0 ≤ k) (h1 : k < 26) : L2.atI (Str.ofString "abcdefghijklmnopqrstuvwxyz").cps.toList k = some (97 + k.toNat) := by
  have e : k = ((k.toNat : Nat) : Int) := by omega
  rw [e, atI_nat, letters_cps, Int.toNat_natCast]
  have h2 : k.toNat < 26 := by omega
  have go : ∀ n : Fin 26, ([97, 98, 99, 100, 101, 102, 103, 104, 105, 106, 107, 108, 109, 110, 111, 112, 113, 114, 115, 116, 117, 118, 119, 120, 121, 122] : List Nat)[n.val]? = some (97 + n.val) := by decide
  exact go ⟨k.toNat, h2⟩
/-- a permutation of a map is a map of a permutation -/
theorem perm_map {α β : Type} {f : α → β} : ∀ {ys : List β} {xs : List α}, ys.Perm (xs.map f) → ∃ zs : List α, zs.Perm xs ∧ ys = zs.map f
  | [], xs, p => by
    have := p.symm.eq_nil
    rw [List.map_eq_nil_iff] at this
    rw [this]
    exact ⟨[], .nil, rfl⟩
  | y :: ys, xs, p => by
    have hm : y ∈ xs.map f := p.subset List.mem_cons_self
    obtain ⟨x, hx, rfl⟩ := List.mem_map.mp hm
    obtain ⟨l1, l2, rfl⟩ := List.append_of_mem hx
    rw [List.map_append, List.map_cons] at p
    have p2 : ys.Perm ((l1 ++ l2).map f) := by
      rw [List.map_append]
      exact (p.trans List.perm_middle).cons_inv
    obtain ⟨zs, pz, rfl⟩ := perm_map p2
    exact ⟨x :: zs, (pz.cons x).trans List.perm_middle.symm, rfl⟩
/-- a small word of signs -/
theorem nm_signs {cs : List Nat} (h0 : 1 ≤ cs.length) (h1 : cs.length ≤ 8) (h : ∀ c ∈ cs, 97 ≤ c ∧ c ≤ 122) : nm ⟨cs.toArray⟩ := by
  refine ⟨by simpa [Str.length] using h0, by simpa [Str.length] using h1, fun c hc => h c (by simpa using hc)⟩
theorem join_word {cs : List Nat} {Q : D → Prop} (h1 : cs.length ≤ 8) (h : ∀ c ∈ cs, 97 ≤ c ∧ c ≤ 122) (q : Q (.str ⟨cs.toArray⟩)) : gJoin (Str.ofString "") (.lst (cs.map sgn)) Q := by
  unfold gJoin
  simp only [seqItems, strsOf_signs, join_signs]
  refine ⟨?_, ?_, q⟩
  · have e : (List.map (fun x : Str => x.length) (cs.map fun c => (⟨#[c]⟩ : Str))).sum = cs.length := by
      rw [List.map_map]
      clear q h h1
      induction cs with
      | nil => rfl
      | cons c cs ih =>
        rw [List.map_cons, List.sum_cons, ih]
        show 1 + cs.length = cs.length + 1
        omega
    rw [e]
    have : (Str.ofString "").length = 0 := rfl
    rw [this]
    omega
  · show (cs.toArray).all (· < 0x110000) = true
    rw [Array.all_eq_true']
    intro c hc
    have := h c (by simpa using hc)
    simp only [decide_eq_true_eq]
    omega
def w_words2 : FS := (sSeq (sPar3 5 6 7 (vE (dOp gAdd (dIf (dB (dOp gLe (dVarB 1) (dLit (.int 26)))) (dLit (.int 1)) (dLit (.int 2))) (dFnL 0 2 sp_law_draw (dCons (dLit (.int 7)) dNil))) (vE (dFnL 0 2 sp_law_draw (dCons (dLit (.int 26)) dNil)) (vF (dLst dNil) vNil))))
 (sSeq (sSet 8 (dFnL 0 2 sp_law_draw (dCons (dVar 5) dNil)))
 (sSeq (sFor (iR1 (dCons (dVarB 1) dNil)) (gdName 4)
 (sSeq (sSetI 3 (dOp gIx (dVarB 2) (dOp (gIc (fun _ j => 0 < j) fun i j => .int (i % j)) (dCB gInt (dCons (dOp gAdd (dVarB 6) (dOp (gIc CMulW fun i j => .int (i * j)) (dLit (.int 7)) (dVarB 4))) dNil)) (dLit (.int 26)))) (dVar 8))
 (sSeq (sIf (dB (dOp gGt (dVarB 1) (dLit (.int 26))))
 (sSetI 3 (dOp gIx (dVarB 2) (dOp (gIc CDivW fun i j => .int (i / j)) (dVarB 4) (dLit (.int 26)))) (dOp (gIc (fun _ j => 0 < j) fun i j => .int (i % j)) (dCB gInt (dCons (dOp gAdd (dVarB 8) (dLit (.int 1))) dNil)) (dVarB 5)))
 sNext)
 (sX (xMut 7 gAppend (xE (dJoin (dLit (.str "")) (dSl gSl (dVarB 3) dNoP (dPart (dVar 5))))))))))
 (sFrz 7 (sRet (dVar 7))))))
def WS (sh k8 : Int) (ws : List Str) : Prop := ∀ (i : Nat) (hi : i < ws.length), (ws[i]).cps.toList[k8.toNat]? = some (97 + ((sh + 7 * (i : Int)) % 26).toNat)
theorem words_nodup {ws : List Str} {sh k8 : Int} (hn : ws.length ≤ 26) (hs : 0 ≤ sh) (h : WS sh k8 ws) : ws.Nodup := by
  refine List.pairwise_iff_getElem.mpr fun i j hi hj hij e => ?_
  have h1 := h i hi
  have h2 := h j hj
  rw [e, h2] at h1
  injection h1 with h1
  omega
theorem ixN_ok {n : Nat} {k : Int} (h0 : 0 ≤ k) (h1 : k < n) : L2.ixN n k = some k.toNat := by
  unfold ixN
  rw [if_pos h0, if_pos h1]
theorem words_tail (a b : Addr) (n : Nat) (cs : List Nat) (s4 s9 : Sl) (Q : D → Prop) (hn : n ≤ 26) (hc : cs.length = 8) (hr : ∀ c ∈ cs, 97 ≤ c ∧ c ≤ 122) (q : ∀ ws : List Str, ws.length = n → ws.Nodup → (∀ s ∈ ws, nm s) → Q (.lst (ws.map D.str))) :
    w_words2 (endsD Q fun _ => False) ⟨[.deal, .val (.int n), .val (.str "abcdefghijklmnopqrstuvwxyz"), .mu (.lst (cs.map sgn)), s4, .no, .no, .no, .no, s9], some (a, b)⟩ := by
  have n26 : decide ((n : Int) ≤ 26) = true := decide_eq_true (by omega)
  have n26' : decide ((26 : Int) < (n : Int)) = false := decide_eq_false (by omega)
  simp only [w_words2, sp_law_draw, drawN, sRet, sSeq, sIf, sSet, sSetM, sNext, sNever, sExpr, sFrz, sX, sPar2, sPar3, sPars, sFor, sAsg, sAug, sSetI, sMk, sRetN, sBreak, sCont, sRetDeal, sFldI, dAndV, dOrV, dNotV, dFn, dFnL, dFnK, dChain, dCB, dCons, dNil, dVarB, dVar, dLit, dOp, dUn, dIf, dB, dNotT, dAndT, dOrT, dYes, dTup, dLst, dSl, dPart, dNoP, dRev, dJoin, dFldC, dMake, dLc, iA, iE, iR1, iR2, vNil, vE, vF, xMut, xMut2E, xE, gdName, gdTup, gdCons, gdNil, gLen, gLt, gLe, gGt, gGe, gCmp, gSl, gSlL, gIx, gI, gIc, gAdd, gLL, gTuple, gList, gSorted, gInt, gAbs, gRepr, gAppend, gInsert, gNeg, gIsT, gIsNotT, isi_tup, DL.ne_int, DL.eq_int, DL.eq_str, DL.ne_str, at_0, at_1, at_2, at_3, seqItems, lItems, DL.isNon, endsD, endsM, endsI, setAllD, wipeD, DSt.set, kgG, List.map_cons, List.map_nil, List.cons_append, List.nil_append, List.length_cons, List.length_nil, List.getElem?_cons_zero, List.getElem?_cons_succ, List.set_cons_zero, List.set_cons_succ, List.foldl_cons, List.foldl_nil, if_true, Nat.zero_add, Bool.not_true, Bool.not_false, Bool.false_eq_true, if_false, and_true, true_and, n26]
  refine ⟨_, rfl, by decide, by decide, fun k5 a0 a1 => ?_⟩
  refine ⟨_, rfl, by decide, by decide, fun sh b0 b1 => ?_⟩
  refine ⟨by decide, _, rfl, by omega, by omega, fun k8 c0 c1 => ?_⟩
  refine ⟨by omega, by omega, ?_⟩
  refine for_rng (fun i st => ∃ cs ws s4, st = ⟨[.deal, .val (.int n), .val (.str "abcdefghijklmnopqrstuvwxyz"), .mu (.lst (cs.map sgn)), s4, .val (.int (1 + k5)), .val (.int sh), .mu (.lst (ws.map D.str)), .val (.int k8), s9], some (a, b)⟩ ∧
    cs.length = 8 ∧ (∀ c ∈ cs, 97 ≤ c ∧ c ≤ 122) ∧ ws.length = i ∧ (∀ s ∈ ws, nm s) ∧ WS sh k8 ws) ⟨cs, [], _, rfl, hc, hr, rfl, (fun s h => absurd h List.not_mem_nil), (fun i h => absurd h (Nat.not_lt_zero i))⟩ (fun st' h' => ?_) fun i hi st h' k hk => ?_
  · obtain ⟨cs, ws, s4, rfl, z1, z2, z3, z4, z5⟩ := h'
    simp only [Int.toNat_natCast] at z3
    simp only [sRet, sSeq, sIf, sSet, sSetM, sNext, sNever, sExpr, sFrz, sX, sPar2, sPar3, sPars, sFor, sAsg, sAug, sSetI, sMk, sRetN, sBreak, sCont, sRetDeal, sFldI, dAndV, dOrV, dNotV, dFn, dFnL, dFnK, dChain, dCB, dCons, dNil, dVarB, dVar, dLit, dOp, dUn, dIf, dB, dNotT, dAndT, dOrT, dYes, dTup, dLst, dSl, dPart, dNoP, dRev, dJoin, dFldC, dMake, dLc, iA, iE, iR1, iR2, vNil, vE, vF, xMut, xMut2E, xE, gdName, gdTup, gdCons, gdNil, gLen, gLt, gLe, gGt, gGe, gCmp, gSl, gSlL, gIx, gI, gIc, gAdd, gLL, gTuple, gList, gSorted, gInt, gAbs, gRepr, gAppend, gInsert, gNeg, gIsT, gIsNotT, isi_tup, DL.ne_int, DL.eq_int, DL.eq_str, DL.ne_str, at_0, at_1, at_2, at_3, seqItems, lItems, DL.isNon, endsD, endsM, endsI, setAllD, wipeD, DSt.set, kgG, List.map_cons, List.map_nil, List.cons_append, List.nil_append, List.length_cons, List.length_nil, List.getElem?_cons_zero, List.getElem?_cons_succ, List.set_cons_zero, List.set_cons_succ, List.foldl_cons, List.foldl_nil, if_true, Nat.zero_add, Bool.not_true, Bool.not_false, Bool.false_eq_true, if_false, and_true, true_and]
    exact q ws z3 (words_nodup (by omega) b0 z5) z4
  · obtain ⟨cs, ws, s4, rfl, z1, z2, z3, z4, z5⟩ := h'
    rw [Int.toNat_natCast] at hi
    simp only [sRet, sSeq, sIf, sSet, sSetM, sNext, sNever, sExpr, sFrz, sX, sPar2, sPar3, sPars, sFor, sAsg, sAug, sSetI, sMk, sRetN, sBreak, sCont, sRetDeal, sFldI, dAndV, dOrV, dNotV, dFn, dFnL, dFnK, dChain, dCB, dCons, dNil, dVarB, dVar, dLit, dOp, dUn, dIf, dB, dNotT, dAndT, dOrT, dYes, dTup, dLst, dSl, dPart, dNoP, dRev, dJoin, dFldC, dMake, dLc, iA, iE, iR1, iR2, vNil, vE, vF, xMut, xMut2E, xE, gdName, gdTup, gdCons, gdNil, gLen, gLt, gLe, gGt, gGe, gCmp, gSl, gSlL, gIx, gI, gIc, gAdd, gLL, gTuple, gList, gSorted, gInt, gAbs, gRepr, gAppend, gInsert, gNeg, gIsT, gIsNotT, isi_tup, DL.ne_int, DL.eq_int, DL.eq_str, DL.ne_str, at_0, at_1, at_2, at_3, seqItems, lItems, DL.isNon, endsD, endsM, endsI, setAllD, wipeD, DSt.set, kgG, List.map_cons, List.map_nil, List.cons_append, List.nil_append, List.length_cons, List.length_nil, List.getElem?_cons_zero, List.getElem?_cons_succ, List.set_cons_zero, List.set_cons_succ, List.foldl_cons, List.foldl_nil, if_true, Nat.zero_add, Bool.not_true, Bool.not_false, Bool.false_eq_true, if_false, and_true, true_and, n26']
    have m0 := Int.emod_nonneg (sh + 7 * (i : Int)) (b := 26) (by decide)
    have m1 := Int.emod_lt_of_pos (sh + 7 * (i : Int)) (b := 26) (by decide)
    have i8 : L2.ixN (cs.map sgn).length k8 = some k8.toNat := ixN_ok c0 (by rw [List.length_map]; omega)
    simp only [letters_at m0 m1, i8, ← List.map_set]
    have tk : cutG ((cs.set k8.toNat (97 + ((sh + 7 * (i : Int)) % 26).toNat)).map sgn) none (some (1 + k5)) = ((cs.set k8.toNat (97 + ((sh + 7 * (i : Int)) % 26).toNat)).take (1 + k5).toNat).map sgn := by
      have e : (1 + k5) = (((1 + k5).toNat : Nat) : Int) := by omega
      rw [e, cut_take, List.map_take]
      congr 1
    have r2 : ∀ c ∈ cs.set k8.toNat (97 + ((sh + 7 * (i : Int)) % 26).toNat), 97 ≤ c ∧ c ≤ 122 := fun c hc => by
      rcases List.mem_or_eq_of_mem_set hc with h | h
      · exact z2 c h
      · omega
    rw [tk]
    have sz := sizeLine_v
    refine ⟨⟨_, rfl⟩, ?_, by decide, by decide, ⟨_, rfl⟩, ?_⟩
    · show (7 : Int).natAbs.log2 + (i : Int).natAbs.log2 < 1000000
      have a1 := log2_lt (n := 7) (k := 3) (by decide) (by decide)
      have a2 := log2_lt (n := (i : Int)) (k := 5) (by omega) (by decide)
      omega
    have l8 : ((cs.set k8.toNat (97 + ((sh + 7 * (i : Int)) % 26).toNat)).take (1 + k5).toNat).length = (1 + k5).toNat := by
      rw [List.length_take, List.length_set, z1]
      omega
    have r3 : ∀ c ∈ (cs.set k8.toNat (97 + ((sh + 7 * (i : Int)) % 26).toNat)).take (1 + k5).toNat, 97 ≤ c ∧ c ≤ 122 := fun c hc => r2 c (List.mem_of_mem_take hc)
    refine join_word (by omega) r3 ?_
    refine ⟨by rw [List.length_map]; omega, hk _ ⟨cs.set k8.toNat (97 + ((sh + 7 * (i : Int)) % 26).toNat), ws ++ [⟨((cs.set k8.toNat (97 + ((sh + 7 * (i : Int)) % 26).toNat)).take (1 + k5).toNat).toArray⟩], _, by rw [List.map_append]; rfl, by rw [List.length_set]; exact z1, r2, by rw [List.length_append, z3]; rfl, fun s hs => ?_, fun j hj => ?_⟩⟩
    · rcases List.mem_append.mp hs with h | h
      · exact z4 s h
      · rw [List.mem_singleton.mp h]
        exact nm_signs (by omega) (by omega) r3
    · by_cases hj' : j < ws.length
      · rw [List.getElem_append_left hj']
        exact z5 j hj'
      · have ej : j = i := by
          rw [List.length_append, z3] at hj
          have : j < i + 1 := hj
          omega
        subst ej
        rw [List.getElem_append_right (by omega)]
        simp only [z3, Nat.sub_self, List.getElem_cons_zero]
        rw [List.getElem?_take_of_lt (by omega), List.getElem?_set_self (by omega)]
theorem p_law_words (a b : Addr) (ds : List D) (Q : D → Prop) (hl : ds.length + 1 = 2) (h : sp_law_words ds Q) : w_law_words (endsD Q fun _ => False) (initL 10 ds a b) := by
  obtain ⟨n, rfl, hn, q⟩ := h
  rw [i_law_words]
  have tail := fun cs s4 hc hr => words_tail a b n cs s4 .no Q hn hc hr q
  have ew : w_law_words = sSeq (sSet 2 (dLit (.str "abcdefghijklmnopqrstuvwxyz")))
    (sSeq (sSetM 3 (dLc (iR1 (dCons (dLit (.int 8)) dNil)) (gdName 9) dYes (dFnL 0 2 sp_law_pick (dCons (dVar 2) dNil)) [9]))
    (sSeq (sIf (dAndT (dB (dOp gLe (dVarB 1) (dLit (.int 8)))) (dB (dOp gEqT (dFnL 0 2 sp_law_draw (dCons (dLit (.int 3)) dNil)) (dLit (.int 0)))))
      (sRet (dFnL 0 2 sp_law_mixed (dCons (dLc (iR1 (dCons (dVarB 1) dNil)) (gdName 4) dYes (dJoin (dLit (.str "")) (dSl gSl (dVarB 3) dNoP (dPart (dOp gAdd (dLit (.int 1)) (dVarB 4))))) [4]) dNil)))
      sNext) w_words2)) := rfl
  rw [ew]
  generalize w_words2 = R at tail ⊢
  simp only [sRet, sSeq, sIf, sSet, sSetM, sNext, sNever, sExpr, sFrz, sX, sPar2, sPar3, sPars, sFor, sAsg, sAug, sSetI, sMk, sRetN, sBreak, sCont, sRetDeal, sFldI, dAndV, dOrV, dNotV, dFn, dFnL, dFnK, dChain, dCB, dCons, dNil, dVarB, dVar, dLit, dOp, dUn, dIf, dB, dNotT, dAndT, dOrT, dYes, dTup, dLst, dSl, dPart, dNoP, dRev, dJoin, dFldC, dMake, dLc, iA, iE, iR1, iR2, vNil, vE, vF, xMut, xMut2E, xE, gdName, gdTup, gdCons, gdNil, gLen, gLt, gLe, gGt, gGe, gCmp, gSl, gSlL, gIx, gI, gIc, gAdd, gLL, gTuple, gList, gSorted, gInt, gAbs, gRepr, gAppend, gInsert, gNeg, gIsT, gIsNotT, isi_tup, DL.ne_int, DL.eq_int, DL.eq_str, DL.ne_str, at_0, at_1, at_2, at_3, seqItems, lItems, DL.isNon, endsD, endsM, endsI, setAllD, wipeD, DSt.set, kgG, List.map_cons, List.map_nil, List.cons_append, List.nil_append, List.length_cons, List.length_nil, List.getElem?_cons_zero, List.getElem?_cons_succ, List.set_cons_zero, List.set_cons_succ, List.foldl_cons, List.foldl_nil, if_true, Nat.zero_add, Bool.not_true, Bool.not_false, Bool.false_eq_true, if_false, and_true, true_and]
  refine ⟨by decide, by decide, ?_⟩
  refine lc_rel (fun done acc => ∃ cs : List Nat, acc = cs.map sgn ∧ cs.length = done.length ∧ ∀ c ∈ cs, 97 ≤ c ∧ c ≤ 122) [] [] ⟨[], rfl, rfl, fun c h => absurd h List.not_mem_nil⟩ (fun acc h' => ?_) (fun done acc d Y Z h' hd hy hz => ?_)
  · obtain ⟨cs, e, hc, hr⟩ := h'
    rw [List.nil_append] at e
    subst e
    have hc8 : cs.length = 8 := by
      rw [hc]
      simp [rngD]
    by_cases n8 : (n : Int) ≤ 8
    · simp only [decide_eq_true n8, sp_law_draw, drawN, sRet, sSeq, sIf, sSet, sSetM, sNext, sNever, sExpr, sFrz, sX, sPar2, sPar3, sPars, sFor, sAsg, sAug, sSetI, sMk, sRetN, sBreak, sCont, sRetDeal, sFldI, dAndV, dOrV, dNotV, dFn, dFnL, dFnK, dChain, dCB, dCons, dNil, dVarB, dVar, dLit, dOp, dUn, dIf, dB, dNotT, dAndT, dOrT, dYes, dTup, dLst, dSl, dPart, dNoP, dRev, dJoin, dFldC, dMake, dLc, iA, iE, iR1, iR2, vNil, vE, vF, xMut, xMut2E, xE, gdName, gdTup, gdCons, gdNil, gLen, gLt, gLe, gGt, gGe, gCmp, gSl, gSlL, gIx, gI, gIc, gAdd, gLL, gTuple, gList, gSorted, gInt, gAbs, gRepr, gAppend, gInsert, gNeg, gIsT, gIsNotT, isi_tup, DL.ne_int, DL.eq_int, DL.eq_str, DL.ne_str, at_0, at_1, at_2, at_3, seqItems, lItems, DL.isNon, endsD, endsM, endsI, setAllD, wipeD, DSt.set, kgG, List.map_cons, List.map_nil, List.cons_append, List.nil_append, List.length_cons, List.length_nil, List.getElem?_cons_zero, List.getElem?_cons_succ, List.set_cons_zero, List.set_cons_succ, List.foldl_cons, List.foldl_nil, if_true, Nat.zero_add, Bool.not_true, Bool.not_false, Bool.false_eq_true, if_false, and_true, true_and]
      refine ⟨_, rfl, by decide, by decide, fun k a0 a1 => ?_⟩
      by_cases k0 : k = 0
      · simp only [decide_eq_true k0, sRet, sSeq, sIf, sSet, sSetM, sNext, sNever, sExpr, sFrz, sX, sPar2, sPar3, sPars, sFor, sAsg, sAug, sSetI, sMk, sRetN, sBreak, sCont, sRetDeal, sFldI, dAndV, dOrV, dNotV, dFn, dFnL, dFnK, dChain, dCB, dCons, dNil, dVarB, dVar, dLit, dOp, dUn, dIf, dB, dNotT, dAndT, dOrT, dYes, dTup, dLst, dSl, dPart, dNoP, dRev, dJoin, dFldC, dMake, dLc, iA, iE, iR1, iR2, vNil, vE, vF, xMut, xMut2E, xE, gdName, gdTup, gdCons, gdNil, gLen, gLt, gLe, gGt, gGe, gCmp, gSl, gSlL, gIx, gI, gIc, gAdd, gLL, gTuple, gList, gSorted, gInt, gAbs, gRepr, gAppend, gInsert, gNeg, gIsT, gIsNotT, isi_tup, DL.ne_int, DL.eq_int, DL.eq_str, DL.ne_str, at_0, at_1, at_2, at_3, seqItems, lItems, DL.isNon, endsD, endsM, endsI, setAllD, wipeD, DSt.set, kgG, List.map_cons, List.map_nil, List.cons_append, List.nil_append, List.length_cons, List.length_nil, List.getElem?_cons_zero, List.getElem?_cons_succ, List.set_cons_zero, List.set_cons_succ, List.foldl_cons, List.foldl_nil, if_true, Nat.zero_add, Bool.not_true, Bool.not_false, Bool.false_eq_true, if_false, and_true, true_and]
        refine ⟨by omega, by omega, ?_⟩
        rw [Int.toNat_natCast]
        refine lc_map (fun d => match d with
          | .int i => .str ⟨(cs.take (1 + i).toNat).toArray⟩
          | _ => .non) (fun d hd Y y => ?_) ?_
        · unfold rngD at hd
          obtain ⟨i, hi, rfl⟩ := List.mem_map.mp hd
          rw [List.mem_range] at hi
          simp only [sRet, sSeq, sIf, sSet, sSetM, sNext, sNever, sExpr, sFrz, sX, sPar2, sPar3, sPars, sFor, sAsg, sAug, sSetI, sMk, sRetN, sBreak, sCont, sRetDeal, sFldI, dAndV, dOrV, dNotV, dFn, dFnL, dFnK, dChain, dCB, dCons, dNil, dVarB, dVar, dLit, dOp, dUn, dIf, dB, dNotT, dAndT, dOrT, dYes, dTup, dLst, dSl, dPart, dNoP, dRev, dJoin, dFldC, dMake, dLc, iA, iE, iR1, iR2, vNil, vE, vF, xMut, xMut2E, xE, gdName, gdTup, gdCons, gdNil, gLen, gLt, gLe, gGt, gGe, gCmp, gSl, gSlL, gIx, gI, gIc, gAdd, gLL, gTuple, gList, gSorted, gInt, gAbs, gRepr, gAppend, gInsert, gNeg, gIsT, gIsNotT, isi_tup, DL.ne_int, DL.eq_int, DL.eq_str, DL.ne_str, at_0, at_1, at_2, at_3, seqItems, lItems, DL.isNon, endsD, endsM, endsI, setAllD, wipeD, DSt.set, kgG, List.map_cons, List.map_nil, List.cons_append, List.nil_append, List.length_cons, List.length_nil, List.getElem?_cons_zero, List.getElem?_cons_succ, List.set_cons_zero, List.set_cons_succ, List.foldl_cons, List.foldl_nil, if_true, Nat.zero_add, Bool.not_true, Bool.not_false, Bool.false_eq_true, if_false, and_true, true_and]
          have e : (1 + (0 + (i : Int))) = (((1 + (0 + (i : Int))).toNat : Nat) : Int) := by omega
          rw [e, cut_take, ← List.map_take]
          exact join_word (by rw [List.length_take]; omega) (fun c hc => hr c (List.mem_of_mem_take hc)) y
        · have e : (rngD 0 n).map (fun d => match d with
              | .int i => .str ⟨(cs.take (1 + i).toNat).toArray⟩
              | _ => .non) = ((List.range n).map fun i => (⟨(cs.take (1 + i)).toArray⟩ : Str)).map D.str := by
            unfold rngD
            rw [List.map_map, List.map_map]
            refine List.map_congr_left fun i _ => ?_
            show D.str ⟨(cs.take (1 + (0 + (i : Int))).toNat).toArray⟩ = D.str ⟨(cs.take (1 + i)).toArray⟩
            have : (1 + (0 + (i : Int))).toNat = 1 + i := by omega
            rw [this]
          rw [e]
          refine ⟨_, rfl, by rw [List.length_map, List.length_map, List.length_range]; omega, fun ys p => ?_⟩
          obtain ⟨ws, pw, rfl⟩ := perm_map p
          refine q ws ?_ ?_ fun s hs => ?_
          · rw [pw.length_eq, List.length_map, List.length_range]
          · refine pw.nodup_iff.mpr (List.pairwise_iff_getElem.mpr fun i j hi hj hij e => ?_)
            simp only [List.length_map, List.length_range] at hi hj
            simp only [List.getElem_map, List.getElem_range] at e
            have := congrArg (fun s : Str => s.cps.toList.length) e
            simp only [List.length_take] at this
            omega
          · have := pw.subset hs
            obtain ⟨i, hi, rfl⟩ := List.mem_map.mp this
            rw [List.mem_range] at hi
            exact nm_signs (by rw [List.length_take]; omega) (by rw [List.length_take]; omega) fun c hc => hr c (List.mem_of_mem_take hc)
      · simp only [decide_eq_false k0, sRet, sSeq, sIf, sSet, sSetM, sNext, sNever, sExpr, sFrz, sX, sPar2, sPar3, sPars, sFor, sAsg, sAug, sSetI, sMk, sRetN, sBreak, sCont, sRetDeal, sFldI, dAndV, dOrV, dNotV, dFn, dFnL, dFnK, dChain, dCB, dCons, dNil, dVarB, dVar, dLit, dOp, dUn, dIf, dB, dNotT, dAndT, dOrT, dYes, dTup, dLst, dSl, dPart, dNoP, dRev, dJoin, dFldC, dMake, dLc, iA, iE, iR1, iR2, vNil, vE, vF, xMut, xMut2E, xE, gdName, gdTup, gdCons, gdNil, gLen, gLt, gLe, gGt, gGe, gCmp, gSl, gSlL, gIx, gI, gIc, gAdd, gLL, gTuple, gList, gSorted, gInt, gAbs, gRepr, gAppend, gInsert, gNeg, gIsT, gIsNotT, isi_tup, DL.ne_int, DL.eq_int, DL.eq_str, DL.ne_str, at_0, at_1, at_2, at_3, seqItems, lItems, DL.isNon, endsD, endsM, endsI, setAllD, wipeD, DSt.set, kgG, List.map_cons, List.map_nil, List.cons_append, List.nil_append, List.length_cons, List.length_nil, List.getElem?_cons_zero, List.getElem?_cons_succ, List.set_cons_zero, List.set_cons_succ, List.foldl_cons, List.foldl_nil, if_true, Nat.zero_add, Bool.not_true, Bool.not_false, Bool.false_eq_true, if_false, and_true, true_and]
        exact tail cs _ hc8 hr
    · simp only [decide_eq_false n8, sRet, sSeq, sIf, sSet, sSetM, sNext, sNever, sExpr, sFrz, sX, sPar2, sPar3, sPars, sFor, sAsg, sAug, sSetI, sMk, sRetN, sBreak, sCont, sRetDeal, sFldI, dAndV, dOrV, dNotV, dFn, dFnL, dFnK, dChain, dCB, dCons, dNil, dVarB, dVar, dLit, dOp, dUn, dIf, dB, dNotT, dAndT, dOrT, dYes, dTup, dLst, dSl, dPart, dNoP, dRev, dJoin, dFldC, dMake, dLc, iA, iE, iR1, iR2, vNil, vE, vF, xMut, xMut2E, xE, gdName, gdTup, gdCons, gdNil, gLen, gLt, gLe, gGt, gGe, gCmp, gSl, gSlL, gIx, gI, gIc, gAdd, gLL, gTuple, gList, gSorted, gInt, gAbs, gRepr, gAppend, gInsert, gNeg, gIsT, gIsNotT, isi_tup, DL.ne_int, DL.eq_int, DL.eq_str, DL.ne_str, at_0, at_1, at_2, at_3, seqItems, lItems, DL.isNon, endsD, endsM, endsI, setAllD, wipeD, DSt.set, kgG, List.map_cons, List.map_nil, List.cons_append, List.nil_append, List.length_cons, List.length_nil, List.getElem?_cons_zero, List.getElem?_cons_succ, List.set_cons_zero, List.set_cons_succ, List.foldl_cons, List.foldl_nil, if_true, Nat.zero_add, Bool.not_true, Bool.not_false, Bool.false_eq_true, if_false, and_true, true_and]
      exact tail cs _ hc8 hr
  · obtain ⟨cs, rfl, hc, hr⟩ := h'
    simp only [sRet, sSeq, sIf, sSet, sSetM, sNext, sNever, sExpr, sFrz, sX, sPar2, sPar3, sPars, sFor, sAsg, sAug, sSetI, sMk, sRetN, sBreak, sCont, sRetDeal, sFldI, dAndV, dOrV, dNotV, dFn, dFnL, dFnK, dChain, dCB, dCons, dNil, dVarB, dVar, dLit, dOp, dUn, dIf, dB, dNotT, dAndT, dOrT, dYes, dTup, dLst, dSl, dPart, dNoP, dRev, dJoin, dFldC, dMake, dLc, iA, iE, iR1, iR2, vNil, vE, vF, xMut, xMut2E, xE, gdName, gdTup, gdCons, gdNil, gLen, gLt, gLe, gGt, gGe, gCmp, gSl, gSlL, gIx, gI, gIc, gAdd, gLL, gTuple, gList, gSorted, gInt, gAbs, gRepr, gAppend, gInsert, gNeg, gIsT, gIsNotT, isi_tup, DL.ne_int, DL.eq_int, DL.eq_str, DL.ne_str, at_0, at_1, at_2, at_3, seqItems, lItems, DL.isNon, endsD, endsM, endsI, setAllD, wipeD, DSt.set, kgG, List.map_cons, List.map_nil, List.cons_append, List.nil_append, List.length_cons, List.length_nil, List.getElem?_cons_zero, List.getElem?_cons_succ, List.set_cons_zero, List.set_cons_succ, List.foldl_cons, List.foldl_nil, if_true, Nat.zero_add, Bool.not_true, Bool.not_false, Bool.false_eq_true, if_false, and_true, true_and]
    refine .inr ⟨_, rfl, by decide, by decide, fun c hc' => hy _ ⟨cs ++ [c], by rw [List.map_append]; rfl, by rw [List.length_append, List.length_append, hc]; rfl, fun x hx => ?_⟩⟩
    rcases List.mem_append.mp hx with h | h
    · exact hr x h
    · rw [List.mem_singleton.mp h]
      exact letters_rng hc'
end K67

namespace K67
open PySem PySem.Spec PyProof.Rows L2 DL
theorem names_nodup {n : List Str} (h : Rise (n.map D.str)) : n.Nodup := nodup_of_map (h.imp fun {x y} h e => by
  rw [e, ltD_irrefl] at h
  cases h)
theorem lot_one {n : List Str} {x : Str} (h : x ∈ n) : Lot 6 n [x] := ⟨List.pairwise_singleton _ _, fun y hy => by rw [List.mem_singleton.mp hy]; exact h, Nat.le_add_left 1 5⟩
theorem p_law_lot (a b : Addr) (ds : List D) (Q : D → Prop) (hl : ds.length + 1 = 3) (h : sp_law_lot ds Q) : w_law_lot (endsD Q fun _ => False) (initL 5 ds a b) := by
  obtain ⟨n, k, rfl, hn, hk, q⟩ := h
  rw [i_law_lot]
  simp only [w_law_lot, lotD, sRet, sSeq, sIf, sSet, sSetM, sNext, sNever, sExpr, sFrz, sX, sPar2, sPar3, sPars, sFor, sAsg, sAug, sSetI, sMk, sRetN, sBreak, sCont, sRetDeal, sFldI, dAndV, dOrV, dNotV, dFn, dFnL, dFnK, dChain, dCB, dCons, dNil, dVarB, dVar, dLit, dOp, dUn, dIf, dB, dNotT, dAndT, dOrT, dYes, dTup, dLst, dSl, dPart, dNoP, dRev, dJoin, dFldC, dMake, dLc, iA, iE, iR1, iR2, vNil, vE, vF, xMut, xMut2E, xE, gdName, gdTup, gdCons, gdNil, gLen, gLt, gLe, gGt, gGe, gCmp, gSl, gSlL, gIx, gI, gIc, gAdd, gLL, gTuple, gList, gInt, gAbs, gRepr, gAppend, gInsert, gNeg, gIsT, gIsNotT, isi_tup, DL.ne_int, DL.eq_int, DL.eq_str, DL.ne_str, at_0, at_1, at_2, at_3, seqItems, lItems, DL.isNon, endsD, endsM, endsI, setAllD, wipeD, DSt.set, kgG, List.map_cons, List.map_nil, List.cons_append, List.nil_append, List.length_cons, List.length_nil, List.getElem?_cons_zero, List.getElem?_cons_succ, List.set_cons_zero, List.set_cons_succ, List.foldl_cons, List.foldl_nil, if_true, Nat.zero_add, Bool.not_true, Bool.not_false, Bool.false_eq_true, if_false, and_true, true_and]
  refine lc_rel (fun done acc => acc.Sublist done) [] [] List.Sublist.slnil (fun acc h' => ?_) (fun done acc d Y Z h' hd hy hz => ?_)
  · rw [List.nil_append, List.nil_append] at h'
    obtain ⟨l, hs, rfl⟩ := List.sublist_map_iff.mp h'
    have hz : l.length ≤ 6 := Nat.le_trans hs.length_le hn.n6
    have lo : Lot 6 n l := ⟨List.Pairwise.sublist h' hn.nr, fun x hx => hs.subset hx, hz⟩
    by_cases c : (k : Int) ≤ ((l.map D.str).length : Int)
    · simp only [decide_eq_true c, sRet, sSeq, sIf, sSet, sSetM, sNext, sNever, sExpr, sFrz, sX, sPar2, sPar3, sPars, sFor, sAsg, sAug, sSetI, sMk, sRetN, sBreak, sCont, sRetDeal, sFldI, dAndV, dOrV, dNotV, dFn, dFnL, dFnK, dChain, dCB, dCons, dNil, dVarB, dVar, dLit, dOp, dUn, dIf, dB, dNotT, dAndT, dOrT, dYes, dTup, dLst, dSl, dPart, dNoP, dRev, dJoin, dFldC, dMake, dLc, iA, iE, iR1, iR2, vNil, vE, vF, xMut, xMut2E, xE, gdName, gdTup, gdCons, gdNil, gLen, gLt, gLe, gGt, gGe, gCmp, gSl, gSlL, gIx, gI, gIc, gAdd, gLL, gTuple, gList, gInt, gAbs, gRepr, gAppend, gInsert, gNeg, gIsT, gIsNotT, isi_tup, DL.ne_int, DL.eq_int, DL.eq_str, DL.ne_str, at_0, at_1, at_2, at_3, seqItems, lItems, DL.isNon, endsD, endsM, endsI, setAllD, wipeD, DSt.set, kgG, List.map_cons, List.map_nil, List.cons_append, List.nil_append, List.length_cons, List.length_nil, List.getElem?_cons_zero, List.getElem?_cons_succ, List.set_cons_zero, List.set_cons_succ, List.foldl_cons, List.foldl_nil, if_true, Nat.zero_add, Bool.not_true, Bool.not_false, Bool.false_eq_true, if_false, and_true, true_and]
      exact q l lo (by rw [List.length_map] at c; omega)
    · simp only [decide_eq_false c, sp_law_pick, sRet, sSeq, sIf, sSet, sSetM, sNext, sNever, sExpr, sFrz, sX, sPar2, sPar3, sPars, sFor, sAsg, sAug, sSetI, sMk, sRetN, sBreak, sCont, sRetDeal, sFldI, dAndV, dOrV, dNotV, dFn, dFnL, dFnK, dChain, dCB, dCons, dNil, dVarB, dVar, dLit, dOp, dUn, dIf, dB, dNotT, dAndT, dOrT, dYes, dTup, dLst, dSl, dPart, dNoP, dRev, dJoin, dFldC, dMake, dLc, iA, iE, iR1, iR2, vNil, vE, vF, xMut, xMut2E, xE, gdName, gdTup, gdCons, gdNil, gLen, gLt, gLe, gGt, gGe, gCmp, gSl, gSlL, gIx, gI, gIc, gAdd, gLL, gTuple, gList, gInt, gAbs, gRepr, gAppend, gInsert, gNeg, gIsT, gIsNotT, isi_tup, DL.ne_int, DL.eq_int, DL.eq_str, DL.ne_str, at_0, at_1, at_2, at_3, seqItems, lItems, DL.isNon, endsD, endsM, endsI, setAllD, wipeD, DSt.set, kgG, List.map_cons, List.map_nil, List.cons_append, List.nil_append, List.length_cons, List.length_nil, List.getElem?_cons_zero, List.getElem?_cons_succ, List.set_cons_zero, List.set_cons_succ, List.foldl_cons, List.foldl_nil, if_true, Nat.zero_add, Bool.not_true, Bool.not_false, Bool.false_eq_true, if_false, and_true, true_and]
      refine .inl ⟨_, .inr rfl, ?_, by rw [List.length_map]; have := hn.n6; omega, fun x hx => ?_⟩
      · have := hn.n1
        intro e
        rw [List.map_eq_nil_iff] at e
        rw [e] at this
        cases this
      · obtain ⟨s, hs, rfl⟩ := List.mem_map.mp hx
        refine ⟨by decide, q [s] (lot_one hs) hk⟩
  · simp only [sp_law_draw, drawN, sRet, sSeq, sIf, sSet, sSetM, sNext, sNever, sExpr, sFrz, sX, sPar2, sPar3, sPars, sFor, sAsg, sAug, sSetI, sMk, sRetN, sBreak, sCont, sRetDeal, sFldI, dAndV, dOrV, dNotV, dFn, dFnL, dFnK, dChain, dCB, dCons, dNil, dVarB, dVar, dLit, dOp, dUn, dIf, dB, dNotT, dAndT, dOrT, dYes, dTup, dLst, dSl, dPart, dNoP, dRev, dJoin, dFldC, dMake, dLc, iA, iE, iR1, iR2, vNil, vE, vF, xMut, xMut2E, xE, gdName, gdTup, gdCons, gdNil, gLen, gLt, gLe, gGt, gGe, gCmp, gSl, gSlL, gIx, gI, gIc, gAdd, gLL, gTuple, gList, gInt, gAbs, gRepr, gAppend, gInsert, gNeg, gIsT, gIsNotT, isi_tup, DL.ne_int, DL.eq_int, DL.eq_str, DL.ne_str, at_0, at_1, at_2, at_3, seqItems, lItems, DL.isNon, endsD, endsM, endsI, setAllD, wipeD, DSt.set, kgG, List.map_cons, List.map_nil, List.cons_append, List.nil_append, List.length_cons, List.length_nil, List.getElem?_cons_zero, List.getElem?_cons_succ, List.set_cons_zero, List.set_cons_succ, List.foldl_cons, List.foldl_nil, if_true, Nat.zero_add, Bool.not_true, Bool.not_false, Bool.false_eq_true, if_false, and_true, true_and]
    refine ⟨_, rfl, by decide, by decide, fun v v0 v1 => ?_⟩
    by_cases c : v = 0
    · simp only [decide_eq_true c, sRet, sSeq, sIf, sSet, sSetM, sNext, sNever, sExpr, sFrz, sX, sPar2, sPar3, sPars, sFor, sAsg, sAug, sSetI, sMk, sRetN, sBreak, sCont, sRetDeal, sFldI, dAndV, dOrV, dNotV, dFn, dFnL, dFnK, dChain, dCB, dCons, dNil, dVarB, dVar, dLit, dOp, dUn, dIf, dB, dNotT, dAndT, dOrT, dYes, dTup, dLst, dSl, dPart, dNoP, dRev, dJoin, dFldC, dMake, dLc, iA, iE, iR1, iR2, vNil, vE, vF, xMut, xMut2E, xE, gdName, gdTup, gdCons, gdNil, gLen, gLt, gLe, gGt, gGe, gCmp, gSl, gSlL, gIx, gI, gIc, gAdd, gLL, gTuple, gList, gInt, gAbs, gRepr, gAppend, gInsert, gNeg, gIsT, gIsNotT, isi_tup, DL.ne_int, DL.eq_int, DL.eq_str, DL.ne_str, at_0, at_1, at_2, at_3, seqItems, lItems, DL.isNon, endsD, endsM, endsI, setAllD, wipeD, DSt.set, kgG, List.map_cons, List.map_nil, List.cons_append, List.nil_append, List.length_cons, List.length_nil, List.getElem?_cons_zero, List.getElem?_cons_succ, List.set_cons_zero, List.set_cons_succ, List.foldl_cons, List.foldl_nil, if_true, Nat.zero_add, Bool.not_true, Bool.not_false, Bool.false_eq_true, if_false, and_true, true_and]
      exact hy _ (h'.append (List.Sublist.refl _))
    · simp only [decide_eq_false c, sRet, sSeq, sIf, sSet, sSetM, sNext, sNever, sExpr, sFrz, sX, sPar2, sPar3, sPars, sFor, sAsg, sAug, sSetI, sMk, sRetN, sBreak, sCont, sRetDeal, sFldI, dAndV, dOrV, dNotV, dFn, dFnL, dFnK, dChain, dCB, dCons, dNil, dVarB, dVar, dLit, dOp, dUn, dIf, dB, dNotT, dAndT, dOrT, dYes, dTup, dLst, dSl, dPart, dNoP, dRev, dJoin, dFldC, dMake, dLc, iA, iE, iR1, iR2, vNil, vE, vF, xMut, xMut2E, xE, gdName, gdTup, gdCons, gdNil, gLen, gLt, gLe, gGt, gGe, gCmp, gSl, gSlL, gIx, gI, gIc, gAdd, gLL, gTuple, gList, gInt, gAbs, gRepr, gAppend, gInsert, gNeg, gIsT, gIsNotT, isi_tup, DL.ne_int, DL.eq_int, DL.eq_str, DL.ne_str, at_0, at_1, at_2, at_3, seqItems, lItems, DL.isNon, endsD, endsM, endsI, setAllD, wipeD, DSt.set, kgG, List.map_cons, List.map_nil, List.cons_append, List.nil_append, List.length_cons, List.length_nil, List.getElem?_cons_zero, List.getElem?_cons_succ, List.set_cons_zero, List.set_cons_succ, List.foldl_cons, List.foldl_nil, if_true, Nat.zero_add, Bool.not_true, Bool.not_false, Bool.false_eq_true, if_false, and_true, true_and]
      exact hz (by have := h'.append (List.nil_sublist [d]); rw [List.append_nil] at this; exact this)
theorem in_lotsL {neg : Bool} {x : List Str} {l : List (List Str)} {Q : D → Prop} (q : Q (.bl (if neg then !decide (x ∈ l) else decide (x ∈ l)))) : gInT neg (lotD x) (.lst (l.map lotD)) Q := by
  show gIn neg (lotD x) (.lst (l.map lotD)) Q
  refine ⟨ok_lot x, ok_lotsL l, ?_⟩
  show Q (.bl (if neg then !memD (lotD x) (l.map lotD) else memD (lotD x) (l.map lotD)))
  rw [memD_map hd_lot lot_inj]
  exact q
theorem sort_lots {l : List (List Str)} (nd : l.Nodup) {Q : D → Prop} (q : ∀ l' : List (List Str), l'.Perm l → Rise (l'.map lotD) → Q (.lst (l'.map lotD))) : gSorted [.lst (l.map lotD)] Q := by
  have so : sortOk (l.map lotD) = true := by
    unfold sortOk
    rw [Bool.and_eq_true, List.all_eq_true, List.all_eq_true]
    refine ⟨fun x hx => ?_, fun x hx => ?_⟩
    · obtain ⟨a, _, rfl⟩ := List.mem_map.mp hx
      rw [ok_lot]
      rfl
    · rw [List.all_eq_true]
      exact fun y hy => lots_ok.2 x hx y hy
  obtain ⟨l', pl, e⟩ := perm_map (sortD_perm (l.map lotD))
  have nd' : (l.map lotD).Nodup := List.Pairwise.map _ (fun a b h e => h (lot_inj _ _ e)) nd
  have r := sortD_rise nd' (fun x hx => (lots_ok.1 x hx).1) lots_ok.2
  rw [e] at r
  show sortOk (l.map lotD) = true ∧ Q (.lst (sortD (l.map lotD)))
  rw [e]
  exact ⟨so, q l' pl r⟩
theorem p_law_lots_of (a b : Addr) (ds : List D) (Q : D → Prop) (hl : ds.length + 1 = 4) (h : sp_law_lots_of ds Q) : w_law_lots_of (endsD Q fun _ => False) (initL 7 ds a b) := by
  obtain ⟨n, m, k, rfl, hn, m1, m2, hk, q⟩ := h
  rw [i_law_lots_of]
  have sz := sizeLine_v
  have ew : w_law_lots_of = w_law_lots_of := rfl
  simp only [w_law_lots_of, sRet, sSeq, sIf, sSet, sSetM, sNext, sNever, sExpr, sFrz, sX, sPar2, sPar3, sPars, sFor, sAsg, sAug, sSetI, sMk, sRetN, sBreak, sCont, sRetDeal, sFldI, dAndV, dOrV, dNotV, dFn, dFnL, dFnK, dChain, dCB, dCons, dNil, dVarB, dVar, dLit, dOp, dUn, dIf, dB, dNotT, dAndT, dOrT, dYes, dTup, dLst, dSl, dPart, dNoP, dRev, dJoin, dFldC, dMake, dLc, iA, iE, iR1, iR2, vNil, vE, vF, xMut, xMut2E, xE, gdName, gdTup, gdCons, gdNil, gLen, gLt, gLe, gGt, gGe, gCmp, gSl, gSlL, gIx, gI, gIc, gAdd, gLL, gTuple, gList, gInt, gAbs, gRepr, gAppend, gInsert, gNeg, gIsT, gIsNotT, isi_tup, DL.ne_int, DL.eq_int, DL.eq_str, DL.ne_str, at_0, at_1, at_2, at_3, seqItems, lItems, DL.isNon, endsD, endsM, endsI, setAllD, wipeD, DSt.set, kgG, List.map_cons, List.map_nil, List.cons_append, List.nil_append, List.length_cons, List.length_nil, List.getElem?_cons_zero, List.getElem?_cons_succ, List.set_cons_zero, List.set_cons_succ, List.foldl_cons, List.foldl_nil, if_true, Nat.zero_add, Bool.not_true, Bool.not_false, Bool.false_eq_true, if_false, and_true, true_and]
  refine ⟨by decide, by omega, by omega, ?_⟩
  refine for_rng (fun i st => ∃ ls s5 s6, st = ⟨[.deal, .val (lotD n), .val (.int m), .val (.int k), .mu (.lst (ls.map lotD)), s5, s6], some (a, b)⟩ ∧ ls.Nodup ∧ ls.length ≤ i ∧ (1 ≤ i → ls ≠ []) ∧ ∀ l ∈ ls, Lot 6 n l ∧ k ≤ l.length)
    ⟨[], _, _, rfl, List.nodup_nil, Nat.le_refl _, (fun h => absurd h (by omega)), (fun l h => absurd h List.not_mem_nil)⟩ (fun st' h' => ?_) fun i hi st h' kk hkk => ?_
  · obtain ⟨ls, s5, s6, rfl, nd, z1, z2, z3⟩ := h'
    rw [Int.toNat_natCast] at z1 z2
    refine sort_lots nd fun l' pl r => ?_
    refine q l' (fun e => ?_) (by rw [pl.length_eq]; exact z1) r fun l hl => z3 l (pl.subset hl)
    rw [e] at pl
    exact z2 m1 pl.symm.eq_nil
  · obtain ⟨ls, s5, s6, rfl, nd, z1, z2, z3⟩ := h'
    rw [Int.toNat_natCast] at hi
    simp only [sRet, sSeq, sIf, sSet, sSetM, sNext, sNever, sExpr, sFrz, sX, sPar2, sPar3, sPars, sFor, sAsg, sAug, sSetI, sMk, sRetN, sBreak, sCont, sRetDeal, sFldI, dAndV, dOrV, dNotV, dFn, dFnL, dFnK, dChain, dCB, dCons, dNil, dVarB, dVar, dLit, dOp, dUn, dIf, dB, dNotT, dAndT, dOrT, dYes, dTup, dLst, dSl, dPart, dNoP, dRev, dJoin, dFldC, dMake, dLc, iA, iE, iR1, iR2, vNil, vE, vF, xMut, xMut2E, xE, gdName, gdTup, gdCons, gdNil, gLen, gLt, gLe, gGt, gGe, gCmp, gSl, gSlL, gIx, gI, gIc, gAdd, gLL, gTuple, gList, gInt, gAbs, gRepr, gAppend, gInsert, gNeg, gIsT, gIsNotT, isi_tup, DL.ne_int, DL.eq_int, DL.eq_str, DL.ne_str, at_0, at_1, at_2, at_3, seqItems, lItems, DL.isNon, endsD, endsM, endsI, setAllD, wipeD, DSt.set, kgG, List.map_cons, List.map_nil, List.cons_append, List.nil_append, List.length_cons, List.length_nil, List.getElem?_cons_zero, List.getElem?_cons_succ, List.set_cons_zero, List.set_cons_succ, List.foldl_cons, List.foldl_nil, if_true, Nat.zero_add, Bool.not_true, Bool.not_false, Bool.false_eq_true, if_false, and_true, true_and]
    refine ⟨n, k, rfl, hn, hk, fun l lo kl => ?_⟩
    simp only [sRet, sSeq, sIf, sSet, sSetM, sNext, sNever, sExpr, sFrz, sX, sPar2, sPar3, sPars, sFor, sAsg, sAug, sSetI, sMk, sRetN, sBreak, sCont, sRetDeal, sFldI, dAndV, dOrV, dNotV, dFn, dFnL, dFnK, dChain, dCB, dCons, dNil, dVarB, dVar, dLit, dOp, dUn, dIf, dB, dNotT, dAndT, dOrT, dYes, dTup, dLst, dSl, dPart, dNoP, dRev, dJoin, dFldC, dMake, dLc, iA, iE, iR1, iR2, vNil, vE, vF, xMut, xMut2E, xE, gdName, gdTup, gdCons, gdNil, gLen, gLt, gLe, gGt, gGe, gCmp, gSl, gSlL, gIx, gI, gIc, gAdd, gLL, gTuple, gList, gInt, gAbs, gRepr, gAppend, gInsert, gNeg, gIsT, gIsNotT, isi_tup, DL.ne_int, DL.eq_int, DL.eq_str, DL.ne_str, at_0, at_1, at_2, at_3, seqItems, lItems, DL.isNon, endsD, endsM, endsI, setAllD, wipeD, DSt.set, kgG, List.map_cons, List.map_nil, List.cons_append, List.nil_append, List.length_cons, List.length_nil, List.getElem?_cons_zero, List.getElem?_cons_succ, List.set_cons_zero, List.set_cons_succ, List.foldl_cons, List.foldl_nil, if_true, Nat.zero_add, Bool.not_true, Bool.not_false, Bool.false_eq_true, if_false, and_true, true_and]
    refine in_lotsL (neg := true) ?_
    by_cases c : l ∈ ls
    · simp only [decide_eq_true c, sRet, sSeq, sIf, sSet, sSetM, sNext, sNever, sExpr, sFrz, sX, sPar2, sPar3, sPars, sFor, sAsg, sAug, sSetI, sMk, sRetN, sBreak, sCont, sRetDeal, sFldI, dAndV, dOrV, dNotV, dFn, dFnL, dFnK, dChain, dCB, dCons, dNil, dVarB, dVar, dLit, dOp, dUn, dIf, dB, dNotT, dAndT, dOrT, dYes, dTup, dLst, dSl, dPart, dNoP, dRev, dJoin, dFldC, dMake, dLc, iA, iE, iR1, iR2, vNil, vE, vF, xMut, xMut2E, xE, gdName, gdTup, gdCons, gdNil, gLen, gLt, gLe, gGt, gGe, gCmp, gSl, gSlL, gIx, gI, gIc, gAdd, gLL, gTuple, gList, gInt, gAbs, gRepr, gAppend, gInsert, gNeg, gIsT, gIsNotT, isi_tup, DL.ne_int, DL.eq_int, DL.eq_str, DL.ne_str, at_0, at_1, at_2, at_3, seqItems, lItems, DL.isNon, endsD, endsM, endsI, setAllD, wipeD, DSt.set, kgG, List.map_cons, List.map_nil, List.cons_append, List.nil_append, List.length_cons, List.length_nil, List.getElem?_cons_zero, List.getElem?_cons_succ, List.set_cons_zero, List.set_cons_succ, List.foldl_cons, List.foldl_nil, if_true, Nat.zero_add, Bool.not_true, Bool.not_false, Bool.false_eq_true, if_false, and_true, true_and]
      exact hkk _ ⟨ls, _, _, rfl, nd, by omega, fun _ e => by rw [e] at c; exact absurd c List.not_mem_nil, z3⟩
    · simp only [decide_eq_false c, sRet, sSeq, sIf, sSet, sSetM, sNext, sNever, sExpr, sFrz, sX, sPar2, sPar3, sPars, sFor, sAsg, sAug, sSetI, sMk, sRetN, sBreak, sCont, sRetDeal, sFldI, dAndV, dOrV, dNotV, dFn, dFnL, dFnK, dChain, dCB, dCons, dNil, dVarB, dVar, dLit, dOp, dUn, dIf, dB, dNotT, dAndT, dOrT, dYes, dTup, dLst, dSl, dPart, dNoP, dRev, dJoin, dFldC, dMake, dLc, iA, iE, iR1, iR2, vNil, vE, vF, xMut, xMut2E, xE, gdName, gdTup, gdCons, gdNil, gLen, gLt, gLe, gGt, gGe, gCmp, gSl, gSlL, gIx, gI, gIc, gAdd, gLL, gTuple, gList, gInt, gAbs, gRepr, gAppend, gInsert, gNeg, gIsT, gIsNotT, isi_tup, DL.ne_int, DL.eq_int, DL.eq_str, DL.ne_str, at_0, at_1, at_2, at_3, seqItems, lItems, DL.isNon, endsD, endsM, endsI, setAllD, wipeD, DSt.set, kgG, List.map_cons, List.map_nil, List.cons_append, List.nil_append, List.length_cons, List.length_nil, List.getElem?_cons_zero, List.getElem?_cons_succ, List.set_cons_zero, List.set_cons_succ, List.foldl_cons, List.foldl_nil, if_true, Nat.zero_add, Bool.not_true, Bool.not_false, Bool.false_eq_true, if_false, and_true, true_and]
      refine ⟨⟨_, rfl⟩, by rw [List.length_map]; omega, hkk _ ⟨ls ++ [l], _, _, by rw [List.map_append]; rfl, ?_, by rw [List.length_append]; show ls.length + 1 ≤ i + 1; omega, fun _ e => by simp at e, fun x hx => ?_⟩⟩
      · refine List.nodup_append.mpr ⟨nd, List.pairwise_singleton _ _, fun x hx y hy e => ?_⟩
        rw [List.mem_singleton.mp hy] at e
        rw [e] at hx
        exact c hx
      · rcases List.mem_append.mp hx with h | h
        · exact z3 x h
        · rw [List.mem_singleton.mp h]
          exact ⟨lo, kl⟩
end K67

namespace K67
open PySem PySem.Spec PyProof.Rows L2 DL
theorem ne_lot {x y : List Str} {Q : D → Prop} (q : Q (.bl (!decide (x = y)))) : gNeT (lotD x) (lotD y) Q := by
  show okD (lotD x) = true ∧ okD (lotD y) = true ∧ Q (.bl (!eqD (lotD x) (lotD y)))
  rw [eqD_map hd_lot lot_inj]
  exact ⟨ok_lot x, ok_lot y, q⟩
/-- no other lot has all of this one -/
def topl (ls : List (List Str)) (l : List Str) : Bool := (ls.filter fun m => !decide (m = l) && (l.filter fun x => !decide (x ∈ m)).isEmpty).isEmpty
theorem topl_iff {ls : List (List Str)} {l : List Str} : topl ls l = true ↔ ∀ m ∈ ls, (∀ x ∈ l, x ∈ m) → m = l := by
  unfold topl
  rw [List.isEmpty_iff, List.filter_eq_nil_iff]
  refine ⟨fun h m hm hs => ?_, fun h m hm hs => ?_⟩
  · by_cases c : m = l
    · exact c
    · refine absurd ?_ (h m hm)
      rw [decide_eq_false c]
      have : (l.filter fun x => !decide (x ∈ m)) = [] := by
        rw [List.filter_eq_nil_iff]
        intro x hx
        simp [hs x hx]
      rw [this]
      rfl
  · rw [Bool.and_eq_true, List.isEmpty_iff, List.filter_eq_nil_iff] at hs
    have e := h m hm fun x hx => by
      have := hs.2 x hx
      simpa using this
    rw [decide_eq_true e] at hs
    cases hs.1
theorem rise_sub {l m : List Str} (hl : Rise (l.map D.str)) (hm : Rise (m.map D.str)) (h : ∀ x ∈ l, x ∈ m) : l.Sublist m := by
  rw [Rise, List.pairwise_map] at hl hm
  exact sub_of_rise (R := fun a b => ltD (.str a) (.str b) = true) (fun a b h1 h2 => by rw [ltD_asymm h1] at h2; cases h2) hl hm h
theorem p_law_greatest (ds : List D) (Q : D → Prop) (hl : ds.length = 1) (h : sp_law_greatest ds Q) : w_law_greatest (endsD Q fun _ => False) (init 5 ds) := by
  obtain ⟨n, ls, rfl, hn, h0, hz, hr, hls, q⟩ := h
  rw [i_law_greatest]
  have sz := sizeLine_v
  simp only [w_law_greatest, sRet, sSeq, sIf, sSet, sSetM, sNext, sNever, sExpr, sFrz, sX, sPar2, sPar3, sPars, sFor, sAsg, sAug, sSetI, sMk, sRetN, sBreak, sCont, sRetDeal, sFldI, dAndV, dOrV, dNotV, dFn, dFnL, dFnK, dChain, dCB, dCons, dNil, dVarB, dVar, dLit, dOp, dUn, dIf, dB, dNotT, dAndT, dOrT, dYes, dTup, dLst, dSl, dPart, dNoP, dRev, dJoin, dFldC, dMake, dLc, iA, iE, iR1, iR2, vNil, vE, vF, xMut, xMut2E, xE, gdName, gdTup, gdCons, gdNil, gLen, gLt, gLe, gGt, gGe, gCmp, gSl, gSlL, gIx, gI, gIc, gAdd, gLL, gTuple, gList, gInt, gAbs, gAppend, gInsert, gNeg, gIsT, gIsNotT, isi_tup, DL.ne_int, DL.eq_int, DL.eq_str, DL.ne_str, at_0, at_1, at_2, at_3, seqItems, lItems, DL.isNon, endsD, endsM, endsI, setAllD, wipeD, DSt.set, kgG, List.map_cons, List.map_nil, List.cons_append, List.nil_append, List.length_cons, List.length_nil, List.getElem?_cons_zero, List.getElem?_cons_succ, List.set_cons_zero, List.set_cons_succ, List.foldl_cons, List.foldl_nil, if_true, Nat.zero_add, Bool.not_true, Bool.not_false, Bool.false_eq_true, if_false, and_true, true_and]
  refine ⟨by decide, ?_⟩
  refine for_ix (ds := ls.map lotD) (i := 0) (fun i st => ∃ s2 s3 s4, st = ⟨[.val (.lst (ls.map lotD)), .mu (.lst (((ls.take i).filter (topl ls)).map lotD)), s2, s3, s4], none⟩) rfl ⟨_, _, _, rfl⟩ (fun st' h' => ?_) (Nat.zero_le _) fun i d st hd h' k hk => ?_
  · obtain ⟨s2, s3, s4, rfl⟩ := h'
    rw [List.length_map, List.take_length]
    refine q (ls.filter (topl ls)) (fun e => ?_) (List.length_filter_le _ _) ?_ (fun l hl => (List.mem_filter.mp hl).1) fun l hl m hm hs => ?_
    · obtain ⟨x, hx, hmax⟩ := max_len List.length h0
      rw [List.filter_eq_nil_iff] at e
      refine e x hx (topl_iff.mpr fun m hm hs => ?_)
      exact ((rise_sub (hls x hx).r (hls m hm).r hs).eq_of_length_le (hmax m hm)).symm
    · exact List.Pairwise.sublist ((List.filter_sublist).map _) hr
    · exact (topl_iff.mp (List.mem_filter.mp hl).2 m (List.mem_filter.mp hm).1 hs).symm
  · obtain ⟨s2, s3, s4, rfl⟩ := h'
    have hi := (List.getElem?_eq_some_iff.mp hd).1
    rw [List.length_map] at hi
    rw [List.getElem?_map, List.getElem?_eq_getElem hi, Option.map_some] at hd
    injection hd with hd
    subst hd
    simp only [sRet, sSeq, sIf, sSet, sSetM, sNext, sNever, sExpr, sFrz, sX, sPar2, sPar3, sPars, sFor, sAsg, sAug, sSetI, sMk, sRetN, sBreak, sCont, sRetDeal, sFldI, dAndV, dOrV, dNotV, dFn, dFnL, dFnK, dChain, dCB, dCons, dNil, dVarB, dVar, dLit, dOp, dUn, dIf, dB, dNotT, dAndT, dOrT, dYes, dTup, dLst, dSl, dPart, dNoP, dRev, dJoin, dFldC, dMake, dLc, iA, iE, iR1, iR2, vNil, vE, vF, xMut, xMut2E, xE, gdName, gdTup, gdCons, gdNil, gLen, gLt, gLe, gGt, gGe, gCmp, gSl, gSlL, gIx, gI, gIc, gAdd, gLL, gTuple, gList, gInt, gAbs, gAppend, gInsert, gNeg, gIsT, gIsNotT, isi_tup, DL.ne_int, DL.eq_int, DL.eq_str, DL.ne_str, at_0, at_1, at_2, at_3, seqItems, lItems, DL.isNon, endsD, endsM, endsI, setAllD, wipeD, DSt.set, kgG, List.map_cons, List.map_nil, List.cons_append, List.nil_append, List.length_cons, List.length_nil, List.getElem?_cons_zero, List.getElem?_cons_succ, List.set_cons_zero, List.set_cons_succ, List.foldl_cons, List.foldl_nil, if_true, Nat.zero_add, Bool.not_true, Bool.not_false, Bool.false_eq_true, if_false, and_true, true_and]
    refine lc_det (fun d => !decide (lotOf d = ls[i]) && ((ls[i]).filter fun x => !decide (x ∈ lotOf d)).isEmpty) (fun d => d) (fun d hd Y Z y z => ?_) ?_
    · obtain ⟨m, hm, rfl⟩ := List.mem_map.mp hd
      rw [lotOf_lot] at y z
      simp only [sRet, sSeq, sIf, sSet, sSetM, sNext, sNever, sExpr, sFrz, sX, sPar2, sPar3, sPars, sFor, sAsg, sAug, sSetI, sMk, sRetN, sBreak, sCont, sRetDeal, sFldI, dAndV, dOrV, dNotV, dFn, dFnL, dFnK, dChain, dCB, dCons, dNil, dVarB, dVar, dLit, dOp, dUn, dIf, dB, dNotT, dAndT, dOrT, dYes, dTup, dLst, dSl, dPart, dNoP, dRev, dJoin, dFldC, dMake, dLc, iA, iE, iR1, iR2, vNil, vE, vF, xMut, xMut2E, xE, gdName, gdTup, gdCons, gdNil, gLen, gLt, gLe, gGt, gGe, gCmp, gSl, gSlL, gIx, gI, gIc, gAdd, gLL, gTuple, gList, gInt, gAbs, gAppend, gInsert, gNeg, gIsT, gIsNotT, isi_tup, DL.ne_int, DL.eq_int, DL.eq_str, DL.ne_str, at_0, at_1, at_2, at_3, seqItems, lItems, DL.isNon, endsD, endsM, endsI, setAllD, wipeD, DSt.set, kgG, List.map_cons, List.map_nil, List.cons_append, List.nil_append, List.length_cons, List.length_nil, List.getElem?_cons_zero, List.getElem?_cons_succ, List.set_cons_zero, List.set_cons_succ, List.foldl_cons, List.foldl_nil, if_true, Nat.zero_add, Bool.not_true, Bool.not_false, Bool.false_eq_true, if_false, and_true, true_and]
      refine ne_lot ?_
      by_cases c : m = ls[i]
      · simp only [decide_eq_true c, sRet, sSeq, sIf, sSet, sSetM, sNext, sNever, sExpr, sFrz, sX, sPar2, sPar3, sPars, sFor, sAsg, sAug, sSetI, sMk, sRetN, sBreak, sCont, sRetDeal, sFldI, dAndV, dOrV, dNotV, dFn, dFnL, dFnK, dChain, dCB, dCons, dNil, dVarB, dVar, dLit, dOp, dUn, dIf, dB, dNotT, dAndT, dOrT, dYes, dTup, dLst, dSl, dPart, dNoP, dRev, dJoin, dFldC, dMake, dLc, iA, iE, iR1, iR2, vNil, vE, vF, xMut, xMut2E, xE, gdName, gdTup, gdCons, gdNil, gLen, gLt, gLe, gGt, gGe, gCmp, gSl, gSlL, gIx, gI, gIc, gAdd, gLL, gTuple, gList, gInt, gAbs, gAppend, gInsert, gNeg, gIsT, gIsNotT, isi_tup, DL.ne_int, DL.eq_int, DL.eq_str, DL.ne_str, at_0, at_1, at_2, at_3, seqItems, lItems, DL.isNon, endsD, endsM, endsI, setAllD, wipeD, DSt.set, kgG, List.map_cons, List.map_nil, List.cons_append, List.nil_append, List.length_cons, List.length_nil, List.getElem?_cons_zero, List.getElem?_cons_succ, List.set_cons_zero, List.set_cons_succ, List.foldl_cons, List.foldl_nil, if_true, Nat.zero_add, Bool.not_true, Bool.not_false, Bool.false_eq_true, if_false, and_true, true_and]
        exact z (by rw [decide_eq_true c]; rfl)
      · simp only [decide_eq_false c, sRet, sSeq, sIf, sSet, sSetM, sNext, sNever, sExpr, sFrz, sX, sPar2, sPar3, sPars, sFor, sAsg, sAug, sSetI, sMk, sRetN, sBreak, sCont, sRetDeal, sFldI, dAndV, dOrV, dNotV, dFn, dFnL, dFnK, dChain, dCB, dCons, dNil, dVarB, dVar, dLit, dOp, dUn, dIf, dB, dNotT, dAndT, dOrT, dYes, dTup, dLst, dSl, dPart, dNoP, dRev, dJoin, dFldC, dMake, dLc, iA, iE, iR1, iR2, vNil, vE, vF, xMut, xMut2E, xE, gdName, gdTup, gdCons, gdNil, gLen, gLt, gLe, gGt, gGe, gCmp, gSl, gSlL, gIx, gI, gIc, gAdd, gLL, gTuple, gList, gInt, gAbs, gAppend, gInsert, gNeg, gIsT, gIsNotT, isi_tup, DL.ne_int, DL.eq_int, DL.eq_str, DL.ne_str, at_0, at_1, at_2, at_3, seqItems, lItems, DL.isNon, endsD, endsM, endsI, setAllD, wipeD, DSt.set, kgG, List.map_cons, List.map_nil, List.cons_append, List.nil_append, List.length_cons, List.length_nil, List.getElem?_cons_zero, List.getElem?_cons_succ, List.set_cons_zero, List.set_cons_succ, List.foldl_cons, List.foldl_nil, if_true, Nat.zero_add, Bool.not_true, Bool.not_false, Bool.false_eq_true, if_false, and_true, true_and]
        simp only [decide_eq_false c, Bool.not_false, Bool.true_and] at y z
        simp only [lotD, sRet, sSeq, sIf, sSet, sSetM, sNext, sNever, sExpr, sFrz, sX, sPar2, sPar3, sPars, sFor, sAsg, sAug, sSetI, sMk, sRetN, sBreak, sCont, sRetDeal, sFldI, dAndV, dOrV, dNotV, dFn, dFnL, dFnK, dChain, dCB, dCons, dNil, dVarB, dVar, dLit, dOp, dUn, dIf, dB, dNotT, dAndT, dOrT, dYes, dTup, dLst, dSl, dPart, dNoP, dRev, dJoin, dFldC, dMake, dLc, iA, iE, iR1, iR2, vNil, vE, vF, xMut, xMut2E, xE, gdName, gdTup, gdCons, gdNil, gLen, gLt, gLe, gGt, gGe, gCmp, gSl, gSlL, gIx, gI, gIc, gAdd, gLL, gTuple, gList, gInt, gAbs, gAppend, gInsert, gNeg, gIsT, gIsNotT, isi_tup, DL.ne_int, DL.eq_int, DL.eq_str, DL.ne_str, at_0, at_1, at_2, at_3, seqItems, lItems, DL.isNon, endsD, endsM, endsI, setAllD, wipeD, DSt.set, kgG, List.map_cons, List.map_nil, List.cons_append, List.nil_append, List.length_cons, List.length_nil, List.getElem?_cons_zero, List.getElem?_cons_succ, List.set_cons_zero, List.set_cons_succ, List.foldl_cons, List.foldl_nil, if_true, Nat.zero_add, Bool.not_true, Bool.not_false, Bool.false_eq_true, if_false, and_true, true_and]
        refine lc_det (fun d => match d with
          | .str x => !decide (x ∈ m)
          | _ => false) (fun d => d) (fun d hd Y Z y z => ?_) ?_
        · obtain ⟨x, hx, rfl⟩ := List.mem_map.mp hd
          simp only [sRet, sSeq, sIf, sSet, sSetM, sNext, sNever, sExpr, sFrz, sX, sPar2, sPar3, sPars, sFor, sAsg, sAug, sSetI, sMk, sRetN, sBreak, sCont, sRetDeal, sFldI, dAndV, dOrV, dNotV, dFn, dFnL, dFnK, dChain, dCB, dCons, dNil, dVarB, dVar, dLit, dOp, dUn, dIf, dB, dNotT, dAndT, dOrT, dYes, dTup, dLst, dSl, dPart, dNoP, dRev, dJoin, dFldC, dMake, dLc, iA, iE, iR1, iR2, vNil, vE, vF, xMut, xMut2E, xE, gdName, gdTup, gdCons, gdNil, gLen, gLt, gLe, gGt, gGe, gCmp, gSl, gSlL, gIx, gI, gIc, gAdd, gLL, gTuple, gList, gInt, gAbs, gAppend, gInsert, gNeg, gIsT, gIsNotT, isi_tup, DL.ne_int, DL.eq_int, DL.eq_str, DL.ne_str, at_0, at_1, at_2, at_3, seqItems, lItems, DL.isNon, endsD, endsM, endsI, setAllD, wipeD, DSt.set, kgG, List.map_cons, List.map_nil, List.cons_append, List.nil_append, List.length_cons, List.length_nil, List.getElem?_cons_zero, List.getElem?_cons_succ, List.set_cons_zero, List.set_cons_succ, List.foldl_cons, List.foldl_nil, if_true, Nat.zero_add, Bool.not_true, Bool.not_false, Bool.false_eq_true, if_false, and_true, true_and]
          refine in_lot (neg := true) ?_
          by_cases c : x ∈ m
          · simp only [decide_eq_true c, sRet, sSeq, sIf, sSet, sSetM, sNext, sNever, sExpr, sFrz, sX, sPar2, sPar3, sPars, sFor, sAsg, sAug, sSetI, sMk, sRetN, sBreak, sCont, sRetDeal, sFldI, dAndV, dOrV, dNotV, dFn, dFnL, dFnK, dChain, dCB, dCons, dNil, dVarB, dVar, dLit, dOp, dUn, dIf, dB, dNotT, dAndT, dOrT, dYes, dTup, dLst, dSl, dPart, dNoP, dRev, dJoin, dFldC, dMake, dLc, iA, iE, iR1, iR2, vNil, vE, vF, xMut, xMut2E, xE, gdName, gdTup, gdCons, gdNil, gLen, gLt, gLe, gGt, gGe, gCmp, gSl, gSlL, gIx, gI, gIc, gAdd, gLL, gTuple, gList, gInt, gAbs, gAppend, gInsert, gNeg, gIsT, gIsNotT, isi_tup, DL.ne_int, DL.eq_int, DL.eq_str, DL.ne_str, at_0, at_1, at_2, at_3, seqItems, lItems, DL.isNon, endsD, endsM, endsI, setAllD, wipeD, DSt.set, kgG, List.map_cons, List.map_nil, List.cons_append, List.nil_append, List.length_cons, List.length_nil, List.getElem?_cons_zero, List.getElem?_cons_succ, List.set_cons_zero, List.set_cons_succ, List.foldl_cons, List.foldl_nil, if_true, Nat.zero_add, Bool.not_true, Bool.not_false, Bool.false_eq_true, if_false, and_true, true_and]
            exact z (by simp [c])
          · simp only [decide_eq_false c, sRet, sSeq, sIf, sSet, sSetM, sNext, sNever, sExpr, sFrz, sX, sPar2, sPar3, sPars, sFor, sAsg, sAug, sSetI, sMk, sRetN, sBreak, sCont, sRetDeal, sFldI, dAndV, dOrV, dNotV, dFn, dFnL, dFnK, dChain, dCB, dCons, dNil, dVarB, dVar, dLit, dOp, dUn, dIf, dB, dNotT, dAndT, dOrT, dYes, dTup, dLst, dSl, dPart, dNoP, dRev, dJoin, dFldC, dMake, dLc, iA, iE, iR1, iR2, vNil, vE, vF, xMut, xMut2E, xE, gdName, gdTup, gdCons, gdNil, gLen, gLt, gLe, gGt, gGe, gCmp, gSl, gSlL, gIx, gI, gIc, gAdd, gLL, gTuple, gList, gInt, gAbs, gAppend, gInsert, gNeg, gIsT, gIsNotT, isi_tup, DL.ne_int, DL.eq_int, DL.eq_str, DL.ne_str, at_0, at_1, at_2, at_3, seqItems, lItems, DL.isNon, endsD, endsM, endsI, setAllD, wipeD, DSt.set, kgG, List.map_cons, List.map_nil, List.cons_append, List.nil_append, List.length_cons, List.length_nil, List.getElem?_cons_zero, List.getElem?_cons_succ, List.set_cons_zero, List.set_cons_succ, List.foldl_cons, List.foldl_nil, if_true, Nat.zero_add, Bool.not_true, Bool.not_false, Bool.false_eq_true, if_false, and_true, true_and]
            exact y (by simp [c])
        · rw [List.map_id', filter_map (fun x => !decide (x ∈ m)) _ (fun _ => rfl)]
          refine ⟨by decide, eq_nilL ?_ ?_⟩
          · refine okD_of (hd_lot _) ?_
            have := dep_lot ((ls[i]).filter fun x => !decide (x ∈ m))
            unfold lotD at this
            simp only [dep] at this ⊢
            omega
          · rw [List.isEmpty_map]
            cases e : ((ls[i]).filter fun x => !decide (x ∈ m)).isEmpty with
            | true => rw [e] at y; exact y rfl
            | false => rw [e] at z; exact z rfl
    · rw [List.map_id', filter_map (fun m => !decide (m = ls[i]) && ((ls[i]).filter fun x => !decide (x ∈ m)).isEmpty) _ (fun g => by rw [lotOf_lot])]
      refine ⟨by decide, eq_nilL (ok_lotsL _) ?_⟩
      rw [List.isEmpty_map]
      have et : (ls.filter fun m => !decide (m = ls[i]) && ((ls[i]).filter fun x => !decide (x ∈ m)).isEmpty).isEmpty = topl ls ls[i] := rfl
      rw [et]
      have e : ls.take (i + 1) = ls.take i ++ [ls[i]] := by rw [List.take_add_one, List.getElem?_eq_getElem hi]; rfl
      cases ht : topl ls ls[i] with
      | true =>
        simp only [sRet, sSeq, sIf, sSet, sSetM, sNext, sNever, sExpr, sFrz, sX, sPar2, sPar3, sPars, sFor, sAsg, sAug, sSetI, sMk, sRetN, sBreak, sCont, sRetDeal, sFldI, dAndV, dOrV, dNotV, dFn, dFnL, dFnK, dChain, dCB, dCons, dNil, dVarB, dVar, dLit, dOp, dUn, dIf, dB, dNotT, dAndT, dOrT, dYes, dTup, dLst, dSl, dPart, dNoP, dRev, dJoin, dFldC, dMake, dLc, iA, iE, iR1, iR2, vNil, vE, vF, xMut, xMut2E, xE, gdName, gdTup, gdCons, gdNil, gLen, gLt, gLe, gGt, gGe, gCmp, gSl, gSlL, gIx, gI, gIc, gAdd, gLL, gTuple, gList, gInt, gAbs, gAppend, gInsert, gNeg, gIsT, gIsNotT, isi_tup, DL.ne_int, DL.eq_int, DL.eq_str, DL.ne_str, at_0, at_1, at_2, at_3, seqItems, lItems, DL.isNon, endsD, endsM, endsI, setAllD, wipeD, DSt.set, kgG, List.map_cons, List.map_nil, List.cons_append, List.nil_append, List.length_cons, List.length_nil, List.getElem?_cons_zero, List.getElem?_cons_succ, List.set_cons_zero, List.set_cons_succ, List.foldl_cons, List.foldl_nil, if_true, Nat.zero_add, Bool.not_true, Bool.not_false, Bool.false_eq_true, if_false, and_true, true_and]
        refine ⟨⟨_, rfl⟩, ?_, hk _ ⟨.val (lotD ls[i]), s3, s4, ?_⟩⟩
        · rw [List.length_map]
          have := List.length_filter_le (topl ls) (ls.take i)
          rw [List.length_take] at this
          omega
        · rw [e, List.filter_append, List.filter_cons, if_pos ht, List.filter_nil, List.map_append]
          rfl
      | false =>
        simp only [sRet, sSeq, sIf, sSet, sSetM, sNext, sNever, sExpr, sFrz, sX, sPar2, sPar3, sPars, sFor, sAsg, sAug, sSetI, sMk, sRetN, sBreak, sCont, sRetDeal, sFldI, dAndV, dOrV, dNotV, dFn, dFnL, dFnK, dChain, dCB, dCons, dNil, dVarB, dVar, dLit, dOp, dUn, dIf, dB, dNotT, dAndT, dOrT, dYes, dTup, dLst, dSl, dPart, dNoP, dRev, dJoin, dFldC, dMake, dLc, iA, iE, iR1, iR2, vNil, vE, vF, xMut, xMut2E, xE, gdName, gdTup, gdCons, gdNil, gLen, gLt, gLe, gGt, gGe, gCmp, gSl, gSlL, gIx, gI, gIc, gAdd, gLL, gTuple, gList, gInt, gAbs, gAppend, gInsert, gNeg, gIsT, gIsNotT, isi_tup, DL.ne_int, DL.eq_int, DL.eq_str, DL.ne_str, at_0, at_1, at_2, at_3, seqItems, lItems, DL.isNon, endsD, endsM, endsI, setAllD, wipeD, DSt.set, kgG, List.map_cons, List.map_nil, List.cons_append, List.nil_append, List.length_cons, List.length_nil, List.getElem?_cons_zero, List.getElem?_cons_succ, List.set_cons_zero, List.set_cons_succ, List.foldl_cons, List.foldl_nil, if_true, Nat.zero_add, Bool.not_true, Bool.not_false, Bool.false_eq_true, if_false, and_true, true_and]
        refine hk _ ⟨.val (lotD ls[i]), s3, s4, ?_⟩
        rw [e, List.filter_append, List.filter_cons, if_neg (by rw [ht]; simp), List.filter_nil, List.append_nil]
end K67

namespace K67
open PySem PySem.Spec PyProof.Rows L2 DL
theorem sort_strs {l : List Str} (nd : l.Nodup) {Q : D → Prop} (q : ∀ l' : List Str, l'.Perm l → Rise (l'.map D.str) → Q (.lst (l'.map D.str))) : gSorted [.lst (l.map D.str)] Q := by
  have so : sortOk (l.map D.str) = true := by
    unfold sortOk
    rw [Bool.and_eq_true, List.all_eq_true, List.all_eq_true]
    refine ⟨fun x hx => ?_, fun x hx => ?_⟩
    · obtain ⟨a, _, rfl⟩ := List.mem_map.mp hx
      rw [ok_str]
      rfl
    · rw [List.all_eq_true]
      exact fun y hy => strs_ok.2 x hx y hy
  obtain ⟨l', pl, e⟩ := perm_map (sortD_perm (l.map D.str))
  have nd' : (l.map D.str).Nodup := List.Pairwise.map _ (fun a b h e => h (str_inj _ _ e)) nd
  have r := sortD_rise nd' (fun x hx => (strs_ok.1 x hx).1) strs_ok.2
  rw [e] at r
  show sortOk (l.map D.str) = true ∧ Q (.lst (sortD (l.map D.str)))
  rw [e]
  exact ⟨so, q l' pl r⟩
theorem pair_lt1 {a b c d : Str} (h : ltD (.str a) (.str c) = true) : ltD (pairD (a, b)) (pairD (c, d)) = true := ltD_head (alike_str a c) h
theorem pair_lt2 {a b d : Str} (h : ltD (.str b) (.str d) = true) : ltD (pairD (a, b)) (pairD (a, d)) = true := by
  show ltD (.tup [.str a, .str b]) (.tup [.str a, .str d]) = true
  rw [ltD_tail]
  exact ltD_head (alike_str b d) h
theorem one_lt {a b : Str} (h : ltD (.str a) (.str b) = true) : ltD (lotD [a]) (lotD [b]) = true := ltD_head (alike_str a b) h
theorem Lot.mono {b c : Nat} {n l : List Str} (h : Lot b n l) (hb : b ≤ c) : Lot c n l := ⟨h.r, h.s, Nat.le_trans h.z hb⟩
/-- pairs x6 with some of the names -/
theorem seg_rise {x : Str} {l : List Str} (h : Rise (l.map D.str)) : Rise ((l.map fun y => (x, y)).map pairD) := by
  rw [Rise, List.pairwise_map] at h
  rw [Rise, List.map_map, List.pairwise_map]
  exact h.imp fun {a b} q => pair_lt2 q
/-- the tells so far -/
structure Tl (n : List Str) (i : Nat) (ts : List (Str × Str)) : Prop where
  p : ∀ p ∈ ts, p.1 ∈ n.take i ∧ p.2 ∈ n ∧ p.1 ≠ p.2
  r : Rise (ts.map pairD)
  z : ts.length ≤ 6 * i
theorem Tl.add {n : List Str} {i : Nat} {ts : List (Str × Str)} (h : Tl n i ts) (hn : Names n) (hi : i < n.length) {l : List Str} (hs : l.Sublist n) (ne : ∀ y ∈ l, n[i] ≠ y) : Tl n (i + 1) (ts ++ l.map fun y => (n[i], y)) := by
  have et : n.take (i + 1) = n.take i ++ [n[i]] := by rw [List.take_add_one, List.getElem?_eq_getElem hi]; rfl
  refine ⟨fun p hp => ?_, ?_, ?_⟩
  · rw [et]
    rcases List.mem_append.mp hp with hp | hp
    · obtain ⟨a, b, c⟩ := h.p p hp
      exact ⟨List.mem_append_left _ a, b, c⟩
    · obtain ⟨y, hy, rfl⟩ := List.mem_map.mp hp
      exact ⟨List.mem_append_right _ List.mem_cons_self, hs.subset hy, ne y hy⟩
  · rw [List.map_append]
    refine List.pairwise_append.mpr ⟨h.r, seg_rise (List.Pairwise.sublist (hs.map _) hn.nr), fun a ha b hb => ?_⟩
    obtain ⟨p, hp, rfl⟩ := List.mem_map.mp ha
    obtain ⟨q, hq, rfl⟩ := List.mem_map.mp hb
    obtain ⟨y, hy, rfl⟩ := List.mem_map.mp hq
    obtain ⟨a1, _, _⟩ := h.p p hp
    refine pair_lt1 (a := p.1) (b := p.2) ?_
    have hr := hn.nr
    rw [Rise, List.pairwise_map] at hr
    obtain ⟨j, hj, e⟩ := List.getElem_of_mem a1
    rw [List.length_take] at hj
    rw [List.getElem_take] at e
    have := List.pairwise_iff_getElem.mp hr j i (by omega) hi (by omega)
    rw [e] at this
    exact this
  · rw [List.length_append, List.length_map]
    have := h.z
    have := hs.length_le
    have := hn.n6
    omega
theorem p_law_told_offices (a b : Addr) (ds : List D) (Q : D → Prop) (hl : ds.length + 1 = 3) (h : sp_law_told_offices ds Q) : w_law_told_offices (endsD Q fun _ => False) (initL 11 ds a b) := by
  obtain ⟨hs, n, rfl, h2, h6, hnm, hr, n1, n6, q⟩ := h
  rw [i_law_told_offices]
  have sz := sizeLine_v
  simp only [w_law_told_offices, sRet, sSeq, sIf, sSet, sSetM, sNext, sNever, sExpr, sFrz, sX, sPar2, sPar3, sPars, sFor, sAsg, sAug, sSetI, sMk, sRetN, sBreak, sCont, sRetDeal, sFldI, dAndV, dOrV, dNotV, dFn, dFnL, dFnK, dChain, dCB, dCons, dNil, dVarB, dVar, dLit, dOp, dUn, dIf, dB, dNotT, dAndT, dOrT, dYes, dTup, dLst, dSl, dPart, dNoP, dRev, dJoin, dFldC, dMake, dLc, iA, iE, iR1, iR2, vNil, vE, vF, xMut, xMut2E, xE, gdName, gdTup, gdCons, gdNil, gLen, gLt, gLe, gGt, gGe, gCmp, gSl, gSlL, gIx, gI, gIc, gAdd, gLL, gTuple, gList, gInt, gAbs, gAppend, gInsert, gNeg, gIsT, gIsNotT, isi_tup, DL.ne_int, DL.eq_int, DL.eq_str, DL.ne_str, at_0, at_1, at_2, at_3, seqItems, lItems, DL.isNon, endsD, endsM, endsI, setAllD, wipeD, DSt.set, kgG, List.map_cons, List.map_nil, List.cons_append, List.nil_append, List.length_cons, List.length_nil, List.getElem?_cons_zero, List.getElem?_cons_succ, List.set_cons_zero, List.set_cons_succ, List.foldl_cons, List.foldl_nil, if_true, Nat.zero_add, Bool.not_true, Bool.not_false, Bool.false_eq_true, if_false, and_true, true_and]
  refine ⟨n, rfl, by omega, fun ws wl wn wm => ?_⟩
  refine sort_strs wn fun ns pn nr => ?_
  have hn : Names ns := ⟨by rw [pn.length_eq]; omega, by rw [pn.length_eq]; omega, fun s hs => wm s (pn.subset hs), nr⟩
  simp only [sRet, sSeq, sIf, sSet, sSetM, sNext, sNever, sExpr, sFrz, sX, sPar2, sPar3, sPars, sFor, sAsg, sAug, sSetI, sMk, sRetN, sBreak, sCont, sRetDeal, sFldI, dAndV, dOrV, dNotV, dFn, dFnL, dFnK, dChain, dCB, dCons, dNil, dVarB, dVar, dLit, dOp, dUn, dIf, dB, dNotT, dAndT, dOrT, dYes, dTup, dLst, dSl, dPart, dNoP, dRev, dJoin, dFldC, dMake, dLc, iA, iE, iR1, iR2, vNil, vE, vF, xMut, xMut2E, xE, gdName, gdTup, gdCons, gdNil, gLen, gLt, gLe, gGt, gGe, gCmp, gSl, gSlL, gIx, gI, gIc, gAdd, gLL, gTuple, gList, gInt, gAbs, gAppend, gInsert, gNeg, gIsT, gIsNotT, isi_tup, DL.ne_int, DL.eq_int, DL.eq_str, DL.ne_str, at_0, at_1, at_2, at_3, seqItems, lItems, DL.isNon, endsD, endsM, endsI, setAllD, wipeD, DSt.set, kgG, List.map_cons, List.map_nil, List.cons_append, List.nil_append, List.length_cons, List.length_nil, List.getElem?_cons_zero, List.getElem?_cons_succ, List.set_cons_zero, List.set_cons_succ, List.foldl_cons, List.foldl_nil, if_true, Nat.zero_add, Bool.not_true, Bool.not_false, Bool.false_eq_true, if_false, and_true, true_and]
  refine ⟨Nat.zero_le _, Nat.zero_le _, ?_⟩
  refine for_ix (ds := ns.map D.str) (i := 0) (fun i st => ∃ ts s6 s9, st = ⟨[.deal, .val (.lst (hs.map D.str)), .val (.int n), .val (lotD ns), .val (.lst (ts.map pairD)), .mu (.lst []), s6, .no, .no, s9, .no], some (a, b)⟩ ∧ Tl ns i ts) rfl
    ⟨[], _, _, rfl, ⟨fun p hp => absurd hp List.not_mem_nil, .nil, Nat.le_refl _⟩⟩ (fun st' h' => ?_) (Nat.zero_le _) fun i d st hd h' k hk => ?_
  · obtain ⟨ts, s6, s9, rfl, tl⟩ := h'
    rw [List.length_map] at tl
    simp only [sRet, sSeq, sIf, sSet, sSetM, sNext, sNever, sExpr, sFrz, sX, sPar2, sPar3, sPars, sFor, sAsg, sAug, sSetI, sMk, sRetN, sBreak, sCont, sRetDeal, sFldI, dAndV, dOrV, dNotV, dFn, dFnL, dFnK, dChain, dCB, dCons, dNil, dVarB, dVar, dLit, dOp, dUn, dIf, dB, dNotT, dAndT, dOrT, dYes, dTup, dLst, dSl, dPart, dNoP, dRev, dJoin, dFldC, dMake, dLc, iA, iE, iR1, iR2, vNil, vE, vF, xMut, xMut2E, xE, gdName, gdTup, gdCons, gdNil, gLen, gLt, gLe, gGt, gGe, gCmp, gSl, gSlL, gIx, gI, gIc, gAdd, gLL, gTuple, gList, gInt, gAbs, gAppend, gInsert, gNeg, gIsT, gIsNotT, isi_tup, DL.ne_int, DL.eq_int, DL.eq_str, DL.ne_str, at_0, at_1, at_2, at_3, seqItems, lItems, DL.isNon, endsD, endsM, endsI, setAllD, wipeD, DSt.set, kgG, List.map_cons, List.map_nil, List.cons_append, List.nil_append, List.length_cons, List.length_nil, List.getElem?_cons_zero, List.getElem?_cons_succ, List.set_cons_zero, List.set_cons_succ, List.foldl_cons, List.foldl_nil, if_true, Nat.zero_add, Bool.not_true, Bool.not_false, Bool.false_eq_true, if_false, and_true, true_and]
    refine for_ix (ds := hs.map D.str) (i := 0) (fun i st => ∃ cs s7, st = ⟨[.deal, .val (.lst (hs.map D.str)), .val (.int n), .val (lotD ns), .val (.lst (ts.map pairD)), .mu (.lst (cs.map cntD)), s6, s7, .no, s9, .no], some (a, b)⟩ ∧ cs.map (·.1) = hs.take i ∧ ∀ c ∈ cs, Cnt 36 ns c) rfl
      ⟨[], _, rfl, rfl, fun c hc => absurd hc List.not_mem_nil⟩ (fun st' h' => ?_) (Nat.zero_le _) fun i d st hd h' k hk => ?_
    · obtain ⟨cs, s7, rfl, e1, hc⟩ := h'
      rw [List.length_map, List.take_length] at e1
      have fin : ∀ fgs : List (List Str), fgs ≠ [] → Rise (fgs.map lotD) → fgs.length ≤ 36 → (∀ l ∈ fgs, Lot 36 ns l) → (∀ l ∈ fgs, ∀ m ∈ fgs, (∀ x ∈ l, x ∈ m) → l = m) → Q (.tup [lotD ns, .tup (ts.map pairD), .tup (cs.map cntD), .tup (fgs.map lotD)]) := fun fgs f0 fr fz fl fa => by
        have hcl : cs.length = hs.length := by rw [← e1, List.length_map]
        exact q ⟨ns, ts, cs, fgs⟩ ⟨hn, fun p hp => by
          obtain ⟨a1, a2, a3⟩ := tl.p p hp
          exact ⟨List.mem_of_mem_take a1, a2, a3⟩, tl.r, by have := tl.z; have := hn.n6; show ts.length ≤ 36; omega, by show 2 ≤ cs.length; omega, by show cs.length ≤ 6; omega, by
          have e : (cs.map fun c => D.str c.1) = (cs.map (·.1)).map D.str := by rw [List.map_map]; rfl
          show Rise (cs.map fun c => D.str c.1)
          rw [e, e1]
          exact hr, hc, f0, fr, fz, fl, fa⟩
      simp only [sp_law_draw, drawN, sRet, sSeq, sIf, sSet, sSetM, sNext, sNever, sExpr, sFrz, sX, sPar2, sPar3, sPars, sFor, sAsg, sAug, sSetI, sMk, sRetN, sBreak, sCont, sRetDeal, sFldI, dAndV, dOrV, dNotV, dFn, dFnL, dFnK, dChain, dCB, dCons, dNil, dVarB, dVar, dLit, dOp, dUn, dIf, dB, dNotT, dAndT, dOrT, dYes, dTup, dLst, dSl, dPart, dNoP, dRev, dJoin, dFldC, dMake, dLc, iA, iE, iR1, iR2, vNil, vE, vF, xMut, xMut2E, xE, gdName, gdTup, gdCons, gdNil, gLen, gLt, gLe, gGt, gGe, gCmp, gSl, gSlL, gIx, gI, gIc, gAdd, gLL, gTuple, gList, gInt, gAbs, gAppend, gInsert, gNeg, gIsT, gIsNotT, isi_tup, DL.ne_int, DL.eq_int, DL.eq_str, DL.ne_str, at_0, at_1, at_2, at_3, seqItems, lItems, DL.isNon, endsD, endsM, endsI, setAllD, wipeD, DSt.set, kgG, List.map_cons, List.map_nil, List.cons_append, List.nil_append, List.length_cons, List.length_nil, List.getElem?_cons_zero, List.getElem?_cons_succ, List.set_cons_zero, List.set_cons_succ, List.foldl_cons, List.foldl_nil, if_true, Nat.zero_add, Bool.not_true, Bool.not_false, Bool.false_eq_true, if_false, and_true, true_and]
      refine ⟨_, rfl, by decide, by decide, fun v v0 v1 => ?_⟩
      obtain ⟨m, rfl⟩ := Int.eq_ofNat_of_zero_le v0
      refine ⟨ns, 1 + m, 0, by rw [Int.natCast_add]; rfl, hn, by omega, by omega, by decide, fun ls l0 lz lr lh => ?_⟩
      simp only [sRet, sSeq, sIf, sSet, sSetM, sNext, sNever, sExpr, sFrz, sX, sPar2, sPar3, sPars, sFor, sAsg, sAug, sSetI, sMk, sRetN, sBreak, sCont, sRetDeal, sFldI, dAndV, dOrV, dNotV, dFn, dFnL, dFnK, dChain, dCB, dCons, dNil, dVarB, dVar, dLit, dOp, dUn, dIf, dB, dNotT, dAndT, dOrT, dYes, dTup, dLst, dSl, dPart, dNoP, dRev, dJoin, dFldC, dMake, dLc, iA, iE, iR1, iR2, vNil, vE, vF, xMut, xMut2E, xE, gdName, gdTup, gdCons, gdNil, gLen, gLt, gLe, gGt, gGe, gCmp, gSl, gSlL, gIx, gI, gIc, gAdd, gLL, gTuple, gList, gInt, gAbs, gAppend, gInsert, gNeg, gIsT, gIsNotT, isi_tup, DL.ne_int, DL.eq_int, DL.eq_str, DL.ne_str, at_0, at_1, at_2, at_3, seqItems, lItems, DL.isNon, endsD, endsM, endsI, setAllD, wipeD, DSt.set, kgG, List.map_cons, List.map_nil, List.cons_append, List.nil_append, List.length_cons, List.length_nil, List.getElem?_cons_zero, List.getElem?_cons_succ, List.set_cons_zero, List.set_cons_succ, List.foldl_cons, List.foldl_nil, if_true, Nat.zero_add, Bool.not_true, Bool.not_false, Bool.false_eq_true, if_false, and_true, true_and]
      refine ⟨ns, ls, rfl, hn, l0, by omega, lr, fun l hl => (lh l hl).1, fun gs g0 gz gr gm ga => ?_⟩
      simp only [sRet, sSeq, sIf, sSet, sSetM, sNext, sNever, sExpr, sFrz, sX, sPar2, sPar3, sPars, sFor, sAsg, sAug, sSetI, sMk, sRetN, sBreak, sCont, sRetDeal, sFldI, dAndV, dOrV, dNotV, dFn, dFnL, dFnK, dChain, dCB, dCons, dNil, dVarB, dVar, dLit, dOp, dUn, dIf, dB, dNotT, dAndT, dOrT, dYes, dTup, dLst, dSl, dPart, dNoP, dRev, dJoin, dFldC, dMake, dLc, iA, iE, iR1, iR2, vNil, vE, vF, xMut, xMut2E, xE, gdName, gdTup, gdCons, gdNil, gLen, gLt, gLe, gGt, gGe, gCmp, gSl, gSlL, gIx, gI, gIc, gAdd, gLL, gTuple, gList, gInt, gAbs, gAppend, gInsert, gNeg, gIsT, gIsNotT, isi_tup, DL.ne_int, DL.eq_int, DL.eq_str, DL.ne_str, at_0, at_1, at_2, at_3, seqItems, lItems, DL.isNon, endsD, endsM, endsI, setAllD, wipeD, DSt.set, kgG, List.map_cons, List.map_nil, List.cons_append, List.nil_append, List.length_cons, List.length_nil, List.getElem?_cons_zero, List.getElem?_cons_succ, List.set_cons_zero, List.set_cons_succ, List.foldl_cons, List.foldl_nil, if_true, Nat.zero_add, Bool.not_true, Bool.not_false, Bool.false_eq_true, if_false, and_true, true_and]
      refine ⟨_, rfl, by decide, by decide, fun v2 v20 v21 => ?_⟩
      by_cases c : v2 = 0
      · simp only [decide_eq_true c, lotD, sRet, sSeq, sIf, sSet, sSetM, sNext, sNever, sExpr, sFrz, sX, sPar2, sPar3, sPars, sFor, sAsg, sAug, sSetI, sMk, sRetN, sBreak, sCont, sRetDeal, sFldI, dAndV, dOrV, dNotV, dFn, dFnL, dFnK, dChain, dCB, dCons, dNil, dVarB, dVar, dLit, dOp, dUn, dIf, dB, dNotT, dAndT, dOrT, dYes, dTup, dLst, dSl, dPart, dNoP, dRev, dJoin, dFldC, dMake, dLc, iA, iE, iR1, iR2, vNil, vE, vF, xMut, xMut2E, xE, gdName, gdTup, gdCons, gdNil, gLen, gLt, gLe, gGt, gGe, gCmp, gSl, gSlL, gIx, gI, gIc, gAdd, gLL, gTuple, gList, gInt, gAbs, gAppend, gInsert, gNeg, gIsT, gIsNotT, isi_tup, DL.ne_int, DL.eq_int, DL.eq_str, DL.ne_str, at_0, at_1, at_2, at_3, seqItems, lItems, DL.isNon, endsD, endsM, endsI, setAllD, wipeD, DSt.set, kgG, List.map_cons, List.map_nil, List.cons_append, List.nil_append, List.length_cons, List.length_nil, List.getElem?_cons_zero, List.getElem?_cons_succ, List.set_cons_zero, List.set_cons_succ, List.foldl_cons, List.foldl_nil, if_true, Nat.zero_add, Bool.not_true, Bool.not_false, Bool.false_eq_true, if_false, and_true, true_and]
        refine lc_map (fun d => .tup [d]) (fun d hd Y y => ?_) ?_
        · obtain ⟨x, hx, rfl⟩ := List.mem_map.mp hd
          simp only [sRet, sSeq, sIf, sSet, sSetM, sNext, sNever, sExpr, sFrz, sX, sPar2, sPar3, sPars, sFor, sAsg, sAug, sSetI, sMk, sRetN, sBreak, sCont, sRetDeal, sFldI, dAndV, dOrV, dNotV, dFn, dFnL, dFnK, dChain, dCB, dCons, dNil, dVarB, dVar, dLit, dOp, dUn, dIf, dB, dNotT, dAndT, dOrT, dYes, dTup, dLst, dSl, dPart, dNoP, dRev, dJoin, dFldC, dMake, dLc, iA, iE, iR1, iR2, vNil, vE, vF, xMut, xMut2E, xE, gdName, gdTup, gdCons, gdNil, gLen, gLt, gLe, gGt, gGe, gCmp, gSl, gSlL, gIx, gI, gIc, gAdd, gLL, gTuple, gList, gInt, gAbs, gAppend, gInsert, gNeg, gIsT, gIsNotT, isi_tup, DL.ne_int, DL.eq_int, DL.eq_str, DL.ne_str, at_0, at_1, at_2, at_3, seqItems, lItems, DL.isNon, endsD, endsM, endsI, setAllD, wipeD, DSt.set, kgG, List.map_cons, List.map_nil, List.cons_append, List.nil_append, List.length_cons, List.length_nil, List.getElem?_cons_zero, List.getElem?_cons_succ, List.set_cons_zero, List.set_cons_succ, List.foldl_cons, List.foldl_nil, if_true, Nat.zero_add, Bool.not_true, Bool.not_false, Bool.false_eq_true, if_false, and_true, true_and]
          exact ⟨by decide, y⟩
        · rw [List.map_map]
          have e : ns.map ((fun d => D.tup [d]) ∘ D.str) = (ns.map fun x => [x]).map lotD := by rw [List.map_map]; rfl
          rw [e]
          refine ⟨by decide, fin (ns.map fun x => [x]) ?_ ?_ ?_ ?_ ?_⟩
          · intro e
            rw [List.map_eq_nil_iff] at e
            have := hn.n1
            rw [e] at this
            cases this
          · have r := hn.nr
            rw [Rise, List.pairwise_map] at r
            rw [Rise, List.map_map, List.pairwise_map]
            exact r.imp fun {a b} q => one_lt q
          · rw [List.length_map]
            have := hn.n6
            omega
          · intro l hl
            obtain ⟨x, hx, rfl⟩ := List.mem_map.mp hl
            exact (lot_one hx).mono (by decide)
          · intro l hl m hm hs
            obtain ⟨x, hx, rfl⟩ := List.mem_map.mp hl
            obtain ⟨y, hy, rfl⟩ := List.mem_map.mp hm
            rw [List.mem_singleton.mp (hs x List.mem_cons_self)]
      · simp only [decide_eq_false c, sRet, sSeq, sIf, sSet, sSetM, sNext, sNever, sExpr, sFrz, sX, sPar2, sPar3, sPars, sFor, sAsg, sAug, sSetI, sMk, sRetN, sBreak, sCont, sRetDeal, sFldI, dAndV, dOrV, dNotV, dFn, dFnL, dFnK, dChain, dCB, dCons, dNil, dVarB, dVar, dLit, dOp, dUn, dIf, dB, dNotT, dAndT, dOrT, dYes, dTup, dLst, dSl, dPart, dNoP, dRev, dJoin, dFldC, dMake, dLc, iA, iE, iR1, iR2, vNil, vE, vF, xMut, xMut2E, xE, gdName, gdTup, gdCons, gdNil, gLen, gLt, gLe, gGt, gGe, gCmp, gSl, gSlL, gIx, gI, gIc, gAdd, gLL, gTuple, gList, gInt, gAbs, gAppend, gInsert, gNeg, gIsT, gIsNotT, isi_tup, DL.ne_int, DL.eq_int, DL.eq_str, DL.ne_str, at_0, at_1, at_2, at_3, seqItems, lItems, DL.isNon, endsD, endsM, endsI, setAllD, wipeD, DSt.set, kgG, List.map_cons, List.map_nil, List.cons_append, List.nil_append, List.length_cons, List.length_nil, List.getElem?_cons_zero, List.getElem?_cons_succ, List.set_cons_zero, List.set_cons_succ, List.foldl_cons, List.foldl_nil, if_true, Nat.zero_add, Bool.not_true, Bool.not_false, Bool.false_eq_true, if_false, and_true, true_and]
        exact ⟨by decide, fin gs g0 gr (by omega) (fun l hl => (lh l (gm l hl)).1.mono (by decide)) ga⟩
    · obtain ⟨cs, s7, rfl, e1, hc⟩ := h'
      have hi := (List.getElem?_eq_some_iff.mp hd).1
      rw [List.length_map] at hi
      rw [List.getElem?_map, List.getElem?_eq_getElem hi, Option.map_some] at hd
      injection hd with hd
      subst hd
      simp only [sp_law_draw, drawN, sRet, sSeq, sIf, sSet, sSetM, sNext, sNever, sExpr, sFrz, sX, sPar2, sPar3, sPars, sFor, sAsg, sAug, sSetI, sMk, sRetN, sBreak, sCont, sRetDeal, sFldI, dAndV, dOrV, dNotV, dFn, dFnL, dFnK, dChain, dCB, dCons, dNil, dVarB, dVar, dLit, dOp, dUn, dIf, dB, dNotT, dAndT, dOrT, dYes, dTup, dLst, dSl, dPart, dNoP, dRev, dJoin, dFldC, dMake, dLc, iA, iE, iR1, iR2, vNil, vE, vF, xMut, xMut2E, xE, gdName, gdTup, gdCons, gdNil, gLen, gLt, gLe, gGt, gGe, gCmp, gSl, gSlL, gIx, gI, gIc, gAdd, gLL, gTuple, gList, gInt, gAbs, gAppend, gInsert, gNeg, gIsT, gIsNotT, isi_tup, DL.ne_int, DL.eq_int, DL.eq_str, DL.ne_str, at_0, at_1, at_2, at_3, seqItems, lItems, DL.isNon, endsD, endsM, endsI, setAllD, wipeD, DSt.set, kgG, List.map_cons, List.map_nil, List.cons_append, List.nil_append, List.length_cons, List.length_nil, List.getElem?_cons_zero, List.getElem?_cons_succ, List.set_cons_zero, List.set_cons_succ, List.foldl_cons, List.foldl_nil, if_true, Nat.zero_add, Bool.not_true, Bool.not_false, Bool.false_eq_true, if_false, and_true, true_and]
      refine ⟨⟨_, rfl⟩, _, rfl, by decide, by decide, fun v v0 v1 => ?_⟩
      obtain ⟨m, rfl⟩ := Int.eq_ofNat_of_zero_le v0
      refine ⟨ns, 1 + m, 1, by rw [Int.natCast_add]; rfl, hn, by omega, by omega, by decide, fun ls l0 lz lr lh => ?_⟩
      simp only [sRet, sSeq, sIf, sSet, sSetM, sNext, sNever, sExpr, sFrz, sX, sPar2, sPar3, sPars, sFor, sAsg, sAug, sSetI, sMk, sRetN, sBreak, sCont, sRetDeal, sFldI, dAndV, dOrV, dNotV, dFn, dFnL, dFnK, dChain, dCB, dCons, dNil, dVarB, dVar, dLit, dOp, dUn, dIf, dB, dNotT, dAndT, dOrT, dYes, dTup, dLst, dSl, dPart, dNoP, dRev, dJoin, dFldC, dMake, dLc, iA, iE, iR1, iR2, vNil, vE, vF, xMut, xMut2E, xE, gdName, gdTup, gdCons, gdNil, gLen, gLt, gLe, gGt, gGe, gCmp, gSl, gSlL, gIx, gI, gIc, gAdd, gLL, gTuple, gList, gInt, gAbs, gAppend, gInsert, gNeg, gIsT, gIsNotT, isi_tup, DL.ne_int, DL.eq_int, DL.eq_str, DL.ne_str, at_0, at_1, at_2, at_3, seqItems, lItems, DL.isNon, endsD, endsM, endsI, setAllD, wipeD, DSt.set, kgG, List.map_cons, List.map_nil, List.cons_append, List.nil_append, List.length_cons, List.length_nil, List.getElem?_cons_zero, List.getElem?_cons_succ, List.set_cons_zero, List.set_cons_succ, List.foldl_cons, List.foldl_nil, if_true, Nat.zero_add, Bool.not_true, Bool.not_false, Bool.false_eq_true, if_false, and_true, true_and]
      have e2 : cs.length = i := by
        have := congrArg List.length e1
        rw [List.length_map, List.length_take] at this
        omega
      refine ⟨by decide, by rw [List.length_map]; omega, hk _ ⟨cs ++ [(hs[i], ls)], _, by rw [List.map_append]; rfl, ?_, fun c hc' => ?_⟩⟩
      · rw [List.map_append, e1, List.take_add_one, List.getElem?_eq_getElem hi]
        rfl
      · rcases List.mem_append.mp hc' with h | h
        · exact hc c h
        · rw [List.mem_singleton.mp h]
          exact ⟨hnm _ (List.getElem_mem hi), l0, lr, by show ls.length ≤ 36; omega, fun l hl => ⟨fun e => by
            have := (lh l hl).2
            rw [e] at this
            exact absurd this (by decide), (lh l hl).1.mono (by decide)⟩⟩
  · obtain ⟨ts, s6, s9, rfl, tl⟩ := h'
    have hi := (List.getElem?_eq_some_iff.mp hd).1
    rw [List.length_map] at hi
    rw [List.getElem?_map, List.getElem?_eq_getElem hi, Option.map_some] at hd
    injection hd with hd
    subst hd
    simp only [lotD, sRet, sSeq, sIf, sSet, sSetM, sNext, sNever, sExpr, sFrz, sX, sPar2, sPar3, sPars, sFor, sAsg, sAug, sSetI, sMk, sRetN, sBreak, sCont, sRetDeal, sFldI, dAndV, dOrV, dNotV, dFn, dFnL, dFnK, dChain, dCB, dCons, dNil, dVarB, dVar, dLit, dOp, dUn, dIf, dB, dNotT, dAndT, dOrT, dYes, dTup, dLst, dSl, dPart, dNoP, dRev, dJoin, dFldC, dMake, dLc, iA, iE, iR1, iR2, vNil, vE, vF, xMut, xMut2E, xE, gdName, gdTup, gdCons, gdNil, gLen, gLt, gLe, gGt, gGe, gCmp, gSl, gSlL, gIx, gI, gIc, gAdd, gLL, gTuple, gList, gInt, gAbs, gAppend, gInsert, gNeg, gIsT, gIsNotT, isi_tup, DL.ne_int, DL.eq_int, DL.eq_str, DL.ne_str, at_0, at_1, at_2, at_3, seqItems, lItems, DL.isNon, endsD, endsM, endsI, setAllD, wipeD, DSt.set, kgG, List.map_cons, List.map_nil, List.cons_append, List.nil_append, List.length_cons, List.length_nil, List.getElem?_cons_zero, List.getElem?_cons_succ, List.set_cons_zero, List.set_cons_succ, List.foldl_cons, List.foldl_nil, if_true, Nat.zero_add, Bool.not_true, Bool.not_false, Bool.false_eq_true, if_false, and_true, true_and]
    refine lc_rel (fun done acc => ∃ l : List Str, acc = (l.map fun y => (ns[i], y)).map pairD ∧ (l.map D.str).Sublist done ∧ ∀ y ∈ l, ns[i] ≠ y) [] [] ⟨[], rfl, .slnil, fun y hy => absurd hy List.not_mem_nil⟩ (fun acc h' => ?_) (fun done acc d Y Z h' hd hy hz => ?_)
    · obtain ⟨l, e, hs', ne⟩ := h'
      rw [List.nil_append] at e hs'
      subst e
      obtain ⟨l2, hs2, e2⟩ := List.sublist_map_iff.mp hs'
      have e3 := map_inj str_inj e2
      subst e3
      have tl' := tl.add hn hi hs2 ne
      refine ⟨?_, ?_⟩
      · have := tl'.z
        rw [List.length_append] at this
        rw [List.length_map, List.length_map]
        have := hn.n6
        omega
      · rw [← List.map_append]
        exact hk _ ⟨_, _, _, rfl, tl'⟩
    · obtain ⟨l, rfl, hs', ne⟩ := h'
      obtain ⟨x, hx, rfl⟩ := List.mem_map.mp hd
      simp only [sRet, sSeq, sIf, sSet, sSetM, sNext, sNever, sExpr, sFrz, sX, sPar2, sPar3, sPars, sFor, sAsg, sAug, sSetI, sMk, sRetN, sBreak, sCont, sRetDeal, sFldI, dAndV, dOrV, dNotV, dFn, dFnL, dFnK, dChain, dCB, dCons, dNil, dVarB, dVar, dLit, dOp, dUn, dIf, dB, dNotT, dAndT, dOrT, dYes, dTup, dLst, dSl, dPart, dNoP, dRev, dJoin, dFldC, dMake, dLc, iA, iE, iR1, iR2, vNil, vE, vF, xMut, xMut2E, xE, gdName, gdTup, gdCons, gdNil, gLen, gLt, gLe, gGt, gGe, gCmp, gSl, gSlL, gIx, gI, gIc, gAdd, gLL, gTuple, gList, gInt, gAbs, gAppend, gInsert, gNeg, gIsT, gIsNotT, isi_tup, DL.ne_int, DL.eq_int, DL.eq_str, DL.ne_str, at_0, at_1, at_2, at_3, seqItems, lItems, DL.isNon, endsD, endsM, endsI, setAllD, wipeD, DSt.set, kgG, List.map_cons, List.map_nil, List.cons_append, List.nil_append, List.length_cons, List.length_nil, List.getElem?_cons_zero, List.getElem?_cons_succ, List.set_cons_zero, List.set_cons_succ, List.foldl_cons, List.foldl_nil, if_true, Nat.zero_add, Bool.not_true, Bool.not_false, Bool.false_eq_true, if_false, and_true, true_and]
      by_cases c : ns[i] = x
      · simp only [decide_eq_true c, sRet, sSeq, sIf, sSet, sSetM, sNext, sNever, sExpr, sFrz, sX, sPar2, sPar3, sPars, sFor, sAsg, sAug, sSetI, sMk, sRetN, sBreak, sCont, sRetDeal, sFldI, dAndV, dOrV, dNotV, dFn, dFnL, dFnK, dChain, dCB, dCons, dNil, dVarB, dVar, dLit, dOp, dUn, dIf, dB, dNotT, dAndT, dOrT, dYes, dTup, dLst, dSl, dPart, dNoP, dRev, dJoin, dFldC, dMake, dLc, iA, iE, iR1, iR2, vNil, vE, vF, xMut, xMut2E, xE, gdName, gdTup, gdCons, gdNil, gLen, gLt, gLe, gGt, gGe, gCmp, gSl, gSlL, gIx, gI, gIc, gAdd, gLL, gTuple, gList, gInt, gAbs, gAppend, gInsert, gNeg, gIsT, gIsNotT, isi_tup, DL.ne_int, DL.eq_int, DL.eq_str, DL.ne_str, at_0, at_1, at_2, at_3, seqItems, lItems, DL.isNon, endsD, endsM, endsI, setAllD, wipeD, DSt.set, kgG, List.map_cons, List.map_nil, List.cons_append, List.nil_append, List.length_cons, List.length_nil, List.getElem?_cons_zero, List.getElem?_cons_succ, List.set_cons_zero, List.set_cons_succ, List.foldl_cons, List.foldl_nil, if_true, Nat.zero_add, Bool.not_true, Bool.not_false, Bool.false_eq_true, if_false, and_true, true_and]
        exact hz ⟨l, rfl, by have := hs'.append (List.nil_sublist [D.str x]); rw [List.append_nil] at this; exact this, ne⟩
      · simp only [decide_eq_false c, sp_law_draw, drawN, sRet, sSeq, sIf, sSet, sSetM, sNext, sNever, sExpr, sFrz, sX, sPar2, sPar3, sPars, sFor, sAsg, sAug, sSetI, sMk, sRetN, sBreak, sCont, sRetDeal, sFldI, dAndV, dOrV, dNotV, dFn, dFnL, dFnK, dChain, dCB, dCons, dNil, dVarB, dVar, dLit, dOp, dUn, dIf, dB, dNotT, dAndT, dOrT, dYes, dTup, dLst, dSl, dPart, dNoP, dRev, dJoin, dFldC, dMake, dLc, iA, iE, iR1, iR2, vNil, vE, vF, xMut, xMut2E, xE, gdName, gdTup, gdCons, gdNil, gLen, gLt, gLe, gGt, gGe, gCmp, gSl, gSlL, gIx, gI, gIc, gAdd, gLL, gTuple, gList, gInt, gAbs, gAppend, gInsert, gNeg, gIsT, gIsNotT, isi_tup, DL.ne_int, DL.eq_int, DL.eq_str, DL.ne_str, at_0, at_1, at_2, at_3, seqItems, lItems, DL.isNon, endsD, endsM, endsI, setAllD, wipeD, DSt.set, kgG, List.map_cons, List.map_nil, List.cons_append, List.nil_append, List.length_cons, List.length_nil, List.getElem?_cons_zero, List.getElem?_cons_succ, List.set_cons_zero, List.set_cons_succ, List.foldl_cons, List.foldl_nil, if_true, Nat.zero_add, Bool.not_true, Bool.not_false, Bool.false_eq_true, if_false, and_true, true_and]
        refine ⟨_, rfl, by decide, by decide, fun v v0 v1 => ?_⟩
        by_cases c2 : v = 0
        · simp only [decide_eq_true c2, sRet, sSeq, sIf, sSet, sSetM, sNext, sNever, sExpr, sFrz, sX, sPar2, sPar3, sPars, sFor, sAsg, sAug, sSetI, sMk, sRetN, sBreak, sCont, sRetDeal, sFldI, dAndV, dOrV, dNotV, dFn, dFnL, dFnK, dChain, dCB, dCons, dNil, dVarB, dVar, dLit, dOp, dUn, dIf, dB, dNotT, dAndT, dOrT, dYes, dTup, dLst, dSl, dPart, dNoP, dRev, dJoin, dFldC, dMake, dLc, iA, iE, iR1, iR2, vNil, vE, vF, xMut, xMut2E, xE, gdName, gdTup, gdCons, gdNil, gLen, gLt, gLe, gGt, gGe, gCmp, gSl, gSlL, gIx, gI, gIc, gAdd, gLL, gTuple, gList, gInt, gAbs, gAppend, gInsert, gNeg, gIsT, gIsNotT, isi_tup, DL.ne_int, DL.eq_int, DL.eq_str, DL.ne_str, at_0, at_1, at_2, at_3, seqItems, lItems, DL.isNon, endsD, endsM, endsI, setAllD, wipeD, DSt.set, kgG, List.map_cons, List.map_nil, List.cons_append, List.nil_append, List.length_cons, List.length_nil, List.getElem?_cons_zero, List.getElem?_cons_succ, List.set_cons_zero, List.set_cons_succ, List.foldl_cons, List.foldl_nil, if_true, Nat.zero_add, Bool.not_true, Bool.not_false, Bool.false_eq_true, if_false, and_true, true_and]
          refine ⟨by decide, hy _ ⟨l ++ [x], by rw [List.map_append, List.map_append]; rfl, by rw [List.map_append]; exact hs'.append (List.Sublist.refl _), fun y hy' => ?_⟩⟩
          rcases List.mem_append.mp hy' with h | h
          · exact ne y h
          · rw [List.mem_singleton.mp h]
            exact c
        · simp only [decide_eq_false c2, sRet, sSeq, sIf, sSet, sSetM, sNext, sNever, sExpr, sFrz, sX, sPar2, sPar3, sPars, sFor, sAsg, sAug, sSetI, sMk, sRetN, sBreak, sCont, sRetDeal, sFldI, dAndV, dOrV, dNotV, dFn, dFnL, dFnK, dChain, dCB, dCons, dNil, dVarB, dVar, dLit, dOp, dUn, dIf, dB, dNotT, dAndT, dOrT, dYes, dTup, dLst, dSl, dPart, dNoP, dRev, dJoin, dFldC, dMake, dLc, iA, iE, iR1, iR2, vNil, vE, vF, xMut, xMut2E, xE, gdName, gdTup, gdCons, gdNil, gLen, gLt, gLe, gGt, gGe, gCmp, gSl, gSlL, gIx, gI, gIc, gAdd, gLL, gTuple, gList, gInt, gAbs, gAppend, gInsert, gNeg, gIsT, gIsNotT, isi_tup, DL.ne_int, DL.eq_int, DL.eq_str, DL.ne_str, at_0, at_1, at_2, at_3, seqItems, lItems, DL.isNon, endsD, endsM, endsI, setAllD, wipeD, DSt.set, kgG, List.map_cons, List.map_nil, List.cons_append, List.nil_append, List.length_cons, List.length_nil, List.getElem?_cons_zero, List.getElem?_cons_succ, List.set_cons_zero, List.set_cons_succ, List.foldl_cons, List.foldl_nil, if_true, Nat.zero_add, Bool.not_true, Bool.not_false, Bool.false_eq_true, if_false, and_true, true_and]
          exact hz ⟨l, rfl, by have := hs'.append (List.nil_sublist [D.str x]); rw [List.append_nil] at this; exact this, ne⟩
end K67

namespace K67
open PySem PySem.Spec PyProof.Rows L2 DL
theorem lots_nodup {ls : List (List Str)} (h : Rise (ls.map lotD)) : ls.Nodup := nodup_of_map (h.imp fun {x y} h e => by
  rw [e, ltD_irrefl] at h
  cases h)
theorem names_ne {n : List Str} (h : Names n) : n.map D.str ≠ [] := by
  intro e
  rw [List.map_eq_nil_iff] at e
  have := h.n1
  rw [e] at this
  cases this
theorem filter_strs {p : Str → Bool} {p' : D → Bool} (h : ∀ x, p' (.str x) = p x) (l : List Str) : (l.map D.str).filter p' = (l.filter p).map D.str := filter_map p p' h l
/-- all pairs of two unlike names -/
def allT (n : List Str) : List (Str × Str) := n.flatMap fun x => (n.filter fun y => !decide (y = x)).map fun y => (x, y)
theorem one_rise {l : List Str} : Rise ([l].map lotD) := List.pairwise_singleton _ _
def w_common1 : FS := (sSeq (sIf (dB (dOp gEqT (dFnL 0 2 sp_law_draw (dCons (dLit (.int 2)) dNil)) (dLit (.int 0))))
 (sSeq (sSet 4 (dLst dNil))
 (sFor (iA (dOp gIx (dVarB 1) (dLit (.int 0)))) (gdName 9)
 (sSet 4 (dOp gAdd (dVarB 4) (dLc (iA (dOp gIx (dVarB 1) (dLit (.int 0)))) (gdName 12) (dB (dOp gNeT (dVarB 12) (dVarB 9))) (dTup (dCons (dVar 9) (dCons (dVar 12) dNil))) [12])))))
 sNext)
 (sSeq (sSet 10 (dLc (iA (dOp gIx (dVarB 1) (dLit (.int 0)))) (gdName 13) (dB (dOp gNeT (dVarB 13) (dVarB 2))) (dVar 13) [13]))
 (sSeq (sSet 11 (dIf (dB (dOp gEqT (dFnL 0 2 sp_law_draw (dCons (dLit (.int 2)) dNil)) (dLit (.int 0)))) (dCB gTuple (dCons (dVarB 10) dNil)) (dCB gTuple (dCons (dLst (dCons (dFnL 0 2 sp_law_pick (dCons (dOp gIx (dVarB 1) (dLit (.int 0))) dNil)) dNil)) dNil))))
 (sRet (dTup (dCons (dOp gIx (dVarB 1) (dLit (.int 0))) (dCons (dCB gTuple (dCons (dVarB 4) dNil)) (dCons (dCB gTuple (dCons (dVarB 3) dNil)) (dCons (dTup (dCons (dVar 11) dNil)) dNil)))))))))
def w_common2 : FS := (sSeq (sSet 10 (dLc (iA (dOp gIx (dVarB 1) (dLit (.int 0)))) (gdName 13) (dB (dOp gNeT (dVarB 13) (dVarB 2))) (dVar 13) [13]))
 (sSeq (sSet 11 (dIf (dB (dOp gEqT (dFnL 0 2 sp_law_draw (dCons (dLit (.int 2)) dNil)) (dLit (.int 0)))) (dCB gTuple (dCons (dVarB 10) dNil)) (dCB gTuple (dCons (dLst (dCons (dFnL 0 2 sp_law_pick (dCons (dOp gIx (dVarB 1) (dLit (.int 0))) dNil)) dNil)) dNil))))
 (sRet (dTup (dCons (dOp gIx (dVarB 1) (dLit (.int 0))) (dCons (dCB gTuple (dCons (dVarB 4) dNil)) (dCons (dCB gTuple (dCons (dVarB 3) dNil)) (dCons (dTup (dCons (dVar 11) dNil)) dNil))))))))
def w_common3 : FS := (sSeq (sSet 4 (dLst dNil))
 (sFor (iA (dOp gIx (dVarB 1) (dLit (.int 0)))) (gdName 9)
 (sSet 4 (dOp gAdd (dVarB 4) (dLc (iA (dOp gIx (dVarB 1) (dLit (.int 0)))) (gdName 12) (dB (dOp gNeT (dVarB 12) (dVarB 9))) (dTup (dCons (dVar 9) (dCons (dVar 12) dNil))) [12])))))
def w_common5 : FS := (sSet 7 (dOp gAdd (dVarB 7) (dIf (dB (dOp (gInT true) (dVarB 8) (dVarB 7))) (dLst (dCons (dVar 8) dNil)) (dLst dNil))))
def w_common6 : FS := (sSet 8 (dCB gTuple (dCons (dCB gSorted (dCons (dOp gAdd (dCB gList (dCons (dVarB 8) dNil)) (dIf (dB (dOp (gInT true) (dVarB 2) (dVarB 8))) (dLst (dCons (dVar 2) dNil)) (dLst dNil))) dNil)) dNil)))
/-- a lot that is not there yet is put there -/
theorem common5 {N : DEnds} {a b : Addr} {s0 s1 s2 s3 s4 s5 s6 s9 s10 s11 s12 s13 : Sl} {ls : List (List Str)} {l : List Str} {j : Nat} {P : List Str → Prop} (hz : ls.length ≤ j) (hj : j ≤ 2000) (nd : ls.Nodup) (hp : ∀ l ∈ ls, P l) (pl : P l)
    (hk : ∀ ls' : List (List Str), ls'.Nodup → ls'.length ≤ j + 1 → ls' ≠ [] → (∀ l ∈ ls', P l) → N.nx ⟨[s0, s1, s2, s3, s4, s5, s6, .val (.lst (ls'.map lotD)), .val (lotD l), s9, s10, s11, s12, s13], some (a, b)⟩) :
    w_common5 N ⟨[s0, s1, s2, s3, s4, s5, s6, .val (.lst (ls.map lotD)), .val (lotD l), s9, s10, s11, s12, s13], some (a, b)⟩ := by
  have sz := sizeLine_v
  simp only [w_common5, sRet, sSeq, sIf, sSet, sSetM, sNext, sNever, sExpr, sFrz, sX, sPar2, sPar3, sPars, sFor, sAsg, sAug, sSetI, sMk, sRetN, sBreak, sCont, sRetDeal, sFldI, dAndV, dOrV, dNotV, dFn, dFnL, dFnK, dChain, dCB, dCons, dNil, dVarB, dVar, dLit, dOp, dUn, dIf, dB, dNotT, dAndT, dOrT, dYes, dTup, dLst, dSl, dPart, dNoP, dRev, dJoin, dFldC, dMake, dLc, iA, iE, iR1, iR2, vNil, vE, vF, xMut, xMut2E, xE, gdName, gdTup, gdCons, gdNil, gLen, gLt, gLe, gGt, gGe, gCmp, gSl, gSlL, gIx, gI, gIc, gAdd, gLL, gTuple, gList, gInt, gAbs, gAppend, gInsert, gNeg, gIsT, gIsNotT, isi_tup, DL.ne_int, DL.eq_int, DL.eq_str, DL.ne_str, at_0, at_1, at_2, at_3, seqItems, lItems, DL.isNon, endsD, endsM, endsI, setAllD, wipeD, DSt.set, kgG, List.map_cons, List.map_nil, List.cons_append, List.nil_append, List.length_cons, List.length_nil, List.getElem?_cons_zero, List.getElem?_cons_succ, List.set_cons_zero, List.set_cons_succ, List.foldl_cons, List.foldl_nil, if_true, Nat.zero_add, Bool.not_true, Bool.not_false, Bool.false_eq_true, if_false, and_true, true_and]
  refine in_lotsL (neg := true) ?_
  by_cases c : l ∈ ls
  · simp only [decide_eq_true c, sRet, sSeq, sIf, sSet, sSetM, sNext, sNever, sExpr, sFrz, sX, sPar2, sPar3, sPars, sFor, sAsg, sAug, sSetI, sMk, sRetN, sBreak, sCont, sRetDeal, sFldI, dAndV, dOrV, dNotV, dFn, dFnL, dFnK, dChain, dCB, dCons, dNil, dVarB, dVar, dLit, dOp, dUn, dIf, dB, dNotT, dAndT, dOrT, dYes, dTup, dLst, dSl, dPart, dNoP, dRev, dJoin, dFldC, dMake, dLc, iA, iE, iR1, iR2, vNil, vE, vF, xMut, xMut2E, xE, gdName, gdTup, gdCons, gdNil, gLen, gLt, gLe, gGt, gGe, gCmp, gSl, gSlL, gIx, gI, gIc, gAdd, gLL, gTuple, gList, gInt, gAbs, gAppend, gInsert, gNeg, gIsT, gIsNotT, isi_tup, DL.ne_int, DL.eq_int, DL.eq_str, DL.ne_str, at_0, at_1, at_2, at_3, seqItems, lItems, DL.isNon, endsD, endsM, endsI, setAllD, wipeD, DSt.set, kgG, List.map_cons, List.map_nil, List.cons_append, List.nil_append, List.length_cons, List.length_nil, List.getElem?_cons_zero, List.getElem?_cons_succ, List.set_cons_zero, List.set_cons_succ, List.foldl_cons, List.foldl_nil, if_true, Nat.zero_add, Bool.not_true, Bool.not_false, Bool.false_eq_true, if_false, and_true, true_and]
    refine ⟨Nat.zero_le _, by rw [List.length_map]; omega, ?_⟩
    rw [List.append_nil]
    exact hk ls nd (by omega) (fun e => by rw [e] at c; exact absurd c List.not_mem_nil) hp
  · simp only [decide_eq_false c, sRet, sSeq, sIf, sSet, sSetM, sNext, sNever, sExpr, sFrz, sX, sPar2, sPar3, sPars, sFor, sAsg, sAug, sSetI, sMk, sRetN, sBreak, sCont, sRetDeal, sFldI, dAndV, dOrV, dNotV, dFn, dFnL, dFnK, dChain, dCB, dCons, dNil, dVarB, dVar, dLit, dOp, dUn, dIf, dB, dNotT, dAndT, dOrT, dYes, dTup, dLst, dSl, dPart, dNoP, dRev, dJoin, dFldC, dMake, dLc, iA, iE, iR1, iR2, vNil, vE, vF, xMut, xMut2E, xE, gdName, gdTup, gdCons, gdNil, gLen, gLt, gLe, gGt, gGe, gCmp, gSl, gSlL, gIx, gI, gIc, gAdd, gLL, gTuple, gList, gInt, gAbs, gAppend, gInsert, gNeg, gIsT, gIsNotT, isi_tup, DL.ne_int, DL.eq_int, DL.eq_str, DL.ne_str, at_0, at_1, at_2, at_3, seqItems, lItems, DL.isNon, endsD, endsM, endsI, setAllD, wipeD, DSt.set, kgG, List.map_cons, List.map_nil, List.cons_append, List.nil_append, List.length_cons, List.length_nil, List.getElem?_cons_zero, List.getElem?_cons_succ, List.set_cons_zero, List.set_cons_succ, List.foldl_cons, List.foldl_nil, if_true, Nat.zero_add, Bool.not_true, Bool.not_false, Bool.false_eq_true, if_false, and_true, true_and]
    refine ⟨by decide, by rw [List.length_map]; omega, ?_⟩
    have e : ls.map lotD ++ [lotD l] = (ls ++ [l]).map lotD := by rw [List.map_append]; rfl
    rw [e]
    refine hk _ (List.nodup_append.mpr ⟨nd, List.pairwise_singleton _ _, fun x hx y hy e => ?_⟩) (by rw [List.length_append]; show ls.length + 1 ≤ j + 1; omega) (by simp) fun x hx => ?_
    · rw [List.mem_singleton.mp hy] at e
      rw [e] at hx
      exact c hx
    · rcases List.mem_append.mp hx with h | h
      · exact hp x h
      · rw [List.mem_singleton.mp h]
        exact pl
theorem p_law_common (a b : Addr) (ds : List D) (Q : D → Prop) (hl : ds.length + 1 = 2) (h : sp_law_common ds Q) : w_law_common (endsD Q fun _ => False) (initL 14 ds a b) := by
  obtain ⟨t, bb, rfl, ok, hb, q⟩ := h
  rw [i_law_common]
  have sz := sizeLine_v
  simp only [w_law_common, Told.d, lotD, sp_law_pick, sRet, sSeq, sIf, sSet, sSetM, sNext, sNever, sExpr, sFrz, sX, sPar2, sPar3, sPars, sFor, sAsg, sAug, sSetI, sMk, sRetN, sBreak, sCont, sRetDeal, sFldI, dAndV, dOrV, dNotV, dFn, dFnL, dFnK, dChain, dCB, dCons, dNil, dVarB, dVar, dLit, dOp, dUn, dIf, dB, dNotT, dAndT, dOrT, dYes, dTup, dLst, dSl, dPart, dNoP, dRev, dJoin, dFldC, dMake, dLc, iA, iE, iR1, iR2, vNil, vE, vF, xMut, xMut2E, xE, gdName, gdTup, gdCons, gdNil, gLen, gLt, gLe, gGt, gGe, gCmp, gSl, gSlL, gIx, gI, gIc, gAdd, gLL, gTuple, gList, gInt, gAbs, gAppend, gInsert, gNeg, gIsT, gIsNotT, isi_tup, DL.ne_int, DL.eq_int, DL.eq_str, DL.ne_str, at_0, at_1, at_2, at_3, seqItems, lItems, DL.isNon, endsD, endsM, endsI, setAllD, wipeD, DSt.set, kgG, List.map_cons, List.map_nil, List.cons_append, List.nil_append, List.length_cons, List.length_nil, List.getElem?_cons_zero, List.getElem?_cons_succ, List.set_cons_zero, List.set_cons_succ, List.foldl_cons, List.foldl_nil, if_true, Nat.zero_add, Bool.not_true, Bool.not_false, Bool.false_eq_true, if_false, and_true, true_and]
  refine .inl ⟨_, .inr rfl, names_ne ok.n, by rw [List.length_map]; have := ok.n.n6; omega, fun y hy => ?_⟩
  obtain ⟨x2, hx2, rfl⟩ := List.mem_map.mp hy
  refine ⟨Nat.zero_le _, by decide, ?_⟩
  refine for_ix (ds := t.cnts.map cntD) (i := 0) (fun i st => ∃ cs s5 s6 s7 s8, st = ⟨[.deal, .val t.d, .val (.str x2), .mu (.lst (cs.map cntD)), .val (.lst (t.tells.map pairD)), s5, s6, s7, s8, .no, .no, .no, .no, .no], some (a, b)⟩ ∧ cs.map (·.1) = (t.cnts.take i).map (·.1) ∧ ∀ c ∈ cs, Cnt (bb + 36) t.names c) rfl
    ⟨[], _, _, _, _, rfl, rfl, fun c hc => absurd hc List.not_mem_nil⟩ (fun st' h' => ?_) (Nat.zero_le _) fun i d st hd h' k hk => ?_
  · obtain ⟨cs, s5, s6, s7, s8, rfl, e1, hc⟩ := h'
    rw [List.length_map, List.take_length] at e1
    have hcl : cs.length = t.cnts.length := by
      have := congrArg List.length e1
      rwa [List.length_map, List.length_map] at this
    have fin : ∀ (ts : List (Str × Str)) (l : List Str), (∀ p ∈ ts, p.1 ∈ t.names ∧ p.2 ∈ t.names ∧ p.1 ≠ p.2) → Rise (ts.map pairD) → ts.length ≤ bb + 36 → Lot (bb + 36) t.names l → Q (.tup [lotD t.names, .tup (ts.map pairD), .tup (cs.map cntD), .tup [lotD l]]) := fun ts l tp tr tz lo =>
      q ⟨t.names, ts, cs, [l]⟩ ⟨ok.n, tp, tr, tz, by show 2 ≤ cs.length; rw [hcl]; exact ok.c2, by show cs.length ≤ 6; rw [hcl]; exact ok.c6, by
        have e : (cs.map fun c => D.str c.1) = (cs.map (·.1)).map D.str := by rw [List.map_map]; rfl
        show Rise (cs.map fun c => D.str c.1)
        rw [e, e1, List.map_map]
        exact ok.cr, hc, by simp, one_rise, by show 1 ≤ bb + 36; omega, fun m hm => by rw [List.mem_singleton.mp hm]; exact lo, fun m hm m2 hm2 _ => by rw [List.mem_singleton.mp hm, List.mem_singleton.mp hm2]⟩
    have rest : ∀ (ts : List (Str × Str)) (s9 s12 : Sl), (∀ p ∈ ts, p.1 ∈ t.names ∧ p.2 ∈ t.names ∧ p.1 ≠ p.2) → Rise (ts.map pairD) → ts.length ≤ bb + 36 → w_common2 (endsD Q fun _ => False) ⟨[.deal, .val t.d, .val (.str x2), .mu (.lst (cs.map cntD)), .val (.lst (ts.map pairD)), s5, s6, s7, s8, s9, .no, .no, s12, .no], some (a, b)⟩ := fun ts s9 s12 tp tr tz => by
      simp only [w_common2, Told.d, lotD, sRet, sSeq, sIf, sSet, sSetM, sNext, sNever, sExpr, sFrz, sX, sPar2, sPar3, sPars, sFor, sAsg, sAug, sSetI, sMk, sRetN, sBreak, sCont, sRetDeal, sFldI, dAndV, dOrV, dNotV, dFn, dFnL, dFnK, dChain, dCB, dCons, dNil, dVarB, dVar, dLit, dOp, dUn, dIf, dB, dNotT, dAndT, dOrT, dYes, dTup, dLst, dSl, dPart, dNoP, dRev, dJoin, dFldC, dMake, dLc, iA, iE, iR1, iR2, vNil, vE, vF, xMut, xMut2E, xE, gdName, gdTup, gdCons, gdNil, gLen, gLt, gLe, gGt, gGe, gCmp, gSl, gSlL, gIx, gI, gIc, gAdd, gLL, gTuple, gList, gInt, gAbs, gAppend, gInsert, gNeg, gIsT, gIsNotT, isi_tup, DL.ne_int, DL.eq_int, DL.eq_str, DL.ne_str, at_0, at_1, at_2, at_3, seqItems, lItems, DL.isNon, endsD, endsM, endsI, setAllD, wipeD, DSt.set, kgG, List.map_cons, List.map_nil, List.cons_append, List.nil_append, List.length_cons, List.length_nil, List.getElem?_cons_zero, List.getElem?_cons_succ, List.set_cons_zero, List.set_cons_succ, List.foldl_cons, List.foldl_nil, if_true, Nat.zero_add, Bool.not_true, Bool.not_false, Bool.false_eq_true, if_false, and_true, true_and]
      refine lc_det (fun d => match d with
        | .str x => !decide (x = x2)
        | _ => false) (fun d => d) (fun d hd Y Z y z => ?_) ?_
      · obtain ⟨x, hx, rfl⟩ := List.mem_map.mp hd
        simp only [sRet, sSeq, sIf, sSet, sSetM, sNext, sNever, sExpr, sFrz, sX, sPar2, sPar3, sPars, sFor, sAsg, sAug, sSetI, sMk, sRetN, sBreak, sCont, sRetDeal, sFldI, dAndV, dOrV, dNotV, dFn, dFnL, dFnK, dChain, dCB, dCons, dNil, dVarB, dVar, dLit, dOp, dUn, dIf, dB, dNotT, dAndT, dOrT, dYes, dTup, dLst, dSl, dPart, dNoP, dRev, dJoin, dFldC, dMake, dLc, iA, iE, iR1, iR2, vNil, vE, vF, xMut, xMut2E, xE, gdName, gdTup, gdCons, gdNil, gLen, gLt, gLe, gGt, gGe, gCmp, gSl, gSlL, gIx, gI, gIc, gAdd, gLL, gTuple, gList, gInt, gAbs, gAppend, gInsert, gNeg, gIsT, gIsNotT, isi_tup, DL.ne_int, DL.eq_int, DL.eq_str, DL.ne_str, at_0, at_1, at_2, at_3, seqItems, lItems, DL.isNon, endsD, endsM, endsI, setAllD, wipeD, DSt.set, kgG, List.map_cons, List.map_nil, List.cons_append, List.nil_append, List.length_cons, List.length_nil, List.getElem?_cons_zero, List.getElem?_cons_succ, List.set_cons_zero, List.set_cons_succ, List.foldl_cons, List.foldl_nil, if_true, Nat.zero_add, Bool.not_true, Bool.not_false, Bool.false_eq_true, if_false, and_true, true_and]
        by_cases c : x = x2
        · simp only [decide_eq_true c, sRet, sSeq, sIf, sSet, sSetM, sNext, sNever, sExpr, sFrz, sX, sPar2, sPar3, sPars, sFor, sAsg, sAug, sSetI, sMk, sRetN, sBreak, sCont, sRetDeal, sFldI, dAndV, dOrV, dNotV, dFn, dFnL, dFnK, dChain, dCB, dCons, dNil, dVarB, dVar, dLit, dOp, dUn, dIf, dB, dNotT, dAndT, dOrT, dYes, dTup, dLst, dSl, dPart, dNoP, dRev, dJoin, dFldC, dMake, dLc, iA, iE, iR1, iR2, vNil, vE, vF, xMut, xMut2E, xE, gdName, gdTup, gdCons, gdNil, gLen, gLt, gLe, gGt, gGe, gCmp, gSl, gSlL, gIx, gI, gIc, gAdd, gLL, gTuple, gList, gInt, gAbs, gAppend, gInsert, gNeg, gIsT, gIsNotT, isi_tup, DL.ne_int, DL.eq_int, DL.eq_str, DL.ne_str, at_0, at_1, at_2, at_3, seqItems, lItems, DL.isNon, endsD, endsM, endsI, setAllD, wipeD, DSt.set, kgG, List.map_cons, List.map_nil, List.cons_append, List.nil_append, List.length_cons, List.length_nil, List.getElem?_cons_zero, List.getElem?_cons_succ, List.set_cons_zero, List.set_cons_succ, List.foldl_cons, List.foldl_nil, if_true, Nat.zero_add, Bool.not_true, Bool.not_false, Bool.false_eq_true, if_false, and_true, true_and]
          exact z (by simp [c])
        · simp only [decide_eq_false c, sRet, sSeq, sIf, sSet, sSetM, sNext, sNever, sExpr, sFrz, sX, sPar2, sPar3, sPars, sFor, sAsg, sAug, sSetI, sMk, sRetN, sBreak, sCont, sRetDeal, sFldI, dAndV, dOrV, dNotV, dFn, dFnL, dFnK, dChain, dCB, dCons, dNil, dVarB, dVar, dLit, dOp, dUn, dIf, dB, dNotT, dAndT, dOrT, dYes, dTup, dLst, dSl, dPart, dNoP, dRev, dJoin, dFldC, dMake, dLc, iA, iE, iR1, iR2, vNil, vE, vF, xMut, xMut2E, xE, gdName, gdTup, gdCons, gdNil, gLen, gLt, gLe, gGt, gGe, gCmp, gSl, gSlL, gIx, gI, gIc, gAdd, gLL, gTuple, gList, gInt, gAbs, gAppend, gInsert, gNeg, gIsT, gIsNotT, isi_tup, DL.ne_int, DL.eq_int, DL.eq_str, DL.ne_str, at_0, at_1, at_2, at_3, seqItems, lItems, DL.isNon, endsD, endsM, endsI, setAllD, wipeD, DSt.set, kgG, List.map_cons, List.map_nil, List.cons_append, List.nil_append, List.length_cons, List.length_nil, List.getElem?_cons_zero, List.getElem?_cons_succ, List.set_cons_zero, List.set_cons_succ, List.foldl_cons, List.foldl_nil, if_true, Nat.zero_add, Bool.not_true, Bool.not_false, Bool.false_eq_true, if_false, and_true, true_and]
          exact y (by simp [c])
      · rw [List.map_id', filter_strs (p := fun x => !decide (x = x2)) fun _ => rfl]
        simp only [sp_law_draw, drawN, sRet, sSeq, sIf, sSet, sSetM, sNext, sNever, sExpr, sFrz, sX, sPar2, sPar3, sPars, sFor, sAsg, sAug, sSetI, sMk, sRetN, sBreak, sCont, sRetDeal, sFldI, dAndV, dOrV, dNotV, dFn, dFnL, dFnK, dChain, dCB, dCons, dNil, dVarB, dVar, dLit, dOp, dUn, dIf, dB, dNotT, dAndT, dOrT, dYes, dTup, dLst, dSl, dPart, dNoP, dRev, dJoin, dFldC, dMake, dLc, iA, iE, iR1, iR2, vNil, vE, vF, xMut, xMut2E, xE, gdName, gdTup, gdCons, gdNil, gLen, gLt, gLe, gGt, gGe, gCmp, gSl, gSlL, gIx, gI, gIc, gAdd, gLL, gTuple, gList, gInt, gAbs, gAppend, gInsert, gNeg, gIsT, gIsNotT, isi_tup, DL.ne_int, DL.eq_int, DL.eq_str, DL.ne_str, at_0, at_1, at_2, at_3, seqItems, lItems, DL.isNon, endsD, endsM, endsI, setAllD, wipeD, DSt.set, kgG, List.map_cons, List.map_nil, List.cons_append, List.nil_append, List.length_cons, List.length_nil, List.getElem?_cons_zero, List.getElem?_cons_succ, List.set_cons_zero, List.set_cons_succ, List.foldl_cons, List.foldl_nil, if_true, Nat.zero_add, Bool.not_true, Bool.not_false, Bool.false_eq_true, if_false, and_true, true_and]
        refine ⟨_, rfl, by decide, by decide, fun v v0 v1 => ?_⟩
        have sub : (t.names.filter fun x => !decide (x = x2)).Sublist t.names := List.filter_sublist
        by_cases c : v = 0
        · simp only [decide_eq_true c, sRet, sSeq, sIf, sSet, sSetM, sNext, sNever, sExpr, sFrz, sX, sPar2, sPar3, sPars, sFor, sAsg, sAug, sSetI, sMk, sRetN, sBreak, sCont, sRetDeal, sFldI, dAndV, dOrV, dNotV, dFn, dFnL, dFnK, dChain, dCB, dCons, dNil, dVarB, dVar, dLit, dOp, dUn, dIf, dB, dNotT, dAndT, dOrT, dYes, dTup, dLst, dSl, dPart, dNoP, dRev, dJoin, dFldC, dMake, dLc, iA, iE, iR1, iR2, vNil, vE, vF, xMut, xMut2E, xE, gdName, gdTup, gdCons, gdNil, gLen, gLt, gLe, gGt, gGe, gCmp, gSl, gSlL, gIx, gI, gIc, gAdd, gLL, gTuple, gList, gInt, gAbs, gAppend, gInsert, gNeg, gIsT, gIsNotT, isi_tup, DL.ne_int, DL.eq_int, DL.eq_str, DL.ne_str, at_0, at_1, at_2, at_3, seqItems, lItems, DL.isNon, endsD, endsM, endsI, setAllD, wipeD, DSt.set, kgG, List.map_cons, List.map_nil, List.cons_append, List.nil_append, List.length_cons, List.length_nil, List.getElem?_cons_zero, List.getElem?_cons_succ, List.set_cons_zero, List.set_cons_succ, List.foldl_cons, List.foldl_nil, if_true, Nat.zero_add, Bool.not_true, Bool.not_false, Bool.false_eq_true, if_false, and_true, true_and]
          exact ⟨by decide, by decide, fin ts _ tp tr tz ⟨List.Pairwise.sublist (sub.map _) ok.n.nr, fun x hx => sub.subset hx, by have := sub.length_le; have := ok.n.n6; omega⟩⟩
        · simp only [decide_eq_false c, sp_law_pick, sRet, sSeq, sIf, sSet, sSetM, sNext, sNever, sExpr, sFrz, sX, sPar2, sPar3, sPars, sFor, sAsg, sAug, sSetI, sMk, sRetN, sBreak, sCont, sRetDeal, sFldI, dAndV, dOrV, dNotV, dFn, dFnL, dFnK, dChain, dCB, dCons, dNil, dVarB, dVar, dLit, dOp, dUn, dIf, dB, dNotT, dAndT, dOrT, dYes, dTup, dLst, dSl, dPart, dNoP, dRev, dJoin, dFldC, dMake, dLc, iA, iE, iR1, iR2, vNil, vE, vF, xMut, xMut2E, xE, gdName, gdTup, gdCons, gdNil, gLen, gLt, gLe, gGt, gGe, gCmp, gSl, gSlL, gIx, gI, gIc, gAdd, gLL, gTuple, gList, gInt, gAbs, gAppend, gInsert, gNeg, gIsT, gIsNotT, isi_tup, DL.ne_int, DL.eq_int, DL.eq_str, DL.ne_str, at_0, at_1, at_2, at_3, seqItems, lItems, DL.isNon, endsD, endsM, endsI, setAllD, wipeD, DSt.set, kgG, List.map_cons, List.map_nil, List.cons_append, List.nil_append, List.length_cons, List.length_nil, List.getElem?_cons_zero, List.getElem?_cons_succ, List.set_cons_zero, List.set_cons_succ, List.foldl_cons, List.foldl_nil, if_true, Nat.zero_add, Bool.not_true, Bool.not_false, Bool.false_eq_true, if_false, and_true, true_and]
          refine .inl ⟨_, .inr rfl, names_ne ok.n, by rw [List.length_map]; have := ok.n.n6; omega, fun y hy => ?_⟩
          obtain ⟨x, hx, rfl⟩ := List.mem_map.mp hy
          exact ⟨by decide, by decide, by decide, fin ts [x] tp tr tz ((lot_one hx).mono (by omega))⟩
    have ew : w_common1 = sSeq (sIf (dB (dOp gEqT (dFnL 0 2 sp_law_draw (dCons (dLit (.int 2)) dNil)) (dLit (.int 0)))) w_common3 sNext) w_common2 := rfl
    show w_common1 (endsD Q fun _ => False) _
    rw [ew]
    generalize w_common2 = R at rest ⊢
    simp only [sp_law_draw, drawN, sRet, sSeq, sIf, sSet, sSetM, sNext, sNever, sExpr, sFrz, sX, sPar2, sPar3, sPars, sFor, sAsg, sAug, sSetI, sMk, sRetN, sBreak, sCont, sRetDeal, sFldI, dAndV, dOrV, dNotV, dFn, dFnL, dFnK, dChain, dCB, dCons, dNil, dVarB, dVar, dLit, dOp, dUn, dIf, dB, dNotT, dAndT, dOrT, dYes, dTup, dLst, dSl, dPart, dNoP, dRev, dJoin, dFldC, dMake, dLc, iA, iE, iR1, iR2, vNil, vE, vF, xMut, xMut2E, xE, gdName, gdTup, gdCons, gdNil, gLen, gLt, gLe, gGt, gGe, gCmp, gSl, gSlL, gIx, gI, gIc, gAdd, gLL, gTuple, gList, gInt, gAbs, gAppend, gInsert, gNeg, gIsT, gIsNotT, isi_tup, DL.ne_int, DL.eq_int, DL.eq_str, DL.ne_str, at_0, at_1, at_2, at_3, seqItems, lItems, DL.isNon, endsD, endsM, endsI, setAllD, wipeD, DSt.set, kgG, List.map_cons, List.map_nil, List.cons_append, List.nil_append, List.length_cons, List.length_nil, List.getElem?_cons_zero, List.getElem?_cons_succ, List.set_cons_zero, List.set_cons_succ, List.foldl_cons, List.foldl_nil, if_true, Nat.zero_add, Bool.not_true, Bool.not_false, Bool.false_eq_true, if_false, and_true, true_and]
    refine ⟨_, rfl, by decide, by decide, fun v v0 v1 => ?_⟩
    by_cases c : v = 0
    · simp only [decide_eq_true c, w_common3, Told.d, lotD, sRet, sSeq, sIf, sSet, sSetM, sNext, sNever, sExpr, sFrz, sX, sPar2, sPar3, sPars, sFor, sAsg, sAug, sSetI, sMk, sRetN, sBreak, sCont, sRetDeal, sFldI, dAndV, dOrV, dNotV, dFn, dFnL, dFnK, dChain, dCB, dCons, dNil, dVarB, dVar, dLit, dOp, dUn, dIf, dB, dNotT, dAndT, dOrT, dYes, dTup, dLst, dSl, dPart, dNoP, dRev, dJoin, dFldC, dMake, dLc, iA, iE, iR1, iR2, vNil, vE, vF, xMut, xMut2E, xE, gdName, gdTup, gdCons, gdNil, gLen, gLt, gLe, gGt, gGe, gCmp, gSl, gSlL, gIx, gI, gIc, gAdd, gLL, gTuple, gList, gInt, gAbs, gAppend, gInsert, gNeg, gIsT, gIsNotT, isi_tup, DL.ne_int, DL.eq_int, DL.eq_str, DL.ne_str, at_0, at_1, at_2, at_3, seqItems, lItems, DL.isNon, endsD, endsM, endsI, setAllD, wipeD, DSt.set, kgG, List.map_cons, List.map_nil, List.cons_append, List.nil_append, List.length_cons, List.length_nil, List.getElem?_cons_zero, List.getElem?_cons_succ, List.set_cons_zero, List.set_cons_succ, List.foldl_cons, List.foldl_nil, if_true, Nat.zero_add, Bool.not_true, Bool.not_false, Bool.false_eq_true, if_false, and_true, true_and]
      refine ⟨Nat.zero_le _, ?_⟩
      refine for_ix (ds := t.names.map D.str) (i := 0) (fun i st => ∃ ts s9 s12, st = ⟨[.deal, .val t.d, .val (.str x2), .mu (.lst (cs.map cntD)), .val (.lst (ts.map pairD)), s5, s6, s7, s8, s9, .no, .no, s12, .no], some (a, b)⟩ ∧ Tl t.names i ts) rfl
        ⟨[], _, _, rfl, ⟨fun p hp => absurd hp List.not_mem_nil, .nil, Nat.le_refl _⟩⟩ (fun st' h' => ?_) (Nat.zero_le _) fun i d st hd h' k hk => ?_
      · obtain ⟨ts, s9, s12, rfl, tl⟩ := h'
        rw [List.length_map] at tl
        exact rest ts s9 s12 (fun p hp => by
          obtain ⟨a1, a2, a3⟩ := tl.p p hp
          exact ⟨List.mem_of_mem_take a1, a2, a3⟩) tl.r (by have := tl.z; have := ok.n.n6; omega)
      · obtain ⟨ts, s9, s12, rfl, tl⟩ := h'
        have hi := (List.getElem?_eq_some_iff.mp hd).1
        rw [List.length_map] at hi
        rw [List.getElem?_map, List.getElem?_eq_getElem hi, Option.map_some] at hd
        injection hd with hd
        subst hd
        simp only [Told.d, lotD, sRet, sSeq, sIf, sSet, sSetM, sNext, sNever, sExpr, sFrz, sX, sPar2, sPar3, sPars, sFor, sAsg, sAug, sSetI, sMk, sRetN, sBreak, sCont, sRetDeal, sFldI, dAndV, dOrV, dNotV, dFn, dFnL, dFnK, dChain, dCB, dCons, dNil, dVarB, dVar, dLit, dOp, dUn, dIf, dB, dNotT, dAndT, dOrT, dYes, dTup, dLst, dSl, dPart, dNoP, dRev, dJoin, dFldC, dMake, dLc, iA, iE, iR1, iR2, vNil, vE, vF, xMut, xMut2E, xE, gdName, gdTup, gdCons, gdNil, gLen, gLt, gLe, gGt, gGe, gCmp, gSl, gSlL, gIx, gI, gIc, gAdd, gLL, gTuple, gList, gInt, gAbs, gAppend, gInsert, gNeg, gIsT, gIsNotT, isi_tup, DL.ne_int, DL.eq_int, DL.eq_str, DL.ne_str, at_0, at_1, at_2, at_3, seqItems, lItems, DL.isNon, endsD, endsM, endsI, setAllD, wipeD, DSt.set, kgG, List.map_cons, List.map_nil, List.cons_append, List.nil_append, List.length_cons, List.length_nil, List.getElem?_cons_zero, List.getElem?_cons_succ, List.set_cons_zero, List.set_cons_succ, List.foldl_cons, List.foldl_nil, if_true, Nat.zero_add, Bool.not_true, Bool.not_false, Bool.false_eq_true, if_false, and_true, true_and]
        refine lc_det (fun d => match d with
          | .str x => !decide (x = t.names[i])
          | _ => false) (fun d => .tup [.str t.names[i], d]) (fun d hd Y Z y z => ?_) ?_
        · obtain ⟨x, hx, rfl⟩ := List.mem_map.mp hd
          simp only [sRet, sSeq, sIf, sSet, sSetM, sNext, sNever, sExpr, sFrz, sX, sPar2, sPar3, sPars, sFor, sAsg, sAug, sSetI, sMk, sRetN, sBreak, sCont, sRetDeal, sFldI, dAndV, dOrV, dNotV, dFn, dFnL, dFnK, dChain, dCB, dCons, dNil, dVarB, dVar, dLit, dOp, dUn, dIf, dB, dNotT, dAndT, dOrT, dYes, dTup, dLst, dSl, dPart, dNoP, dRev, dJoin, dFldC, dMake, dLc, iA, iE, iR1, iR2, vNil, vE, vF, xMut, xMut2E, xE, gdName, gdTup, gdCons, gdNil, gLen, gLt, gLe, gGt, gGe, gCmp, gSl, gSlL, gIx, gI, gIc, gAdd, gLL, gTuple, gList, gInt, gAbs, gAppend, gInsert, gNeg, gIsT, gIsNotT, isi_tup, DL.ne_int, DL.eq_int, DL.eq_str, DL.ne_str, at_0, at_1, at_2, at_3, seqItems, lItems, DL.isNon, endsD, endsM, endsI, setAllD, wipeD, DSt.set, kgG, List.map_cons, List.map_nil, List.cons_append, List.nil_append, List.length_cons, List.length_nil, List.getElem?_cons_zero, List.getElem?_cons_succ, List.set_cons_zero, List.set_cons_succ, List.foldl_cons, List.foldl_nil, if_true, Nat.zero_add, Bool.not_true, Bool.not_false, Bool.false_eq_true, if_false, and_true, true_and]
          by_cases c : x = t.names[i]
          · simp only [decide_eq_true c, sRet, sSeq, sIf, sSet, sSetM, sNext, sNever, sExpr, sFrz, sX, sPar2, sPar3, sPars, sFor, sAsg, sAug, sSetI, sMk, sRetN, sBreak, sCont, sRetDeal, sFldI, dAndV, dOrV, dNotV, dFn, dFnL, dFnK, dChain, dCB, dCons, dNil, dVarB, dVar, dLit, dOp, dUn, dIf, dB, dNotT, dAndT, dOrT, dYes, dTup, dLst, dSl, dPart, dNoP, dRev, dJoin, dFldC, dMake, dLc, iA, iE, iR1, iR2, vNil, vE, vF, xMut, xMut2E, xE, gdName, gdTup, gdCons, gdNil, gLen, gLt, gLe, gGt, gGe, gCmp, gSl, gSlL, gIx, gI, gIc, gAdd, gLL, gTuple, gList, gInt, gAbs, gAppend, gInsert, gNeg, gIsT, gIsNotT, isi_tup, DL.ne_int, DL.eq_int, DL.eq_str, DL.ne_str, at_0, at_1, at_2, at_3, seqItems, lItems, DL.isNon, endsD, endsM, endsI, setAllD, wipeD, DSt.set, kgG, List.map_cons, List.map_nil, List.cons_append, List.nil_append, List.length_cons, List.length_nil, List.getElem?_cons_zero, List.getElem?_cons_succ, List.set_cons_zero, List.set_cons_succ, List.foldl_cons, List.foldl_nil, if_true, Nat.zero_add, Bool.not_true, Bool.not_false, Bool.false_eq_true, if_false, and_true, true_and]
            exact z (by simp [c])
          · simp only [decide_eq_false c, sRet, sSeq, sIf, sSet, sSetM, sNext, sNever, sExpr, sFrz, sX, sPar2, sPar3, sPars, sFor, sAsg, sAug, sSetI, sMk, sRetN, sBreak, sCont, sRetDeal, sFldI, dAndV, dOrV, dNotV, dFn, dFnL, dFnK, dChain, dCB, dCons, dNil, dVarB, dVar, dLit, dOp, dUn, dIf, dB, dNotT, dAndT, dOrT, dYes, dTup, dLst, dSl, dPart, dNoP, dRev, dJoin, dFldC, dMake, dLc, iA, iE, iR1, iR2, vNil, vE, vF, xMut, xMut2E, xE, gdName, gdTup, gdCons, gdNil, gLen, gLt, gLe, gGt, gGe, gCmp, gSl, gSlL, gIx, gI, gIc, gAdd, gLL, gTuple, gList, gInt, gAbs, gAppend, gInsert, gNeg, gIsT, gIsNotT, isi_tup, DL.ne_int, DL.eq_int, DL.eq_str, DL.ne_str, at_0, at_1, at_2, at_3, seqItems, lItems, DL.isNon, endsD, endsM, endsI, setAllD, wipeD, DSt.set, kgG, List.map_cons, List.map_nil, List.cons_append, List.nil_append, List.length_cons, List.length_nil, List.getElem?_cons_zero, List.getElem?_cons_succ, List.set_cons_zero, List.set_cons_succ, List.foldl_cons, List.foldl_nil, if_true, Nat.zero_add, Bool.not_true, Bool.not_false, Bool.false_eq_true, if_false, and_true, true_and]
            exact ⟨by decide, y (by simp [c])⟩
        · rw [filter_strs (p := fun x => !decide (x = t.names[i])) fun _ => rfl]
          have e : ((t.names.filter fun x => !decide (x = t.names[i])).map D.str).map (fun d => D.tup [.str t.names[i], d]) = ((t.names.filter fun x => !decide (x = t.names[i])).map fun y => (t.names[i], y)).map pairD := by
            rw [List.map_map, List.map_map]
            rfl
          rw [e]
          have tl' := tl.add ok.n hi (l := t.names.filter fun x => !decide (x = t.names[i])) List.filter_sublist fun y hy => by
            have := (List.mem_filter.mp hy).2
            intro e
            rw [decide_eq_true e.symm] at this
            cases this
          refine ⟨?_, ?_⟩
          · have := tl'.z
            rw [List.length_append] at this
            have := ok.n.n6
            rw [List.length_map, List.length_map]
            omega
          · rw [← List.map_append]
            exact hk _ ⟨_, _, _, rfl, tl'⟩
    · simp only [decide_eq_false c, sRet, sSeq, sIf, sSet, sSetM, sNext, sNever, sExpr, sFrz, sX, sPar2, sPar3, sPars, sFor, sAsg, sAug, sSetI, sMk, sRetN, sBreak, sCont, sRetDeal, sFldI, dAndV, dOrV, dNotV, dFn, dFnL, dFnK, dChain, dCB, dCons, dNil, dVarB, dVar, dLit, dOp, dUn, dIf, dB, dNotT, dAndT, dOrT, dYes, dTup, dLst, dSl, dPart, dNoP, dRev, dJoin, dFldC, dMake, dLc, iA, iE, iR1, iR2, vNil, vE, vF, xMut, xMut2E, xE, gdName, gdTup, gdCons, gdNil, gLen, gLt, gLe, gGt, gGe, gCmp, gSl, gSlL, gIx, gI, gIc, gAdd, gLL, gTuple, gList, gInt, gAbs, gAppend, gInsert, gNeg, gIsT, gIsNotT, isi_tup, DL.ne_int, DL.eq_int, DL.eq_str, DL.ne_str, at_0, at_1, at_2, at_3, seqItems, lItems, DL.isNon, endsD, endsM, endsI, setAllD, wipeD, DSt.set, kgG, List.map_cons, List.map_nil, List.cons_append, List.nil_append, List.length_cons, List.length_nil, List.getElem?_cons_zero, List.getElem?_cons_succ, List.set_cons_zero, List.set_cons_succ, List.foldl_cons, List.foldl_nil, if_true, Nat.zero_add, Bool.not_true, Bool.not_false, Bool.false_eq_true, if_false, and_true, true_and]
      exact rest t.tells .no .no ok.tp ok.tr (by have := ok.tz; omega)
  · obtain ⟨cs, s5, s6, s7, s8, rfl, e1, hc⟩ := h'
    have hi := (List.getElem?_eq_some_iff.mp hd).1
    rw [List.length_map] at hi
    rw [List.getElem?_map, List.getElem?_eq_getElem hi, Option.map_some] at hd
    injection hd with hd
    subst hd
    have ho := ok.c _ (List.getElem_mem hi)
    simp only [cntD, sRet, sSeq, sIf, sSet, sSetM, sNext, sNever, sExpr, sFrz, sX, sPar2, sPar3, sPars, sFor, sAsg, sAug, sSetI, sMk, sRetN, sBreak, sCont, sRetDeal, sFldI, dAndV, dOrV, dNotV, dFn, dFnL, dFnK, dChain, dCB, dCons, dNil, dVarB, dVar, dLit, dOp, dUn, dIf, dB, dNotT, dAndT, dOrT, dYes, dTup, dLst, dSl, dPart, dNoP, dRev, dJoin, dFldC, dMake, dLc, iA, iE, iR1, iR2, vNil, vE, vF, xMut, xMut2E, xE, gdName, gdTup, gdCons, gdNil, gLen, gLt, gLe, gGt, gGe, gCmp, gSl, gSlL, gIx, gI, gIc, gAdd, gLL, gTuple, gList, gInt, gAbs, gAppend, gInsert, gNeg, gIsT, gIsNotT, isi_tup, DL.ne_int, DL.eq_int, DL.eq_str, DL.ne_str, at_0, at_1, at_2, at_3, seqItems, lItems, DL.isNon, endsD, endsM, endsI, setAllD, wipeD, DSt.set, kgG, List.map_cons, List.map_nil, List.cons_append, List.nil_append, List.length_cons, List.length_nil, List.getElem?_cons_zero, List.getElem?_cons_succ, List.set_cons_zero, List.set_cons_succ, List.foldl_cons, List.foldl_nil, if_true, Nat.zero_add, Bool.not_true, Bool.not_false, Bool.false_eq_true, if_false, and_true, true_and]
    refine ⟨Nat.zero_le _, ?_⟩
    refine for_ix (ds := t.cnts[i].2.map lotD) (i := 0) (fun j st => ∃ ls s8, st = ⟨[.deal, .val t.d, .val (.str x2), .mu (.lst (cs.map cntD)), .val (.lst (t.tells.map pairD)), .val (.str t.cnts[i].1), .val (.tup (t.cnts[i].2.map lotD)), .val (.lst (ls.map lotD)), s8, .no, .no, .no, .no, .no], some (a, b)⟩ ∧ ls.Nodup ∧ ls.length ≤ j ∧ (1 ≤ j → ls ≠ []) ∧ ∀ l ∈ ls, l ≠ [] ∧ Lot (bb + 36) t.names l) rfl
      ⟨[], _, rfl, List.nodup_nil, Nat.le_refl _, (fun h => absurd h (by omega)), (fun l h => absurd h List.not_mem_nil)⟩ (fun st' h' => ?_) (Nat.zero_le _) fun j d st hd h' k2 hk2 => ?_
    · obtain ⟨ls, s8, rfl, nd, z1, z2, z3⟩ := h'
      rw [List.length_map] at z1 z2
      simp only [sRet, sSeq, sIf, sSet, sSetM, sNext, sNever, sExpr, sFrz, sX, sPar2, sPar3, sPars, sFor, sAsg, sAug, sSetI, sMk, sRetN, sBreak, sCont, sRetDeal, sFldI, dAndV, dOrV, dNotV, dFn, dFnL, dFnK, dChain, dCB, dCons, dNil, dVarB, dVar, dLit, dOp, dUn, dIf, dB, dNotT, dAndT, dOrT, dYes, dTup, dLst, dSl, dPart, dNoP, dRev, dJoin, dFldC, dMake, dLc, iA, iE, iR1, iR2, vNil, vE, vF, xMut, xMut2E, xE, gdName, gdTup, gdCons, gdNil, gLen, gLt, gLe, gGt, gGe, gCmp, gSl, gSlL, gIx, gI, gIc, gAdd, gLL, gTuple, gList, gInt, gAbs, gAppend, gInsert, gNeg, gIsT, gIsNotT, isi_tup, DL.ne_int, DL.eq_int, DL.eq_str, DL.ne_str, at_0, at_1, at_2, at_3, seqItems, lItems, DL.isNon, endsD, endsM, endsI, setAllD, wipeD, DSt.set, kgG, List.map_cons, List.map_nil, List.cons_append, List.nil_append, List.length_cons, List.length_nil, List.getElem?_cons_zero, List.getElem?_cons_succ, List.set_cons_zero, List.set_cons_succ, List.foldl_cons, List.foldl_nil, if_true, Nat.zero_add, Bool.not_true, Bool.not_false, Bool.false_eq_true, if_false, and_true, true_and]
      refine ⟨⟨_, rfl⟩, sort_lots nd fun l' pl r => ?_⟩
      simp only [sRet, sSeq, sIf, sSet, sSetM, sNext, sNever, sExpr, sFrz, sX, sPar2, sPar3, sPars, sFor, sAsg, sAug, sSetI, sMk, sRetN, sBreak, sCont, sRetDeal, sFldI, dAndV, dOrV, dNotV, dFn, dFnL, dFnK, dChain, dCB, dCons, dNil, dVarB, dVar, dLit, dOp, dUn, dIf, dB, dNotT, dAndT, dOrT, dYes, dTup, dLst, dSl, dPart, dNoP, dRev, dJoin, dFldC, dMake, dLc, iA, iE, iR1, iR2, vNil, vE, vF, xMut, xMut2E, xE, gdName, gdTup, gdCons, gdNil, gLen, gLt, gLe, gGt, gGe, gCmp, gSl, gSlL, gIx, gI, gIc, gAdd, gLL, gTuple, gList, gInt, gAbs, gAppend, gInsert, gNeg, gIsT, gIsNotT, isi_tup, DL.ne_int, DL.eq_int, DL.eq_str, DL.ne_str, at_0, at_1, at_2, at_3, seqItems, lItems, DL.isNon, endsD, endsM, endsI, setAllD, wipeD, DSt.set, kgG, List.map_cons, List.map_nil, List.cons_append, List.nil_append, List.length_cons, List.length_nil, List.getElem?_cons_zero, List.getElem?_cons_succ, List.set_cons_zero, List.set_cons_succ, List.foldl_cons, List.foldl_nil, if_true, Nat.zero_add, Bool.not_true, Bool.not_false, Bool.false_eq_true, if_false, and_true, true_and]
      have hn2 : 1 ≤ t.cnts[i].2.length := List.length_pos_iff.mpr ho.ne
      have e2 : cs.length = i := by
        have := congrArg List.length e1
        rw [List.length_map, List.length_map, List.length_take] at this
        omega
      have c6 := ok.c6
      refine ⟨by decide, by rw [List.length_map]; omega, hk _ ⟨cs ++ [(t.cnts[i].1, l')], _, _, _, _, by rw [List.map_append]; rfl, ?_, fun c hc' => ?_⟩⟩
      · rw [List.map_append, e1, List.take_add_one, List.getElem?_eq_getElem hi, List.map_append]
        rfl
      · rcases List.mem_append.mp hc' with h | h
        · exact hc c h
        · rw [List.mem_singleton.mp h]
          refine ⟨ho.h, fun e => z2 hn2 ?_, r, ?_, fun l hl => z3 l (pl.subset hl)⟩
          · rw [show l' = [] from e] at pl
            exact pl.symm.eq_nil
          · show l'.length ≤ bb + 36
            rw [pl.length_eq]
            have := ho.z
            omega
    · obtain ⟨ls, s8, rfl, nd, z1, z2, z3⟩ := h'
      have hj := (List.getElem?_eq_some_iff.mp hd).1
      rw [List.length_map] at hj
      rw [List.getElem?_map, List.getElem?_eq_getElem hj, Option.map_some] at hd
      injection hd with hd
      subst hd
      obtain ⟨l0, lo⟩ := ho.l _ (List.getElem_mem hj)
      have hzz := ho.z
      show w_common6 { nx := fun st => w_common5 _ st, rt := _, ex := _, bk := _, ct := _, rm := _ } ⟨[.deal, .val t.d, .val (.str x2), .mu (.lst (cs.map cntD)), .val (.lst (t.tells.map pairD)), .val (.str t.cnts[i].1), .val (.tup (t.cnts[i].2.map lotD)), .val (.lst (ls.map lotD)), .val (lotD t.cnts[i].2[j]), .no, .no, .no, .no, .no], some (a, b)⟩
      have fin : ∀ (N : DEnds), N.nx = k2 → ∀ l' : List Str, l' ≠ [] ∧ Lot (bb + 36) t.names l' → w_common5 N ⟨[.deal, .val t.d, .val (.str x2), .mu (.lst (cs.map cntD)), .val (.lst (t.tells.map pairD)), .val (.str t.cnts[i].1), .val (.tup (t.cnts[i].2.map lotD)), .val (.lst (ls.map lotD)), .val (lotD l'), .no, .no, .no, .no, .no], some (a, b)⟩ := fun N eN l' hl' =>
        common5 (P := fun l => l ≠ [] ∧ Lot (bb + 36) t.names l) z1 (by omega) nd z3 hl' fun ls' n1 n2 n3 n4 => by rw [eN]; exact hk2 _ ⟨ls', _, rfl, n1, n2, fun _ => n3, n4⟩
      generalize w_common5 = R at fin ⊢
      have inner : ∀ (N : DEnds), N.nx = k2 → ∀ l2 : List Str, l2.Nodup → l2 ≠ [] → (∀ x ∈ l2, x ∈ t.names) → l2.length ≤ bb + 36 → gSorted [.lst (l2.map D.str)] fun d => match seqItems d with
        | some xs => R N ⟨[.deal, .val t.d, .val (.str x2), .mu (.lst (cs.map cntD)), .val (.lst (t.tells.map pairD)), .val (.str t.cnts[i].1), .val (.tup (t.cnts[i].2.map lotD)), .val (.lst (ls.map lotD)), .val (.tup xs), .no, .no, .no, .no, .no], some (a, b)⟩
        | none => False := fun N eN l2 m1 m2 m3 m4 => sort_strs m1 fun l' pl r => fin N eN l' ⟨fun e => m2 (by rw [e] at pl; exact pl.symm.eq_nil), r, fun x hx => m3 x (pl.subset hx), by rw [pl.length_eq]; exact m4⟩
      have lz := lo.z
      have nd2 : (t.cnts[i].2[j]).Nodup := names_nodup lo.r
      simp only [w_common6, lotD, sRet, sSeq, sIf, sSet, sSetM, sNext, sNever, sExpr, sFrz, sX, sPar2, sPar3, sPars, sFor, sAsg, sAug, sSetI, sMk, sRetN, sBreak, sCont, sRetDeal, sFldI, dAndV, dOrV, dNotV, dFn, dFnL, dFnK, dChain, dCB, dCons, dNil, dVarB, dVar, dLit, dOp, dUn, dIf, dB, dNotT, dAndT, dOrT, dYes, dTup, dLst, dSl, dPart, dNoP, dRev, dJoin, dFldC, dMake, dLc, iA, iE, iR1, iR2, vNil, vE, vF, xMut, xMut2E, xE, gdName, gdTup, gdCons, gdNil, gLen, gLt, gLe, gGt, gGe, gCmp, gSl, gSlL, gIx, gI, gIc, gAdd, gLL, gTuple, gList, gInt, gAbs, gAppend, gInsert, gNeg, gIsT, gIsNotT, isi_tup, DL.ne_int, DL.eq_int, DL.eq_str, DL.ne_str, at_0, at_1, at_2, at_3, seqItems, lItems, DL.isNon, endsD, endsM, endsI, setAllD, wipeD, DSt.set, kgG, List.map_cons, List.map_nil, List.cons_append, List.nil_append, List.length_cons, List.length_nil, List.getElem?_cons_zero, List.getElem?_cons_succ, List.set_cons_zero, List.set_cons_succ, List.foldl_cons, List.foldl_nil, if_true, Nat.zero_add, Bool.not_true, Bool.not_false, Bool.false_eq_true, if_false, and_true, true_and]
      refine in_lot (neg := true) ?_
      by_cases c : x2 ∈ t.cnts[i].2[j]
      · simp only [decide_eq_true c, sRet, sSeq, sIf, sSet, sSetM, sNext, sNever, sExpr, sFrz, sX, sPar2, sPar3, sPars, sFor, sAsg, sAug, sSetI, sMk, sRetN, sBreak, sCont, sRetDeal, sFldI, dAndV, dOrV, dNotV, dFn, dFnL, dFnK, dChain, dCB, dCons, dNil, dVarB, dVar, dLit, dOp, dUn, dIf, dB, dNotT, dAndT, dOrT, dYes, dTup, dLst, dSl, dPart, dNoP, dRev, dJoin, dFldC, dMake, dLc, iA, iE, iR1, iR2, vNil, vE, vF, xMut, xMut2E, xE, gdName, gdTup, gdCons, gdNil, gLen, gLt, gLe, gGt, gGe, gCmp, gSl, gSlL, gIx, gI, gIc, gAdd, gLL, gTuple, gList, gInt, gAbs, gAppend, gInsert, gNeg, gIsT, gIsNotT, isi_tup, DL.ne_int, DL.eq_int, DL.eq_str, DL.ne_str, at_0, at_1, at_2, at_3, seqItems, lItems, DL.isNon, endsD, endsM, endsI, setAllD, wipeD, DSt.set, kgG, List.map_cons, List.map_nil, List.cons_append, List.nil_append, List.length_cons, List.length_nil, List.getElem?_cons_zero, List.getElem?_cons_succ, List.set_cons_zero, List.set_cons_succ, List.foldl_cons, List.foldl_nil, if_true, Nat.zero_add, Bool.not_true, Bool.not_false, Bool.false_eq_true, if_false, and_true, true_and]
        refine ⟨Nat.zero_le _, by rw [List.length_map]; omega, ?_⟩
        rw [List.append_nil]
        exact inner _ rfl _ nd2 l0 lo.s (by omega)
      · simp only [decide_eq_false c, sRet, sSeq, sIf, sSet, sSetM, sNext, sNever, sExpr, sFrz, sX, sPar2, sPar3, sPars, sFor, sAsg, sAug, sSetI, sMk, sRetN, sBreak, sCont, sRetDeal, sFldI, dAndV, dOrV, dNotV, dFn, dFnL, dFnK, dChain, dCB, dCons, dNil, dVarB, dVar, dLit, dOp, dUn, dIf, dB, dNotT, dAndT, dOrT, dYes, dTup, dLst, dSl, dPart, dNoP, dRev, dJoin, dFldC, dMake, dLc, iA, iE, iR1, iR2, vNil, vE, vF, xMut, xMut2E, xE, gdName, gdTup, gdCons, gdNil, gLen, gLt, gLe, gGt, gGe, gCmp, gSl, gSlL, gIx, gI, gIc, gAdd, gLL, gTuple, gList, gInt, gAbs, gAppend, gInsert, gNeg, gIsT, gIsNotT, isi_tup, DL.ne_int, DL.eq_int, DL.eq_str, DL.ne_str, at_0, at_1, at_2, at_3, seqItems, lItems, DL.isNon, endsD, endsM, endsI, setAllD, wipeD, DSt.set, kgG, List.map_cons, List.map_nil, List.cons_append, List.nil_append, List.length_cons, List.length_nil, List.getElem?_cons_zero, List.getElem?_cons_succ, List.set_cons_zero, List.set_cons_succ, List.foldl_cons, List.foldl_nil, if_true, Nat.zero_add, Bool.not_true, Bool.not_false, Bool.false_eq_true, if_false, and_true, true_and]
        refine ⟨by decide, by rw [List.length_map]; show _ + 1 ≤ _; omega, ?_⟩
        have e : (t.cnts[i].2[j]).map D.str ++ [D.str x2] = (t.cnts[i].2[j] ++ [x2]).map D.str := by rw [List.map_append]; rfl
        rw [e]
        refine inner _ rfl _ (List.nodup_append.mpr ⟨nd2, List.pairwise_singleton _ _, fun x hx y hy e => ?_⟩) (by simp) (fun x hx => ?_) (by rw [List.length_append]; show _ + 1 ≤ _; omega)
        · rw [List.mem_singleton.mp hy] at e
          rw [e] at hx
          exact c hx
        · rcases List.mem_append.mp hx with h | h
          · exact lo.s x h
          · rw [List.mem_singleton.mp h]
            exact hx2
end K67

namespace K67
open PySem PySem.Spec PyProof.Rows L2 DL
theorem Cnt.mono {b c : Nat} {n : List Str} {x : Str × List (List Str)} (h : Cnt b n x) (hb : b ≤ c) : Cnt c n x := ⟨h.h, h.ne, h.r, Nat.le_trans h.z hb, fun l hl => ⟨(h.l l hl).1, (h.l l hl).2.mono hb⟩⟩
theorem p_law_pierced (a b : Addr) (ds : List D) (Q : D → Prop) (hl : ds.length + 1 = 2) (h : sp_law_pierced ds Q) : w_law_pierced (endsD Q fun _ => False) (initL 8 ds a b) := by
  obtain ⟨t, bb, rfl, ok, hb, q⟩ := h
  rw [i_law_pierced]
  have sz := sizeLine_v
  have c2 := ok.c2
  have c6 := ok.c6
  simp only [w_law_pierced, Told.d, sp_law_draw, drawN, sRet, sSeq, sIf, sSet, sSetM, sNext, sNever, sExpr, sFrz, sX, sPar2, sPar3, sPars, sFor, sAsg, sAug, sSetI, sMk, sRetN, sBreak, sCont, sRetDeal, sFldI, dAndV, dOrV, dNotV, dFn, dFnL, dFnK, dChain, dCB, dCons, dNil, dVarB, dVar, dLit, dOp, dUn, dIf, dB, dNotT, dAndT, dOrT, dYes, dTup, dLst, dSl, dPart, dNoP, dRev, dJoin, dFldC, dMake, dLc, iA, iE, iR1, iR2, vNil, vE, vF, xMut, xMut2E, xE, gdName, gdTup, gdCons, gdNil, gLen, gLt, gLe, gGt, gGe, gCmp, gSl, gSlL, gIx, gI, gIc, gAdd, gLL, gTuple, gList, gInt, gAbs, gAppend, gInsert, gNeg, gIsT, gIsNotT, isi_tup, DL.ne_int, DL.eq_int, DL.eq_str, DL.ne_str, at_0, at_1, at_2, at_3, seqItems, lItems, DL.isNon, endsD, endsM, endsI, setAllD, wipeD, DSt.set, kgG, List.map_cons, List.map_nil, List.cons_append, List.nil_append, List.length_cons, List.length_nil, List.getElem?_cons_zero, List.getElem?_cons_succ, List.set_cons_zero, List.set_cons_succ, List.foldl_cons, List.foldl_nil, if_true, Nat.zero_add, Bool.not_true, Bool.not_false, Bool.false_eq_true, if_false, and_true, true_and]
  refine ⟨_, rfl, by rw [List.length_map]; omega, by rw [List.length_map]; omega, fun k k0 k1 => ?_⟩
  obtain ⟨i, rfl⟩ := Int.eq_ofNat_of_zero_le k0
  rw [List.length_map] at k1
  have hi : i < t.cnts.length := by omega
  have ho := ok.c _ (List.getElem_mem hi)
  have hz := ho.z
  have e1 : L2.atI (t.cnts.map cntD) (Int.ofNat i) = some (cntD t.cnts[i]) := by
    show L2.atI (t.cnts.map cntD) ((i : Nat) : Int) = _
    rw [atI_nat, List.getElem?_map, List.getElem?_eq_getElem hi]
    rfl
  have e1' : L2.atI (t.cnts.map cntD) ((i : Nat) : Int) = some (cntD t.cnts[i]) := e1
  simp only [e1, e1', cntD, sRet, sSeq, sIf, sSet, sSetM, sNext, sNever, sExpr, sFrz, sX, sPar2, sPar3, sPars, sFor, sAsg, sAug, sSetI, sMk, sRetN, sBreak, sCont, sRetDeal, sFldI, dAndV, dOrV, dNotV, dFn, dFnL, dFnK, dChain, dCB, dCons, dNil, dVarB, dVar, dLit, dOp, dUn, dIf, dB, dNotT, dAndT, dOrT, dYes, dTup, dLst, dSl, dPart, dNoP, dRev, dJoin, dFldC, dMake, dLc, iA, iE, iR1, iR2, vNil, vE, vF, xMut, xMut2E, xE, gdName, gdTup, gdCons, gdNil, gLen, gLt, gLe, gGt, gGe, gCmp, gSl, gSlL, gIx, gI, gIc, gAdd, gLL, gTuple, gList, gInt, gAbs, gAppend, gInsert, gNeg, gIsT, gIsNotT, isi_tup, DL.ne_int, DL.eq_int, DL.eq_str, DL.ne_str, at_0, at_1, at_2, at_3, seqItems, lItems, DL.isNon, endsD, endsM, endsI, setAllD, wipeD, DSt.set, kgG, List.map_cons, List.map_nil, List.cons_append, List.nil_append, List.length_cons, List.length_nil, List.getElem?_cons_zero, List.getElem?_cons_succ, List.set_cons_zero, List.set_cons_succ, List.foldl_cons, List.foldl_nil, if_true, Nat.zero_add, Bool.not_true, Bool.not_false, Bool.false_eq_true, if_false, and_true, true_and]
  have l1 : 1 ≤ t.cnts[i].2.length := List.length_pos_iff.mpr ho.ne
  refine ⟨_, rfl, by rw [List.length_map]; omega, by rw [List.length_map]; omega, fun k k0 k1 => ?_⟩
  obtain ⟨j, rfl⟩ := Int.eq_ofNat_of_zero_le k0
  rw [List.length_map] at k1
  have hj : j < t.cnts[i].2.length := by omega
  simp only [Int.ofNat_eq_natCast, cut_take, cut_drop1, sRet, sSeq, sIf, sSet, sSetM, sNext, sNever, sExpr, sFrz, sX, sPar2, sPar3, sPars, sFor, sAsg, sAug, sSetI, sMk, sRetN, sBreak, sCont, sRetDeal, sFldI, dAndV, dOrV, dNotV, dFn, dFnL, dFnK, dChain, dCB, dCons, dNil, dVarB, dVar, dLit, dOp, dUn, dIf, dB, dNotT, dAndT, dOrT, dYes, dTup, dLst, dSl, dPart, dNoP, dRev, dJoin, dFldC, dMake, dLc, iA, iE, iR1, iR2, vNil, vE, vF, xMut, xMut2E, xE, gdName, gdTup, gdCons, gdNil, gLen, gLt, gLe, gGt, gGe, gCmp, gSl, gSlL, gIx, gI, gIc, gAdd, gLL, gTuple, gList, gInt, gAbs, gAppend, gInsert, gNeg, gIsT, gIsNotT, isi_tup, DL.ne_int, DL.eq_int, DL.eq_str, DL.ne_str, at_0, at_1, at_2, at_3, seqItems, lItems, DL.isNon, endsD, endsM, endsI, setAllD, wipeD, DSt.set, kgG, List.map_cons, List.map_nil, List.cons_append, List.nil_append, List.length_cons, List.length_nil, List.getElem?_cons_zero, List.getElem?_cons_succ, List.set_cons_zero, List.set_cons_succ, List.foldl_cons, List.foldl_nil, if_true, Nat.zero_add, Bool.not_true, Bool.not_false, Bool.false_eq_true, if_false, and_true, true_and]
  refine ⟨by rw [List.length_take, List.length_drop, List.length_map]; omega, ?_⟩
  rw [← List.map_take, ← List.map_drop, ← List.map_append]
  refine lc_map (fun d => d) (fun d hd Y y => ?_) ?_
  · obtain ⟨l, hl, rfl⟩ := List.mem_map.mp hd
    exact y
  rw [List.map_id']
  have nd := lots_nodup ho.r
  have sub : (t.cnts[i].2.take j ++ t.cnts[i].2.drop (j + 1)).Sublist t.cnts[i].2 := by
    have : (t.cnts[i].2.take j ++ t.cnts[i].2.drop (j + 1)).Sublist (t.cnts[i].2.take j ++ t.cnts[i].2.drop j) := (List.Sublist.refl _).append (by rw [List.drop_eq_getElem_cons hj]; exact List.sublist_cons_self _ _)
    rwa [List.take_append_drop] at this
  have rl : (t.cnts[i].2.take j ++ t.cnts[i].2.drop (j + 1)).length + 1 = t.cnts[i].2.length := by
    rw [List.length_append, List.length_take, List.length_drop]
    omega
  generalize t.cnts[i].2.take j ++ t.cnts[i].2.drop (j + 1) = rest at sub rl ⊢
  simp only [lotD, sp_law_pick, sRet, sSeq, sIf, sSet, sSetM, sNext, sNever, sExpr, sFrz, sX, sPar2, sPar3, sPars, sFor, sAsg, sAug, sSetI, sMk, sRetN, sBreak, sCont, sRetDeal, sFldI, dAndV, dOrV, dNotV, dFn, dFnL, dFnK, dChain, dCB, dCons, dNil, dVarB, dVar, dLit, dOp, dUn, dIf, dB, dNotT, dAndT, dOrT, dYes, dTup, dLst, dSl, dPart, dNoP, dRev, dJoin, dFldC, dMake, dLc, iA, iE, iR1, iR2, vNil, vE, vF, xMut, xMut2E, xE, gdName, gdTup, gdCons, gdNil, gLen, gLt, gLe, gGt, gGe, gCmp, gSl, gSlL, gIx, gI, gIc, gAdd, gLL, gTuple, gList, gInt, gAbs, gAppend, gInsert, gNeg, gIsT, gIsNotT, isi_tup, DL.ne_int, DL.eq_int, DL.eq_str, DL.ne_str, at_0, at_1, at_2, at_3, seqItems, lItems, DL.isNon, endsD, endsM, endsI, setAllD, wipeD, DSt.set, kgG, List.map_cons, List.map_nil, List.cons_append, List.nil_append, List.length_cons, List.length_nil, List.getElem?_cons_zero, List.getElem?_cons_succ, List.set_cons_zero, List.set_cons_succ, List.foldl_cons, List.foldl_nil, if_true, Nat.zero_add, Bool.not_true, Bool.not_false, Bool.false_eq_true, if_false, and_true, true_and]
  refine .inl ⟨_, .inr rfl, names_ne ok.n, by rw [List.length_map]; have := ok.n.n6; omega, fun y hy => ?_⟩
  obtain ⟨x, hx, rfl⟩ := List.mem_map.mp hy
  refine ⟨by decide, ?_⟩
  have fin : ∀ l2 : List (List Str), l2.Nodup → l2 ≠ [] → l2.length ≤ bb + 1 → (∀ l ∈ l2, l ≠ [] ∧ Lot (bb + 1) t.names l) → gSorted [.lst (l2.map lotD)] fun d => match seqItems d with
      | some xs => 1 + 1 ≤ sizeLine ∧ 1 ≤ sizeLine ∧ (List.take i (List.map cntD t.cnts)).length + 1 ≤ sizeLine ∧
            (List.take i (List.map cntD t.cnts) ++ [D.tup [D.str t.cnts[i].fst, D.tup xs]]).length + (List.drop (i + 1) (List.map cntD t.cnts)).length ≤ sizeLine ∧
              1 + 1 + 1 + 1 ≤ sizeLine ∧ Q (.tup [lotD t.names, .tup (t.tells.map pairD), .tup ((t.cnts.map cntD).take i ++ [.tup [.str t.cnts[i].1, .tup xs]] ++ (t.cnts.map cntD).drop (i + 1)), .tup (t.fgs.map lotD)])
      | none => False := fun l2 m1 m2 m3 m4 => sort_lots m1 fun l' pl r => by
    have hq := q ⟨t.names, t.tells, t.cnts.take i ++ [(t.cnts[i].1, l')] ++ t.cnts.drop (i + 1), t.fgs⟩
    have ed : Told.d ⟨t.names, t.tells, t.cnts.take i ++ [(t.cnts[i].1, l')] ++ t.cnts.drop (i + 1), t.fgs⟩ = .tup [lotD t.names, .tup (t.tells.map pairD), .tup ((t.cnts.map cntD).take i ++ [.tup [.str t.cnts[i].1, .tup (l'.map lotD)]] ++ (t.cnts.map cntD).drop (i + 1)), .tup (t.fgs.map lotD)] := by
      unfold Told.d
      simp only [List.map_append, List.map_take, List.map_drop]
      rfl
    rw [ed] at hq
    refine ⟨by decide, by decide, by rw [List.length_take, List.length_map]; omega, by simp only [List.length_append, List.length_take, List.length_drop, List.length_map, List.length_cons, List.length_nil]; omega, by decide, ?_⟩
    have ll : (t.cnts.take i ++ [(t.cnts[i].1, l')] ++ t.cnts.drop (i + 1)).length = t.cnts.length := by
      simp only [List.length_append, List.length_take, List.length_drop, List.length_cons, List.length_nil]
      omega
    refine hq ⟨ok.n, ok.tp, ok.tr, by have := ok.tz; show t.tells.length ≤ bb + 1; omega, by show 2 ≤ _; rw [ll]; exact c2, by show _ ≤ 6; rw [ll]; exact c6, ?_, ?_, ok.f0, ok.fr, by have := ok.fz; show t.fgs.length ≤ bb + 1; omega, fun l hl => (ok.fl l hl).mono (Nat.le_succ _), ok.fa⟩
    · have e : ((t.cnts.take i ++ [(t.cnts[i].1, l')] ++ t.cnts.drop (i + 1)).map fun c => D.str c.1) = t.cnts.map fun c => D.str c.1 := by
        have e2 : t.cnts = t.cnts.take i ++ t.cnts[i] :: t.cnts.drop (i + 1) := by rw [← List.drop_eq_getElem_cons hi, List.take_append_drop]
        have e3 := congrArg (fun l => l.map fun c : Str × List (List Str) => D.str c.1) e2
        rw [e3]
        simp only [List.map_append, List.map_cons, List.map_nil, List.append_assoc, List.cons_append, List.nil_append]
      show Rise ((t.cnts.take i ++ [(t.cnts[i].1, l')] ++ t.cnts.drop (i + 1)).map fun c => D.str c.1)
      rw [e]
      exact ok.cr
    · intro c hc
      rcases List.mem_append.mp hc with h | h
      · rcases List.mem_append.mp h with h | h
        · exact (ok.c c (List.mem_of_mem_take h)).mono (Nat.le_succ _)
        · rw [List.mem_singleton.mp h]
          exact ⟨ho.h, fun e => m2 (by rw [show l' = [] from e] at pl; exact pl.symm.eq_nil), r, by show l'.length ≤ bb + 1; rw [pl.length_eq]; exact m3, fun l hl => m4 l (pl.subset hl)⟩
      · exact (ok.c c (List.mem_of_mem_drop h)).mono (Nat.le_succ _)
  have rp : ∀ l ∈ rest, l ≠ [] ∧ Lot (bb + 1) t.names l := fun l hl => ⟨(ho.l l (sub.subset hl)).1, (ho.l l (sub.subset hl)).2.mono (Nat.le_succ _)⟩
  have rn : rest.Nodup := List.Pairwise.sublist sub nd
  refine in_lotsL (x := [x]) (neg := true) ?_
  by_cases c : [x] ∈ rest
  · simp only [decide_eq_true c, sRet, sSeq, sIf, sSet, sSetM, sNext, sNever, sExpr, sFrz, sX, sPar2, sPar3, sPars, sFor, sAsg, sAug, sSetI, sMk, sRetN, sBreak, sCont, sRetDeal, sFldI, dAndV, dOrV, dNotV, dFn, dFnL, dFnK, dChain, dCB, dCons, dNil, dVarB, dVar, dLit, dOp, dUn, dIf, dB, dNotT, dAndT, dOrT, dYes, dTup, dLst, dSl, dPart, dNoP, dRev, dJoin, dFldC, dMake, dLc, iA, iE, iR1, iR2, vNil, vE, vF, xMut, xMut2E, xE, gdName, gdTup, gdCons, gdNil, gLen, gLt, gLe, gGt, gGe, gCmp, gSl, gSlL, gIx, gI, gIc, gAdd, gLL, gTuple, gList, gInt, gAbs, gAppend, gInsert, gNeg, gIsT, gIsNotT, isi_tup, DL.ne_int, DL.eq_int, DL.eq_str, DL.ne_str, at_0, at_1, at_2, at_3, seqItems, lItems, DL.isNon, endsD, endsM, endsI, setAllD, wipeD, DSt.set, kgG, List.map_cons, List.map_nil, List.cons_append, List.nil_append, List.length_cons, List.length_nil, List.getElem?_cons_zero, List.getElem?_cons_succ, List.set_cons_zero, List.set_cons_succ, List.foldl_cons, List.foldl_nil, if_true, Nat.zero_add, Bool.not_true, Bool.not_false, Bool.false_eq_true, if_false, and_true, true_and]
    refine ⟨Nat.zero_le _, by rw [List.length_map]; omega, ?_⟩
    rw [List.append_nil]
    exact fin rest rn (fun e => by rw [e] at c; exact absurd c List.not_mem_nil) (by omega) rp
  · simp only [decide_eq_false c, sRet, sSeq, sIf, sSet, sSetM, sNext, sNever, sExpr, sFrz, sX, sPar2, sPar3, sPars, sFor, sAsg, sAug, sSetI, sMk, sRetN, sBreak, sCont, sRetDeal, sFldI, dAndV, dOrV, dNotV, dFn, dFnL, dFnK, dChain, dCB, dCons, dNil, dVarB, dVar, dLit, dOp, dUn, dIf, dB, dNotT, dAndT, dOrT, dYes, dTup, dLst, dSl, dPart, dNoP, dRev, dJoin, dFldC, dMake, dLc, iA, iE, iR1, iR2, vNil, vE, vF, xMut, xMut2E, xE, gdName, gdTup, gdCons, gdNil, gLen, gLt, gLe, gGt, gGe, gCmp, gSl, gSlL, gIx, gI, gIc, gAdd, gLL, gTuple, gList, gInt, gAbs, gAppend, gInsert, gNeg, gIsT, gIsNotT, isi_tup, DL.ne_int, DL.eq_int, DL.eq_str, DL.ne_str, at_0, at_1, at_2, at_3, seqItems, lItems, DL.isNon, endsD, endsM, endsI, setAllD, wipeD, DSt.set, kgG, List.map_cons, List.map_nil, List.cons_append, List.nil_append, List.length_cons, List.length_nil, List.getElem?_cons_zero, List.getElem?_cons_succ, List.set_cons_zero, List.set_cons_succ, List.foldl_cons, List.foldl_nil, if_true, Nat.zero_add, Bool.not_true, Bool.not_false, Bool.false_eq_true, if_false, and_true, true_and]
    refine ⟨by decide, by rw [List.length_map]; omega, ?_⟩
    have e : rest.map lotD ++ [D.tup [.str x]] = (rest ++ [[x]]).map lotD := by rw [List.map_append]; rfl
    rw [e]
    refine fin _ (List.nodup_append.mpr ⟨rn, List.pairwise_singleton _ _, fun x hx y hy e => ?_⟩) (by simp) (by rw [List.length_append]; show _ + 1 ≤ _; omega) fun l hl => ?_
    · rw [List.mem_singleton.mp hy] at e
      rw [e] at hx
      exact c hx
    · rcases List.mem_append.mp hl with h | h
      · exact rp l h
      · rw [List.mem_singleton.mp h]
        exact ⟨by simp, hx |> fun h => ⟨List.pairwise_singleton _ _, fun y hy => by rw [List.mem_singleton.mp hy]; exact h, by show 1 ≤ bb + 1; omega⟩⟩
end K67

namespace K67
open PySem PySem.Spec PyProof.Rows L2 DL
/-! ### what repr says of an answer -/
theorem str_leaf {s : Str} (h : nm s) : (s.cps.toList.all fun c => decide (c < 16 ^ 8)) = true := by
  rw [List.all_eq_true]
  intro c hc
  have := h.2.2 c hc
  rw [decide_eq_true_eq]
  omega
theorem show_strs : ∀ l : List Str, (∀ s ∈ l, nm s) → PyData.showableAll (toPyL (l.map D.str)) = true ∧ PyData.leavesShortAll 13 (toPyL (l.map D.str)) = true ∧ PyData.weightAll (toPyL (l.map D.str)) ≤ 9 * l.length
  | [], _ => by simp [toPyL, PyData.showableAll, PyData.leavesShortAll, PyData.weightAll]
  | a :: l, h => by
    obtain ⟨h1, h2, h3⟩ := show_strs l fun s hs => h s (List.mem_cons_of_mem _ hs)
    have ha := h a List.mem_cons_self
    refine ⟨?_, ?_, ?_⟩
    · simp only [List.map_cons, toPyL, toPy, PyData.showableAll, PyData.showable, h1, Bool.true_and]
    · simp only [List.map_cons, toPyL, toPy, PyData.leavesShortAll, PyData.leavesShort, h2, str_leaf ha, Bool.true_and]
    · simp only [List.map_cons, toPyL, toPy, PyData.weightAll, PyData.weight, List.length_cons]
      have := ha.2.1
      unfold Str.length at this
      omega
theorem repr_deaf {x : Str × List Str × Str × List Str × List Str} {Q : D → Prop} (h1 : nm x.1) (h3 : nm x.2.2.1) (l2 : ∀ s ∈ x.2.1, nm s) (l4 : ∀ s ∈ x.2.2.2.1, nm s) (l5 : ∀ s ∈ x.2.2.2.2, nm s)
    (z2 : x.2.1.length ≤ 1000) (z4 : x.2.2.2.1.length ≤ 1000) (z5 : x.2.2.2.2.length ≤ 1000) (q : Q (.txt (shownD (deafD x)))) : gRepr [deafD x] Q := by
  obtain ⟨a, l, b, m, g⟩ := x
  have s2 := show_strs l l2
  have s4 := show_strs m l4
  have s5 := show_strs g l5
  have d2 := dep_lot l
  have d4 := dep_lot m
  have d5 := dep_lot g
  refine gRepr_of (okD_of ?_ ?_) ?_ ?_ ?_ q
  · simp only [deafD, hd, hdL, hd_lot, Bool.true_and]
  · simp only [deafD, dep, depL]
    omega
  · simp only [deafD, lotD, toPy, toPyL, PyData.showable, PyData.showableAll, s2.1, s4.1, s5.1, Bool.true_and]
  · simp only [deafD, lotD, toPy, toPyL, PyData.leavesShort, PyData.leavesShortAll, s2.2.1, s4.2.1, s5.2.1, str_leaf h1, str_leaf h3, Bool.true_and]
  · have n1 := h1.2.1
    have n3 := h3.2.1
    unfold Str.length at n1 n3
    simp only [deafD, lotD, toPy, toPyL, PyData.weight, PyData.weightAll]
    have := s2.2.2
    have := s4.2.2
    have := s5.2.2
    have y2 : l.length ≤ 1000 := z2
    have y4 : m.length ≤ 1000 := z4
    have y5 : g.length ≤ 1000 := z5
    have w1 : a.cps.size ≤ 8 := n1
    have w3 : b.cps.size ≤ 8 := n3
    omega
theorem repr_deafR {t : Told} {b : Nat} (ok : Ok b t) (hb : b ≤ 1000) {Q : D → Prop} (q : Q (.txt (shownD (deafR t)))) : gRepr [deafR t] Q := by
  unfold deafR at q ⊢
  cases e : deafs t with
  | nil => rw [e] at q; exact gRepr_non q
  | cons x xs =>
    rw [e] at q
    have hx : x ∈ deafs t := by rw [e]; exact List.mem_cons_self
    unfold deafs at hx
    obtain ⟨c, hc, hx⟩ := List.mem_flatMap.mp hx
    obtain ⟨lot, hlot, hx⟩ := List.mem_flatMap.mp hx
    obtain ⟨d, hd, hx⟩ := List.mem_flatMap.mp hx
    obtain ⟨more, hmore, hx⟩ := List.mem_flatMap.mp hx
    split at hx
    · obtain ⟨g, hg, rfl⟩ := List.mem_map.mp hx
      have hg' : g ∈ t.fgs := (List.mem_filter.mp (List.mem_of_mem_take hg)).1
      have a1 := ok.c c hc
      have a2 := ok.c d hd
      have b1 := (a1.l lot hlot).2
      have b2 := (a2.l more hmore).2
      have b3 := ok.fl g hg'
      exact repr_deaf a1.h a2.h (fun s hs => ok.n.nn s (b1.s s hs)) (fun s hs => ok.n.nn s (b2.s s hs)) (fun s hs => ok.n.nn s (b3.s s hs)) (Nat.le_trans b1.z hb) (Nat.le_trans b2.z hb) (Nat.le_trans b3.z hb) q
    · cases hx
/-! ### the law -/
def w_law1 (C_Offices : Addr) : FS := (sSeq (sSet 3 (dFnL 1 3 sp_law_told_offices (dCons (dVar 2) (dCons (dOp gAdd (dLit (.int 1)) (dFnL 1 2 sp_law_draw (dCons (dIf (dB (dOp gEqT (dSl gSl (dVarB 0) (dPart (dLit (.int 1))) dNoP) (dLst dNil))) (dLit (.int 3)) (dLit (.int 6))) dNil))) dNil))))
 (sSeq (sFor (iR1 (dCons (dIf (dB (dOp gEqT (dSl gSl (dVarB 0) (dPart (dLit (.int 1))) dNoP) (dLst dNil))) (dLit (.int 2)) (dLit (.int 4))) dNil)) (gdName 4)
 (sSeq (sSet 5 (dMake C_Offices 5 sp_Offices_init (dCons (dOp gIx (dVarB 3) (dLit (.int 0))) (dCons (dOp gIx (dVarB 3) (dLit (.int 1))) (dCons (dOp gIx (dVarB 3) (dLit (.int 2))) (dCons (dOp gIx (dVarB 3) (dLit (.int 3))) dNil))))))
 (sSeq (sIf (dB (dOp gNeT (dCB gRepr (dCons (dFnK 1 (sp_deaf_pair C_Offices) kg_deaf_pair_0_0 dNil (dCons (dVar 5) dNil)) dNil)) (dCB gRepr (dCons (dFn 1 sp_law_deaf (dCons (dVar 3) dNil)) dNil))))
 (sRet (dLit (.bl false)))
 sNext)
 (sSeq (sFor (iR1 (dCons (dLit (.int 4)) dNil)) (gdName 6)
 (sSeq (sPar2 7 8 (vE (dFnL 1 3 sp_law_lot (dCons (dOp gIx (dVarB 3) (dLit (.int 0))) (dCons (dLit (.int 0)) dNil))) (vE (dFnL 1 3 sp_law_lot (dCons (dOp gIx (dVarB 3) (dLit (.int 0))) (dCons (dLit (.int 0)) dNil))) vNil)))
 (sSeq (sSet 9 (dIf (dB (dOp gEqT (dFnL 1 2 sp_law_draw (dCons (dLit (.int 2)) dNil)) (dLit (.int 0)))) (dFnL 1 3 sp_law_lot (dCons (dOp gIx (dVarB 3) (dLit (.int 0))) (dCons (dLit (.int 0)) dNil))) (dTup dNil)))
 (sSeq (sIf (dB (dOp gNeT (dCB gRepr (dCons (dFn 4 (sp_ask_known C_Offices) (dCons (dVar 5) (dCons (dVar 7) (dCons (dVar 8) (dCons (dVar 9) dNil))))) dNil)) (dCB gRepr (dCons (dFn 4 sp_law_known (dCons (dVar 3) (dCons (dVar 7) (dCons (dVar 8) (dCons (dVar 9) dNil))))) dNil))))
 (sRet (dLit (.bl false)))
 sNext)
 (sIf (dB (dOp gNeT (dFnK 4 (sp_ask_known C_Offices) kg_ask_known_0_3210 dNil (dCons (dVar 9) (dCons (dVar 7) (dCons (dVar 8) (dCons (dVar 5) dNil))))) (dFn 4 sp_law_known (dCons (dVar 3) (dCons (dVar 8) (dCons (dVar 7) (dCons (dVar 9) dNil)))))))
 (sRet (dLit (.bl false)))
 sNext)))))
 (sSet 3 (dIf (dB (dOp gLt (dVarB 4) (dLit (.int 1)))) (dFnL 1 2 sp_law_common (dCons (dVar 3) dNil)) (dFnL 1 2 sp_law_pierced (dCons (dVar 3) dNil))))))))
 (sRet (dLit (.bl true)))))
def w_law2 (C_Offices : Addr) : FS := (sSeq (sFor (iR1 (dCons (dIf (dB (dOp gEqT (dSl gSl (dVarB 0) (dPart (dLit (.int 1))) dNoP) (dLst dNil))) (dLit (.int 2)) (dLit (.int 4))) dNil)) (gdName 4)
 (sSeq (sSet 5 (dMake C_Offices 5 sp_Offices_init (dCons (dOp gIx (dVarB 3) (dLit (.int 0))) (dCons (dOp gIx (dVarB 3) (dLit (.int 1))) (dCons (dOp gIx (dVarB 3) (dLit (.int 2))) (dCons (dOp gIx (dVarB 3) (dLit (.int 3))) dNil))))))
 (sSeq (sIf (dB (dOp gNeT (dCB gRepr (dCons (dFnK 1 (sp_deaf_pair C_Offices) kg_deaf_pair_0_0 dNil (dCons (dVar 5) dNil)) dNil)) (dCB gRepr (dCons (dFn 1 sp_law_deaf (dCons (dVar 3) dNil)) dNil))))
 (sRet (dLit (.bl false)))
 sNext)
 (sSeq (sFor (iR1 (dCons (dLit (.int 4)) dNil)) (gdName 6)
 (sSeq (sPar2 7 8 (vE (dFnL 1 3 sp_law_lot (dCons (dOp gIx (dVarB 3) (dLit (.int 0))) (dCons (dLit (.int 0)) dNil))) (vE (dFnL 1 3 sp_law_lot (dCons (dOp gIx (dVarB 3) (dLit (.int 0))) (dCons (dLit (.int 0)) dNil))) vNil)))
 (sSeq (sSet 9 (dIf (dB (dOp gEqT (dFnL 1 2 sp_law_draw (dCons (dLit (.int 2)) dNil)) (dLit (.int 0)))) (dFnL 1 3 sp_law_lot (dCons (dOp gIx (dVarB 3) (dLit (.int 0))) (dCons (dLit (.int 0)) dNil))) (dTup dNil)))
 (sSeq (sIf (dB (dOp gNeT (dCB gRepr (dCons (dFn 4 (sp_ask_known C_Offices) (dCons (dVar 5) (dCons (dVar 7) (dCons (dVar 8) (dCons (dVar 9) dNil))))) dNil)) (dCB gRepr (dCons (dFn 4 sp_law_known (dCons (dVar 3) (dCons (dVar 7) (dCons (dVar 8) (dCons (dVar 9) dNil))))) dNil))))
 (sRet (dLit (.bl false)))
 sNext)
 (sIf (dB (dOp gNeT (dFnK 4 (sp_ask_known C_Offices) kg_ask_known_0_3210 dNil (dCons (dVar 9) (dCons (dVar 7) (dCons (dVar 8) (dCons (dVar 5) dNil))))) (dFn 4 sp_law_known (dCons (dVar 3) (dCons (dVar 8) (dCons (dVar 7) (dCons (dVar 9) dNil)))))))
 (sRet (dLit (.bl false)))
 sNext)))))
 (sSet 3 (dIf (dB (dOp gLt (dVarB 4) (dLit (.int 1)))) (dFnL 1 2 sp_law_common (dCons (dVar 3) dNil)) (dFnL 1 2 sp_law_pierced (dCons (dVar 3) dNil))))))))
 (sRet (dLit (.bl true))))
def w_law3 : FS := (sSet 3 (dIf (dB (dOp gLt (dVarB 4) (dLit (.int 1)))) (dFnL 1 2 sp_law_common (dCons (dVar 3) dNil)) (dFnL 1 2 sp_law_pierced (dCons (dVar 3) dNil))))
def w_law4 (C_Offices : Addr) : FS := (sSeq (sFor (iR1 (dCons (dLit (.int 4)) dNil)) (gdName 6)
 (sSeq (sPar2 7 8 (vE (dFnL 1 3 sp_law_lot (dCons (dOp gIx (dVarB 3) (dLit (.int 0))) (dCons (dLit (.int 0)) dNil))) (vE (dFnL 1 3 sp_law_lot (dCons (dOp gIx (dVarB 3) (dLit (.int 0))) (dCons (dLit (.int 0)) dNil))) vNil)))
 (sSeq (sSet 9 (dIf (dB (dOp gEqT (dFnL 1 2 sp_law_draw (dCons (dLit (.int 2)) dNil)) (dLit (.int 0)))) (dFnL 1 3 sp_law_lot (dCons (dOp gIx (dVarB 3) (dLit (.int 0))) (dCons (dLit (.int 0)) dNil))) (dTup dNil)))
 (sSeq (sIf (dB (dOp gNeT (dCB gRepr (dCons (dFn 4 (sp_ask_known C_Offices) (dCons (dVar 5) (dCons (dVar 7) (dCons (dVar 8) (dCons (dVar 9) dNil))))) dNil)) (dCB gRepr (dCons (dFn 4 sp_law_known (dCons (dVar 3) (dCons (dVar 7) (dCons (dVar 8) (dCons (dVar 9) dNil))))) dNil))))
 (sRet (dLit (.bl false)))
 sNext)
 (sIf (dB (dOp gNeT (dFnK 4 (sp_ask_known C_Offices) kg_ask_known_0_3210 dNil (dCons (dVar 9) (dCons (dVar 7) (dCons (dVar 8) (dCons (dVar 5) dNil))))) (dFn 4 sp_law_known (dCons (dVar 3) (dCons (dVar 8) (dCons (dVar 7) (dCons (dVar 9) dNil)))))))
 (sRet (dLit (.bl false)))
 sNext)))))
 (sSet 3 (dIf (dB (dOp gLt (dVarB 4) (dLit (.int 1)))) (dFnL 1 2 sp_law_common (dCons (dVar 3) dNil)) (dFnL 1 2 sp_law_pierced (dCons (dVar 3) dNil)))))
theorem law3 {N : DEnds} {a b : Addr} {s0 s2 s5 s6 s7 s8 s9 : Sl} {t : Told} {i bb : Nat} (ok : Ok bb t) (hb : bb ≤ 500) (hk : ∀ t' : Told, Ok (bb + 36) t' → N.nx ⟨[s0, .deal, s2, .val t'.d, .val (.int i), s5, s6, s7, s8, s9], some (a, b)⟩) :
    w_law3 N ⟨[s0, .deal, s2, .val t.d, .val (.int i), s5, s6, s7, s8, s9], some (a, b)⟩ := by
  simp only [w_law3, sRet, sSeq, sIf, sSet, sSetM, sNext, sNever, sExpr, sFrz, sX, sPar2, sPar3, sPars, sFor, sAsg, sAug, sSetI, sMk, sRetN, sBreak, sCont, sRetDeal, sFldI, dAndV, dOrV, dNotV, dFn, dFnL, dFnK, dChain, dCB, dCons, dNil, dVarB, dVar, dLit, dOp, dUn, dIf, dB, dNotT, dAndT, dOrT, dYes, dTup, dLst, dSl, dPart, dNoP, dRev, dJoin, dFldC, dMake, dLc, iA, iE, iR1, iR2, vNil, vE, vF, xMut, xMut2E, xE, gdName, gdTup, gdCons, gdNil, gLen, gLt, gLe, gGt, gGe, gCmp, gSl, gSlL, gIx, gI, gIc, gAdd, gLL, gTuple, gList, gInt, gAbs, gAppend, gInsert, gNeg, gIsT, gIsNotT, isi_tup, DL.ne_int, DL.eq_int, DL.eq_str, DL.ne_str, at_0, at_1, at_2, at_3, seqItems, lItems, DL.isNon, endsD, endsM, endsI, setAllD, wipeD, DSt.set, kgG, List.map_cons, List.map_nil, List.cons_append, List.nil_append, List.length_cons, List.length_nil, List.getElem?_cons_zero, List.getElem?_cons_succ, List.set_cons_zero, List.set_cons_succ, List.foldl_cons, List.foldl_nil, if_true, Nat.zero_add, Bool.not_true, Bool.not_false, Bool.false_eq_true, if_false, and_true, true_and]
  have up : ∀ t' : Told, Ok (bb + 1) t' → Ok (bb + 36) t' := fun t' h => ⟨h.n, h.tp, h.tr, Nat.le_trans h.tz (by omega), h.c2, h.c6, h.cr, fun c hc => (h.c c hc).mono (by omega), h.f0, h.fr, Nat.le_trans h.fz (by omega), fun l hl => (h.fl l hl).mono (by omega), h.fa⟩
  by_cases c : (i : Int) < 1
  · simp only [decide_eq_true c, sRet, sSeq, sIf, sSet, sSetM, sNext, sNever, sExpr, sFrz, sX, sPar2, sPar3, sPars, sFor, sAsg, sAug, sSetI, sMk, sRetN, sBreak, sCont, sRetDeal, sFldI, dAndV, dOrV, dNotV, dFn, dFnL, dFnK, dChain, dCB, dCons, dNil, dVarB, dVar, dLit, dOp, dUn, dIf, dB, dNotT, dAndT, dOrT, dYes, dTup, dLst, dSl, dPart, dNoP, dRev, dJoin, dFldC, dMake, dLc, iA, iE, iR1, iR2, vNil, vE, vF, xMut, xMut2E, xE, gdName, gdTup, gdCons, gdNil, gLen, gLt, gLe, gGt, gGe, gCmp, gSl, gSlL, gIx, gI, gIc, gAdd, gLL, gTuple, gList, gInt, gAbs, gAppend, gInsert, gNeg, gIsT, gIsNotT, isi_tup, DL.ne_int, DL.eq_int, DL.eq_str, DL.ne_str, at_0, at_1, at_2, at_3, seqItems, lItems, DL.isNon, endsD, endsM, endsI, setAllD, wipeD, DSt.set, kgG, List.map_cons, List.map_nil, List.cons_append, List.nil_append, List.length_cons, List.length_nil, List.getElem?_cons_zero, List.getElem?_cons_succ, List.set_cons_zero, List.set_cons_succ, List.foldl_cons, List.foldl_nil, if_true, Nat.zero_add, Bool.not_true, Bool.not_false, Bool.false_eq_true, if_false, and_true, true_and]
    exact ⟨t, bb, rfl, ok, hb, hk⟩
  · simp only [decide_eq_false c, sRet, sSeq, sIf, sSet, sSetM, sNext, sNever, sExpr, sFrz, sX, sPar2, sPar3, sPars, sFor, sAsg, sAug, sSetI, sMk, sRetN, sBreak, sCont, sRetDeal, sFldI, dAndV, dOrV, dNotV, dFn, dFnL, dFnK, dChain, dCB, dCons, dNil, dVarB, dVar, dLit, dOp, dUn, dIf, dB, dNotT, dAndT, dOrT, dYes, dTup, dLst, dSl, dPart, dNoP, dRev, dJoin, dFldC, dMake, dLc, iA, iE, iR1, iR2, vNil, vE, vF, xMut, xMut2E, xE, gdName, gdTup, gdCons, gdNil, gLen, gLt, gLe, gGt, gGe, gCmp, gSl, gSlL, gIx, gI, gIc, gAdd, gLL, gTuple, gList, gInt, gAbs, gAppend, gInsert, gNeg, gIsT, gIsNotT, isi_tup, DL.ne_int, DL.eq_int, DL.eq_str, DL.ne_str, at_0, at_1, at_2, at_3, seqItems, lItems, DL.isNon, endsD, endsM, endsI, setAllD, wipeD, DSt.set, kgG, List.map_cons, List.map_nil, List.cons_append, List.nil_append, List.length_cons, List.length_nil, List.getElem?_cons_zero, List.getElem?_cons_succ, List.set_cons_zero, List.set_cons_succ, List.foldl_cons, List.foldl_nil, if_true, Nat.zero_add, Bool.not_true, Bool.not_false, Bool.false_eq_true, if_false, and_true, true_and]
    exact ⟨t, bb, rfl, ok, hb, fun t' h => hk t' (up t' h)⟩
def w_law5 (C_Offices : Addr) : FS := (sSeq (sIf (dB (dOp gNeT (dCB gRepr (dCons (dFn 4 (sp_ask_known C_Offices) (dCons (dVar 5) (dCons (dVar 7) (dCons (dVar 8) (dCons (dVar 9) dNil))))) dNil)) (dCB gRepr (dCons (dFn 4 sp_law_known (dCons (dVar 3) (dCons (dVar 7) (dCons (dVar 8) (dCons (dVar 9) dNil))))) dNil))))
 (sRet (dLit (.bl false)))
 sNext)
 (sIf (dB (dOp gNeT (dFnK 4 (sp_ask_known C_Offices) kg_ask_known_0_3210 dNil (dCons (dVar 9) (dCons (dVar 7) (dCons (dVar 8) (dCons (dVar 5) dNil))))) (dFn 4 sp_law_known (dCons (dVar 3) (dCons (dVar 8) (dCons (dVar 7) (dCons (dVar 9) dNil)))))))
 (sRet (dLit (.bl false)))
 sNext))
theorem law5 {C : Addr} {N : DEnds} {a b : Addr} {s0 s2 s4 s6 : Sl} {t : Told} {l1 l2 g : List Str} (hk : N.nx ⟨[s0, .deal, s2, .val t.d, s4, .val (offD C t), s6, .val (lotD l1), .val (lotD l2), .val (lotD g)], some (a, b)⟩) :
    w_law5 C N ⟨[s0, .deal, s2, .val t.d, s4, .val (offD C t), s6, .val (lotD l1), .val (lotD l2), .val (lotD g)], some (a, b)⟩ := by
  simp only [w_law5, sRet, sSeq, sIf, sSet, sSetM, sNext, sNever, sExpr, sFrz, sX, sPar2, sPar3, sPars, sFor, sAsg, sAug, sSetI, sMk, sRetN, sBreak, sCont, sRetDeal, sFldI, dAndV, dOrV, dNotV, dFn, dFnL, dFnK, dChain, dCB, dCons, dNil, dVarB, dVar, dLit, dOp, dUn, dIf, dB, dNotT, dAndT, dOrT, dYes, dTup, dLst, dSl, dPart, dNoP, dRev, dJoin, dFldC, dMake, dLc, iA, iE, iR1, iR2, vNil, vE, vF, xMut, xMut2E, xE, gdName, gdTup, gdCons, gdNil, gLen, gLt, gLe, gGt, gGe, gCmp, gSl, gSlL, gIx, gI, gIc, gAdd, gLL, gTuple, gList, gInt, gAbs, gAppend, gInsert, gNeg, gIsT, gIsNotT, isi_tup, DL.ne_int, DL.eq_int, DL.eq_str, DL.ne_str, at_0, at_1, at_2, at_3, seqItems, lItems, DL.isNon, endsD, endsM, endsI, setAllD, wipeD, DSt.set, kgG, List.map_cons, List.map_nil, List.cons_append, List.nil_append, List.length_cons, List.length_nil, List.getElem?_cons_zero, List.getElem?_cons_succ, List.set_cons_zero, List.set_cons_succ, List.foldl_cons, List.foldl_nil, if_true, Nat.zero_add, Bool.not_true, Bool.not_false, Bool.false_eq_true, if_false, and_true, true_and]
  refine ⟨t, l1, l2, g, rfl, ?_⟩
  refine gRepr_bl ?_
  refine ⟨t, l1, l2, g, rfl, ?_⟩
  refine gRepr_bl ?_
  rw [ne_txt]
  simp only [kg_ask_known_0_3210, sRet, sSeq, sIf, sSet, sSetM, sNext, sNever, sExpr, sFrz, sX, sPar2, sPar3, sPars, sFor, sAsg, sAug, sSetI, sMk, sRetN, sBreak, sCont, sRetDeal, sFldI, dAndV, dOrV, dNotV, dFn, dFnL, dFnK, dChain, dCB, dCons, dNil, dVarB, dVar, dLit, dOp, dUn, dIf, dB, dNotT, dAndT, dOrT, dYes, dTup, dLst, dSl, dPart, dNoP, dRev, dJoin, dFldC, dMake, dLc, iA, iE, iR1, iR2, vNil, vE, vF, xMut, xMut2E, xE, gdName, gdTup, gdCons, gdNil, gLen, gLt, gLe, gGt, gGe, gCmp, gSl, gSlL, gIx, gI, gIc, gAdd, gLL, gTuple, gList, gInt, gAbs, gAppend, gInsert, gNeg, gIsT, gIsNotT, isi_tup, DL.ne_int, DL.eq_int, DL.eq_str, DL.ne_str, at_0, at_1, at_2, at_3, seqItems, lItems, DL.isNon, endsD, endsM, endsI, setAllD, wipeD, DSt.set, kgG, List.map_cons, List.map_nil, List.cons_append, List.nil_append, List.length_cons, List.length_nil, List.getElem?_cons_zero, List.getElem?_cons_succ, List.set_cons_zero, List.set_cons_succ, List.foldl_cons, List.foldl_nil, if_true, Nat.zero_add, Bool.not_true, Bool.not_false, Bool.false_eq_true, if_false, and_true, true_and]
  refine ⟨rfl, t, l2, l1, g, rfl, ?_⟩
  refine ⟨t, l2, l1, g, rfl, ?_⟩
  refine ne_bl ?_
  exact hk
theorem law4 {C : Addr} {N : DEnds} {a b : Addr} {s0 s2 s4 s6 s7 s8 s9 : Sl} {t : Told} {bb : Nat} (ok : Ok bb t)
    (hk : ∀ s6 s7 s8 s9 : Sl, w_law3 N ⟨[s0, .deal, s2, .val t.d, s4, .val (offD C t), s6, s7, s8, s9], some (a, b)⟩) :
    w_law4 C N ⟨[s0, .deal, s2, .val t.d, s4, .val (offD C t), s6, s7, s8, s9], some (a, b)⟩ := by
  have ew : w_law4 C = w_law4 C := rfl
  unfold w_law4
  have h5 := fun (N : DEnds) (s6 : Sl) (l1 l2 g : List Str) hk => law5 (C := C) (N := N) (a := a) (b := b) (s0 := s0) (s2 := s2) (s4 := s4) (s6 := s6) (t := t) (l1 := l1) (l2 := l2) (g := g) hk
  show sSeq (sFor _ _ (sSeq _ (sSeq _ (w_law5 C)))) w_law3 N _
  generalize w_law3 = R at hk ⊢
  generalize w_law5 C = R2 at h5 ⊢
  simp only [sRet, sSeq, sIf, sSet, sSetM, sNext, sNever, sExpr, sFrz, sX, sPar2, sPar3, sPars, sFor, sAsg, sAug, sSetI, sMk, sRetN, sBreak, sCont, sRetDeal, sFldI, dAndV, dOrV, dNotV, dFn, dFnL, dFnK, dChain, dCB, dCons, dNil, dVarB, dVar, dLit, dOp, dUn, dIf, dB, dNotT, dAndT, dOrT, dYes, dTup, dLst, dSl, dPart, dNoP, dRev, dJoin, dFldC, dMake, dLc, iA, iE, iR1, iR2, vNil, vE, vF, xMut, xMut2E, xE, gdName, gdTup, gdCons, gdNil, gLen, gLt, gLe, gGt, gGe, gCmp, gSl, gSlL, gIx, gI, gIc, gAdd, gLL, gTuple, gList, gInt, gAbs, gAppend, gInsert, gNeg, gIsT, gIsNotT, isi_tup, DL.ne_int, DL.eq_int, DL.eq_str, DL.ne_str, at_0, at_1, at_2, at_3, seqItems, lItems, DL.isNon, endsD, endsM, endsI, setAllD, wipeD, DSt.set, kgG, List.map_cons, List.map_nil, List.cons_append, List.nil_append, List.length_cons, List.length_nil, List.getElem?_cons_zero, List.getElem?_cons_succ, List.set_cons_zero, List.set_cons_succ, List.foldl_cons, List.foldl_nil, if_true, Nat.zero_add, Bool.not_true, Bool.not_false, Bool.false_eq_true, if_false, and_true, true_and]
  refine ⟨by decide, by decide, ?_⟩
  refine for_each (fun st => ∃ s6 s7 s8 s9, st = ⟨[s0, .deal, s2, .val t.d, s4, .val (offD C t), s6, s7, s8, s9], some (a, b)⟩) ⟨_, _, _, _, rfl⟩ (fun st' h' => ?_) fun d hd st h' k hk => ?_
  · obtain ⟨s6, s7, s8, s9, rfl⟩ := h'
    exact hk s6 s7 s8 s9
  · obtain ⟨s6, s7, s8, s9, rfl⟩ := h'
    simp only [Told.d, sp_law_draw, drawN, sRet, sSeq, sIf, sSet, sSetM, sNext, sNever, sExpr, sFrz, sX, sPar2, sPar3, sPars, sFor, sAsg, sAug, sSetI, sMk, sRetN, sBreak, sCont, sRetDeal, sFldI, dAndV, dOrV, dNotV, dFn, dFnL, dFnK, dChain, dCB, dCons, dNil, dVarB, dVar, dLit, dOp, dUn, dIf, dB, dNotT, dAndT, dOrT, dYes, dTup, dLst, dSl, dPart, dNoP, dRev, dJoin, dFldC, dMake, dLc, iA, iE, iR1, iR2, vNil, vE, vF, xMut, xMut2E, xE, gdName, gdTup, gdCons, gdNil, gLen, gLt, gLe, gGt, gGe, gCmp, gSl, gSlL, gIx, gI, gIc, gAdd, gLL, gTuple, gList, gInt, gAbs, gAppend, gInsert, gNeg, gIsT, gIsNotT, isi_tup, DL.ne_int, DL.eq_int, DL.eq_str, DL.ne_str, at_0, at_1, at_2, at_3, seqItems, lItems, DL.isNon, endsD, endsM, endsI, setAllD, wipeD, DSt.set, kgG, List.map_cons, List.map_nil, List.cons_append, List.nil_append, List.length_cons, List.length_nil, List.getElem?_cons_zero, List.getElem?_cons_succ, List.set_cons_zero, List.set_cons_succ, List.foldl_cons, List.foldl_nil, if_true, Nat.zero_add, Bool.not_true, Bool.not_false, Bool.false_eq_true, if_false, and_true, true_and]
    refine ⟨t.names, 0, rfl, ok.n, by decide, fun l1 lo1 _ => ?_⟩
    refine ⟨t.names, 0, rfl, ok.n, by decide, fun l2 lo2 _ => ?_⟩
    refine ⟨_, rfl, by decide, by decide, fun v v0 v1 => ?_⟩
    by_cases c : v = 0
    · simp only [decide_eq_true c, sRet, sSeq, sIf, sSet, sSetM, sNext, sNever, sExpr, sFrz, sX, sPar2, sPar3, sPars, sFor, sAsg, sAug, sSetI, sMk, sRetN, sBreak, sCont, sRetDeal, sFldI, dAndV, dOrV, dNotV, dFn, dFnL, dFnK, dChain, dCB, dCons, dNil, dVarB, dVar, dLit, dOp, dUn, dIf, dB, dNotT, dAndT, dOrT, dYes, dTup, dLst, dSl, dPart, dNoP, dRev, dJoin, dFldC, dMake, dLc, iA, iE, iR1, iR2, vNil, vE, vF, xMut, xMut2E, xE, gdName, gdTup, gdCons, gdNil, gLen, gLt, gLe, gGt, gGe, gCmp, gSl, gSlL, gIx, gI, gIc, gAdd, gLL, gTuple, gList, gInt, gAbs, gAppend, gInsert, gNeg, gIsT, gIsNotT, isi_tup, DL.ne_int, DL.eq_int, DL.eq_str, DL.ne_str, at_0, at_1, at_2, at_3, seqItems, lItems, DL.isNon, endsD, endsM, endsI, setAllD, wipeD, DSt.set, kgG, List.map_cons, List.map_nil, List.cons_append, List.nil_append, List.length_cons, List.length_nil, List.getElem?_cons_zero, List.getElem?_cons_succ, List.set_cons_zero, List.set_cons_succ, List.foldl_cons, List.foldl_nil, if_true, Nat.zero_add, Bool.not_true, Bool.not_false, Bool.false_eq_true, if_false, and_true, true_and]
      exact ⟨t.names, 0, rfl, ok.n, by decide, fun l3 lo3 _ => h5 _ _ l1 l2 l3 (hk _ ⟨_, _, _, _, rfl⟩)⟩
    · simp only [decide_eq_false c, sRet, sSeq, sIf, sSet, sSetM, sNext, sNever, sExpr, sFrz, sX, sPar2, sPar3, sPars, sFor, sAsg, sAug, sSetI, sMk, sRetN, sBreak, sCont, sRetDeal, sFldI, dAndV, dOrV, dNotV, dFn, dFnL, dFnK, dChain, dCB, dCons, dNil, dVarB, dVar, dLit, dOp, dUn, dIf, dB, dNotT, dAndT, dOrT, dYes, dTup, dLst, dSl, dPart, dNoP, dRev, dJoin, dFldC, dMake, dLc, iA, iE, iR1, iR2, vNil, vE, vF, xMut, xMut2E, xE, gdName, gdTup, gdCons, gdNil, gLen, gLt, gLe, gGt, gGe, gCmp, gSl, gSlL, gIx, gI, gIc, gAdd, gLL, gTuple, gList, gInt, gAbs, gAppend, gInsert, gNeg, gIsT, gIsNotT, isi_tup, DL.ne_int, DL.eq_int, DL.eq_str, DL.ne_str, at_0, at_1, at_2, at_3, seqItems, lItems, DL.isNon, endsD, endsM, endsI, setAllD, wipeD, DSt.set, kgG, List.map_cons, List.map_nil, List.cons_append, List.nil_append, List.length_cons, List.length_nil, List.getElem?_cons_zero, List.getElem?_cons_succ, List.set_cons_zero, List.set_cons_succ, List.foldl_cons, List.foldl_nil, if_true, Nat.zero_add, Bool.not_true, Bool.not_false, Bool.false_eq_true, if_false, and_true, true_and]
      exact ⟨by decide, h5 _ _ l1 l2 [] (hk _ ⟨_, _, _, _, rfl⟩)⟩
theorem cut_ok (ns : List Int) (lo hi : Option Int) : okD (.lst (cutG (ns.map D.int) lo hi)) = true := by
  have e : ∃ ms : List Int, cutG (ns.map D.int) lo hi = ms.map D.int := ⟨_, by unfold cutG; rw [← List.map_drop, ← List.map_take, List.length_map]⟩
  obtain ⟨ms, e⟩ := e
  rw [e]
  refine okD_of ?_ ?_
  · simp only [hd, hdL_all, List.all_map]
    simp [hd]
  · simp only [dep]
    have := depL_map (f := D.int) (n := 0) (fun a => by simp [dep]) ms
    omega
def w_law6 (C_Offices : Addr) : FS := (sSeq (sSet 5 (dMake C_Offices 5 sp_Offices_init (dCons (dOp gIx (dVarB 3) (dLit (.int 0))) (dCons (dOp gIx (dVarB 3) (dLit (.int 1))) (dCons (dOp gIx (dVarB 3) (dLit (.int 2))) (dCons (dOp gIx (dVarB 3) (dLit (.int 3))) dNil))))))
 (sSeq (sIf (dB (dOp gNeT (dCB gRepr (dCons (dFnK 1 (sp_deaf_pair C_Offices) kg_deaf_pair_0_0 dNil (dCons (dVar 5) dNil)) dNil)) (dCB gRepr (dCons (dFn 1 sp_law_deaf (dCons (dVar 3) dNil)) dNil))))
 (sRet (dLit (.bl false)))
 sNext)
 (sSeq (sFor (iR1 (dCons (dLit (.int 4)) dNil)) (gdName 6)
 (sSeq (sPar2 7 8 (vE (dFnL 1 3 sp_law_lot (dCons (dOp gIx (dVarB 3) (dLit (.int 0))) (dCons (dLit (.int 0)) dNil))) (vE (dFnL 1 3 sp_law_lot (dCons (dOp gIx (dVarB 3) (dLit (.int 0))) (dCons (dLit (.int 0)) dNil))) vNil)))
 (sSeq (sSet 9 (dIf (dB (dOp gEqT (dFnL 1 2 sp_law_draw (dCons (dLit (.int 2)) dNil)) (dLit (.int 0)))) (dFnL 1 3 sp_law_lot (dCons (dOp gIx (dVarB 3) (dLit (.int 0))) (dCons (dLit (.int 0)) dNil))) (dTup dNil)))
 (sSeq (sIf (dB (dOp gNeT (dCB gRepr (dCons (dFn 4 (sp_ask_known C_Offices) (dCons (dVar 5) (dCons (dVar 7) (dCons (dVar 8) (dCons (dVar 9) dNil))))) dNil)) (dCB gRepr (dCons (dFn 4 sp_law_known (dCons (dVar 3) (dCons (dVar 7) (dCons (dVar 8) (dCons (dVar 9) dNil))))) dNil))))
 (sRet (dLit (.bl false)))
 sNext)
 (sIf (dB (dOp gNeT (dFnK 4 (sp_ask_known C_Offices) kg_ask_known_0_3210 dNil (dCons (dVar 9) (dCons (dVar 7) (dCons (dVar 8) (dCons (dVar 5) dNil))))) (dFn 4 sp_law_known (dCons (dVar 3) (dCons (dVar 8) (dCons (dVar 7) (dCons (dVar 9) dNil)))))))
 (sRet (dLit (.bl false)))
 sNext)))))
 (sSet 3 (dIf (dB (dOp gLt (dVarB 4) (dLit (.int 1)))) (dFnL 1 2 sp_law_common (dCons (dVar 3) dNil)) (dFnL 1 2 sp_law_pierced (dCons (dVar 3) dNil)))))))
theorem law6 {C : Addr} {N : DEnds} {a b : Addr} {s0 s2 s5 s6 s7 s8 s9 : Sl} {t : Told} {i bb : Nat} (ok : Ok bb t) (hb : bb ≤ 500) (hk : ∀ (t' : Told) (s5 s6 s7 s8 s9 : Sl), Ok (bb + 36) t' → N.nx ⟨[s0, .deal, s2, .val t'.d, .val (.int i), s5, s6, s7, s8, s9], some (a, b)⟩) :
    w_law6 C N ⟨[s0, .deal, s2, .val t.d, .val (.int i), s5, s6, s7, s8, s9], some (a, b)⟩ := by
  have h4 := law4 (C := C) (N := N) (a := a) (b := b) (s0 := s0) (s2 := s2) (s4 := .val (.int i)) (s6 := s6) (s7 := s7) (s8 := s8) (s9 := s9) ok fun s6 s7 s8 s9 => law3 ok hb fun t' ok' => hk t' _ s6 s7 s8 s9 ok'
  unfold w_law6
  show sSeq _ (sSeq _ (w_law4 C)) _ _
  generalize w_law4 C = R at h4 ⊢
  simp only [Told.d, sRet, sSeq, sIf, sSet, sSetM, sNext, sNever, sExpr, sFrz, sX, sPar2, sPar3, sPars, sFor, sAsg, sAug, sSetI, sMk, sRetN, sBreak, sCont, sRetDeal, sFldI, dAndV, dOrV, dNotV, dFn, dFnL, dFnK, dChain, dCB, dCons, dNil, dVarB, dVar, dLit, dOp, dUn, dIf, dB, dNotT, dAndT, dOrT, dYes, dTup, dLst, dSl, dPart, dNoP, dRev, dJoin, dFldC, dMake, dLc, iA, iE, iR1, iR2, vNil, vE, vF, xMut, xMut2E, xE, gdName, gdTup, gdCons, gdNil, gLen, gLt, gLe, gGt, gGe, gCmp, gSl, gSlL, gIx, gI, gIc, gAdd, gLL, gTuple, gList, gInt, gAbs, gAppend, gInsert, gNeg, gIsT, gIsNotT, isi_tup, DL.ne_int, DL.eq_int, DL.eq_str, DL.ne_str, at_0, at_1, at_2, at_3, seqItems, lItems, DL.isNon, endsD, endsM, endsI, setAllD, wipeD, DSt.set, kgG, List.map_cons, List.map_nil, List.cons_append, List.nil_append, List.length_cons, List.length_nil, List.getElem?_cons_zero, List.getElem?_cons_succ, List.set_cons_zero, List.set_cons_succ, List.foldl_cons, List.foldl_nil, if_true, Nat.zero_add, Bool.not_true, Bool.not_false, Bool.false_eq_true, if_false, and_true, true_and]
  refine ⟨t, bb, ok, by omega, rfl, ?_⟩
  simp only [kg_deaf_pair_0_0, sRet, sSeq, sIf, sSet, sSetM, sNext, sNever, sExpr, sFrz, sX, sPar2, sPar3, sPars, sFor, sAsg, sAug, sSetI, sMk, sRetN, sBreak, sCont, sRetDeal, sFldI, dAndV, dOrV, dNotV, dFn, dFnL, dFnK, dChain, dCB, dCons, dNil, dVarB, dVar, dLit, dOp, dUn, dIf, dB, dNotT, dAndT, dOrT, dYes, dTup, dLst, dSl, dPart, dNoP, dRev, dJoin, dFldC, dMake, dLc, iA, iE, iR1, iR2, vNil, vE, vF, xMut, xMut2E, xE, gdName, gdTup, gdCons, gdNil, gLen, gLt, gLe, gGt, gGe, gCmp, gSl, gSlL, gIx, gI, gIc, gAdd, gLL, gTuple, gList, gInt, gAbs, gAppend, gInsert, gNeg, gIsT, gIsNotT, isi_tup, DL.ne_int, DL.eq_int, DL.eq_str, DL.ne_str, at_0, at_1, at_2, at_3, seqItems, lItems, DL.isNon, endsD, endsM, endsI, setAllD, wipeD, DSt.set, kgG, List.map_cons, List.map_nil, List.cons_append, List.nil_append, List.length_cons, List.length_nil, List.getElem?_cons_zero, List.getElem?_cons_succ, List.set_cons_zero, List.set_cons_succ, List.foldl_cons, List.foldl_nil, if_true, Nat.zero_add, Bool.not_true, Bool.not_false, Bool.false_eq_true, if_false, and_true, true_and]
  refine ⟨rfl, t, rfl, repr_deafR ok (by omega) ?_⟩
  refine ⟨t, rfl, repr_deafR ok (by omega) ?_⟩
  rw [ne_txt]
  exact h4
theorem law_loop {C : Addr} {N : DEnds} {a b : Addr} {s0 s2 s4 s5 s6 s7 s8 s9 : Sl} {t : Told} {n : Nat} (ok : Ok 36 t) (hn : n ≤ 4) (hk : ∀ st, N.nx st) :
    forGo (gdName 4) (w_law6 C) N (rngD 0 n) ⟨[s0, .deal, s2, .val t.d, s4, s5, s6, s7, s8, s9], some (a, b)⟩ := by
  refine for_rng (fun i st => ∃ t' s4 s5 s6 s7 s8 s9, st = ⟨[s0, .deal, s2, .val (Told.d t'), s4, s5, s6, s7, s8, s9], some (a, b)⟩ ∧ Ok (36 + 36 * i) t') ⟨t, _, _, _, _, _, _, rfl, ok⟩ (fun st' _ => hk st') fun i hi st h' k hk => ?_
  obtain ⟨t', s4, s5, s6, s7, s8, s9, rfl, ok'⟩ := h'
  show w_law6 C _ ⟨[s0, .deal, s2, .val t'.d, .val (.int i), s5, s6, s7, s8, s9], some (a, b)⟩
  exact law6 ok' (by omega) fun t2 s5 s6 s7 s8 s9 ok2 => hk _ ⟨t2, _, s5, s6, s7, s8, s9, rfl, ok2⟩
theorem law2 {C : Addr} {Q : D → Prop} {a b : Addr} {ns : List Int} {s2 : Sl} {t : Told} (ok : Ok 36 t) (q : Q (.bl true)) :
    w_law2 C (endsD Q fun _ => False) ⟨[.val (.scr ns), .deal, s2, .val t.d, .no, .no, .no, .no, .no, .no], some (a, b)⟩ := by
  unfold w_law2
  have hl := fun (N : DEnds) (n : Nat) hn hk => law_loop (C := C) (N := N) (a := a) (b := b) (s0 := .val (.scr ns)) (s2 := s2) (s4 := .no) (s5 := .no) (s6 := .no) (s7 := .no) (s8 := .no) (s9 := .no) (n := n) ok hn hk
  show sSeq (sFor _ _ (w_law6 C)) _ _ _
  generalize w_law6 C = R at hl ⊢
  simp only [sRet, sSeq, sIf, sSet, sSetM, sNext, sNever, sExpr, sFrz, sX, sPar2, sPar3, sPars, sFor, sAsg, sAug, sSetI, sMk, sRetN, sBreak, sCont, sRetDeal, sFldI, dAndV, dOrV, dNotV, dFn, dFnL, dFnK, dChain, dCB, dCons, dNil, dVarB, dVar, dLit, dOp, dUn, dIf, dB, dNotT, dAndT, dOrT, dYes, dTup, dLst, dSl, dPart, dNoP, dRev, dJoin, dFldC, dMake, dLc, iA, iE, iR1, iR2, vNil, vE, vF, xMut, xMut2E, xE, gdName, gdTup, gdCons, gdNil, gLen, gLt, gLe, gGt, gGe, gCmp, gSl, gSlL, gIx, gI, gIc, gAdd, gLL, gTuple, gList, gInt, gAbs, gAppend, gInsert, gNeg, gIsT, gIsNotT, isi_tup, DL.ne_int, DL.eq_int, DL.eq_str, DL.ne_str, at_0, at_1, at_2, at_3, seqItems, lItems, DL.isNon, endsD, endsM, endsI, setAllD, wipeD, DSt.set, kgG, List.map_cons, List.map_nil, List.cons_append, List.nil_append, List.length_cons, List.length_nil, List.getElem?_cons_zero, List.getElem?_cons_succ, List.set_cons_zero, List.set_cons_succ, List.foldl_cons, List.foldl_nil, if_true, Nat.zero_add, Bool.not_true, Bool.not_false, Bool.false_eq_true, if_false, and_true, true_and]
  refine ⟨by decide, eq_nilL (cut_ok ns _ _) ?_⟩
  cases (cutG (ns.map D.int) (some 1) none).isEmpty with
  | true =>
    simp only [sRet, sSeq, sIf, sSet, sSetM, sNext, sNever, sExpr, sFrz, sX, sPar2, sPar3, sPars, sFor, sAsg, sAug, sSetI, sMk, sRetN, sBreak, sCont, sRetDeal, sFldI, dAndV, dOrV, dNotV, dFn, dFnL, dFnK, dChain, dCB, dCons, dNil, dVarB, dVar, dLit, dOp, dUn, dIf, dB, dNotT, dAndT, dOrT, dYes, dTup, dLst, dSl, dPart, dNoP, dRev, dJoin, dFldC, dMake, dLc, iA, iE, iR1, iR2, vNil, vE, vF, xMut, xMut2E, xE, gdName, gdTup, gdCons, gdNil, gLen, gLt, gLe, gGt, gGe, gCmp, gSl, gSlL, gIx, gI, gIc, gAdd, gLL, gTuple, gList, gInt, gAbs, gAppend, gInsert, gNeg, gIsT, gIsNotT, isi_tup, DL.ne_int, DL.eq_int, DL.eq_str, DL.ne_str, at_0, at_1, at_2, at_3, seqItems, lItems, DL.isNon, endsD, endsM, endsI, setAllD, wipeD, DSt.set, kgG, List.map_cons, List.map_nil, List.cons_append, List.nil_append, List.length_cons, List.length_nil, List.getElem?_cons_zero, List.getElem?_cons_succ, List.set_cons_zero, List.set_cons_succ, List.foldl_cons, List.foldl_nil, if_true, Nat.zero_add, Bool.not_true, Bool.not_false, Bool.false_eq_true, if_false, and_true, true_and]
    exact ⟨by decide, by decide, hl _ 2 (by decide) fun st => q⟩
  | false =>
    simp only [sRet, sSeq, sIf, sSet, sSetM, sNext, sNever, sExpr, sFrz, sX, sPar2, sPar3, sPars, sFor, sAsg, sAug, sSetI, sMk, sRetN, sBreak, sCont, sRetDeal, sFldI, dAndV, dOrV, dNotV, dFn, dFnL, dFnK, dChain, dCB, dCons, dNil, dVarB, dVar, dLit, dOp, dUn, dIf, dB, dNotT, dAndT, dOrT, dYes, dTup, dLst, dSl, dPart, dNoP, dRev, dJoin, dFldC, dMake, dLc, iA, iE, iR1, iR2, vNil, vE, vF, xMut, xMut2E, xE, gdName, gdTup, gdCons, gdNil, gLen, gLt, gLe, gGt, gGe, gCmp, gSl, gSlL, gIx, gI, gIc, gAdd, gLL, gTuple, gList, gInt, gAbs, gAppend, gInsert, gNeg, gIsT, gIsNotT, isi_tup, DL.ne_int, DL.eq_int, DL.eq_str, DL.ne_str, at_0, at_1, at_2, at_3, seqItems, lItems, DL.isNon, endsD, endsM, endsI, setAllD, wipeD, DSt.set, kgG, List.map_cons, List.map_nil, List.cons_append, List.nil_append, List.length_cons, List.length_nil, List.getElem?_cons_zero, List.getElem?_cons_succ, List.set_cons_zero, List.set_cons_succ, List.foldl_cons, List.foldl_nil, if_true, Nat.zero_add, Bool.not_true, Bool.not_false, Bool.false_eq_true, if_false, and_true, true_and]
    exact ⟨by decide, by decide, hl _ 4 (by decide) fun st => q⟩
theorem law1 {C : Addr} {Q : D → Prop} {a b : Addr} {ns : List Int} {hs : List Str} (h2 : 2 ≤ hs.length) (h6 : hs.length ≤ 6) (hn : ∀ s ∈ hs, nm s) (hr : Rise (hs.map D.str)) (q : Q (.bl true)) :
    w_law1 C (endsD Q fun _ => False) ⟨[.val (.scr ns), .deal, .val (.lst (hs.map D.str)), .no, .no, .no, .no, .no, .no, .no], some (a, b)⟩ := by
  unfold w_law1
  have h := fun (t : Told) ok => law2 (C := C) (Q := Q) (a := a) (b := b) (ns := ns) (s2 := .val (.lst (hs.map D.str))) (t := t) ok q
  show sSeq _ (w_law2 C) _ _
  generalize w_law2 C = R at h ⊢
  simp only [sp_law_draw, drawN, sRet, sSeq, sIf, sSet, sSetM, sNext, sNever, sExpr, sFrz, sX, sPar2, sPar3, sPars, sFor, sAsg, sAug, sSetI, sMk, sRetN, sBreak, sCont, sRetDeal, sFldI, dAndV, dOrV, dNotV, dFn, dFnL, dFnK, dChain, dCB, dCons, dNil, dVarB, dVar, dLit, dOp, dUn, dIf, dB, dNotT, dAndT, dOrT, dYes, dTup, dLst, dSl, dPart, dNoP, dRev, dJoin, dFldC, dMake, dLc, iA, iE, iR1, iR2, vNil, vE, vF, xMut, xMut2E, xE, gdName, gdTup, gdCons, gdNil, gLen, gLt, gLe, gGt, gGe, gCmp, gSl, gSlL, gIx, gI, gIc, gAdd, gLL, gTuple, gList, gInt, gAbs, gAppend, gInsert, gNeg, gIsT, gIsNotT, isi_tup, DL.ne_int, DL.eq_int, DL.eq_str, DL.ne_str, at_0, at_1, at_2, at_3, seqItems, lItems, DL.isNon, endsD, endsM, endsI, setAllD, wipeD, DSt.set, kgG, List.map_cons, List.map_nil, List.cons_append, List.nil_append, List.length_cons, List.length_nil, List.getElem?_cons_zero, List.getElem?_cons_succ, List.set_cons_zero, List.set_cons_succ, List.foldl_cons, List.foldl_nil, if_true, Nat.zero_add, Bool.not_true, Bool.not_false, Bool.false_eq_true, if_false, and_true, true_and]
  refine ⟨by decide, eq_nilL (cut_ok ns _ _) ?_⟩
  cases (cutG (ns.map D.int) (some 1) none).isEmpty with
  | true =>
    simp only [sRet, sSeq, sIf, sSet, sSetM, sNext, sNever, sExpr, sFrz, sX, sPar2, sPar3, sPars, sFor, sAsg, sAug, sSetI, sMk, sRetN, sBreak, sCont, sRetDeal, sFldI, dAndV, dOrV, dNotV, dFn, dFnL, dFnK, dChain, dCB, dCons, dNil, dVarB, dVar, dLit, dOp, dUn, dIf, dB, dNotT, dAndT, dOrT, dYes, dTup, dLst, dSl, dPart, dNoP, dRev, dJoin, dFldC, dMake, dLc, iA, iE, iR1, iR2, vNil, vE, vF, xMut, xMut2E, xE, gdName, gdTup, gdCons, gdNil, gLen, gLt, gLe, gGt, gGe, gCmp, gSl, gSlL, gIx, gI, gIc, gAdd, gLL, gTuple, gList, gInt, gAbs, gAppend, gInsert, gNeg, gIsT, gIsNotT, isi_tup, DL.ne_int, DL.eq_int, DL.eq_str, DL.ne_str, at_0, at_1, at_2, at_3, seqItems, lItems, DL.isNon, endsD, endsM, endsI, setAllD, wipeD, DSt.set, kgG, List.map_cons, List.map_nil, List.cons_append, List.nil_append, List.length_cons, List.length_nil, List.getElem?_cons_zero, List.getElem?_cons_succ, List.set_cons_zero, List.set_cons_succ, List.foldl_cons, List.foldl_nil, if_true, Nat.zero_add, Bool.not_true, Bool.not_false, Bool.false_eq_true, if_false, and_true, true_and]
    refine ⟨_, rfl, by decide, by decide, fun v v0 v1 => ?_⟩
    obtain ⟨m, rfl⟩ := Int.eq_ofNat_of_zero_le v0
    exact ⟨hs, 1 + m, by rw [Int.natCast_add]; rfl, h2, h6, hn, hr, by omega, by omega, h⟩
  | false =>
    simp only [sRet, sSeq, sIf, sSet, sSetM, sNext, sNever, sExpr, sFrz, sX, sPar2, sPar3, sPars, sFor, sAsg, sAug, sSetI, sMk, sRetN, sBreak, sCont, sRetDeal, sFldI, dAndV, dOrV, dNotV, dFn, dFnL, dFnK, dChain, dCB, dCons, dNil, dVarB, dVar, dLit, dOp, dUn, dIf, dB, dNotT, dAndT, dOrT, dYes, dTup, dLst, dSl, dPart, dNoP, dRev, dJoin, dFldC, dMake, dLc, iA, iE, iR1, iR2, vNil, vE, vF, xMut, xMut2E, xE, gdName, gdTup, gdCons, gdNil, gLen, gLt, gLe, gGt, gGe, gCmp, gSl, gSlL, gIx, gI, gIc, gAdd, gLL, gTuple, gList, gInt, gAbs, gAppend, gInsert, gNeg, gIsT, gIsNotT, isi_tup, DL.ne_int, DL.eq_int, DL.eq_str, DL.ne_str, at_0, at_1, at_2, at_3, seqItems, lItems, DL.isNon, endsD, endsM, endsI, setAllD, wipeD, DSt.set, kgG, List.map_cons, List.map_nil, List.cons_append, List.nil_append, List.length_cons, List.length_nil, List.getElem?_cons_zero, List.getElem?_cons_succ, List.set_cons_zero, List.set_cons_succ, List.foldl_cons, List.foldl_nil, if_true, Nat.zero_add, Bool.not_true, Bool.not_false, Bool.false_eq_true, if_false, and_true, true_and]
    refine ⟨_, rfl, by decide, by decide, fun v v0 v1 => ?_⟩
    obtain ⟨m, rfl⟩ := Int.eq_ofNat_of_zero_le v0
    exact ⟨hs, 1 + m, by rw [Int.natCast_add]; rfl, h2, h6, hn, hr, by omega, by omega, h⟩
theorem p_law (C : Addr) (ds : List D) (Q : D → Prop) (hl : ds.length = 1) (h : sp_law ds Q) : w_law C (endsD Q fun _ => False) (init 10 ds) := by
  obtain ⟨ns, rfl, q⟩ := h
  rw [i_law]
  have h1 := fun (a b : Addr) (hs : List Str) h2 h6 hn hr => law1 (C := C) (Q := Q) (a := a) (b := b) (ns := ns) (hs := hs) h2 h6 hn hr q
  unfold w_law
  show sSeq _ (sSeq _ (w_law1 C)) _ _
  generalize w_law1 C = R at h1 ⊢
  simp only [sp_law_deal, sp_law_pick, sRet, sSeq, sIf, sSet, sSetM, sNext, sNever, sExpr, sFrz, sX, sPar2, sPar3, sPars, sFor, sAsg, sAug, sSetI, sMk, sRetN, sBreak, sCont, sRetDeal, sFldI, dAndV, dOrV, dNotV, dFn, dFnL, dFnK, dChain, dCB, dCons, dNil, dVarB, dVar, dLit, dOp, dUn, dIf, dB, dNotT, dAndT, dOrT, dYes, dTup, dLst, dSl, dPart, dNoP, dRev, dJoin, dFldC, dMake, dLc, iA, iE, iR1, iR2, vNil, vE, vF, xMut, xMut2E, xE, gdName, gdTup, gdCons, gdNil, gLen, gLt, gLe, gGt, gGe, gCmp, gSl, gSlL, gIx, gI, gIc, gAdd, gLL, gTuple, gList, gInt, gAbs, gAppend, gInsert, gNeg, gIsT, gIsNotT, isi_tup, DL.ne_int, DL.eq_int, DL.eq_str, DL.ne_str, at_0, at_1, at_2, at_3, seqItems, lItems, DL.isNon, endsD, endsM, endsI, setAllD, wipeD, DSt.set, kgG, List.map_cons, List.map_nil, List.cons_append, List.nil_append, List.length_cons, List.length_nil, List.getElem?_cons_zero, List.getElem?_cons_succ, List.set_cons_zero, List.set_cons_succ, List.foldl_cons, List.foldl_nil, if_true, Nat.zero_add, Bool.not_true, Bool.not_false, Bool.false_eq_true, if_false, and_true, true_and]
  refine ⟨ns, rfl, fun a b => ?_⟩
  have fin : ∀ n : Nat, 2 ≤ n → n ≤ 6 → sp_law_words [.int n] fun d => gSorted [d] fun d => R (endsD Q fun _ => False) ⟨[.val (.scr ns), .deal, .val d, .no, .no, .no, .no, .no, .no, .no], some (a, b)⟩ := fun n n2 n6 =>
    ⟨n, rfl, by omega, fun ws wl wn wm => sort_strs wn fun hs pl r => h1 a b hs (by rw [pl.length_eq, wl]; exact n2) (by rw [pl.length_eq, wl]; exact n6) (fun s hs => wm s (pl.subset hs)) r⟩
  refine ⟨Nat.zero_le _, eq_nilL (cut_ok ns _ _) ?_⟩
  cases (cutG (ns.map D.int) (some 1) none).isEmpty with
  | true =>
    simp only [sRet, sSeq, sIf, sSet, sSetM, sNext, sNever, sExpr, sFrz, sX, sPar2, sPar3, sPars, sFor, sAsg, sAug, sSetI, sMk, sRetN, sBreak, sCont, sRetDeal, sFldI, dAndV, dOrV, dNotV, dFn, dFnL, dFnK, dChain, dCB, dCons, dNil, dVarB, dVar, dLit, dOp, dUn, dIf, dB, dNotT, dAndT, dOrT, dYes, dTup, dLst, dSl, dPart, dNoP, dRev, dJoin, dFldC, dMake, dLc, iA, iE, iR1, iR2, vNil, vE, vF, xMut, xMut2E, xE, gdName, gdTup, gdCons, gdNil, gLen, gLt, gLe, gGt, gGe, gCmp, gSl, gSlL, gIx, gI, gIc, gAdd, gLL, gTuple, gList, gInt, gAbs, gAppend, gInsert, gNeg, gIsT, gIsNotT, isi_tup, DL.ne_int, DL.eq_int, DL.eq_str, DL.ne_str, at_0, at_1, at_2, at_3, seqItems, lItems, DL.isNon, endsD, endsM, endsI, setAllD, wipeD, DSt.set, kgG, List.map_cons, List.map_nil, List.cons_append, List.nil_append, List.length_cons, List.length_nil, List.getElem?_cons_zero, List.getElem?_cons_succ, List.set_cons_zero, List.set_cons_succ, List.foldl_cons, List.foldl_nil, if_true, Nat.zero_add, Bool.not_true, Bool.not_false, Bool.false_eq_true, if_false, and_true, true_and]
    exact fin 2 (by decide) (by decide)
  | false =>
    simp only [sRet, sSeq, sIf, sSet, sSetM, sNext, sNever, sExpr, sFrz, sX, sPar2, sPar3, sPars, sFor, sAsg, sAug, sSetI, sMk, sRetN, sBreak, sCont, sRetDeal, sFldI, dAndV, dOrV, dNotV, dFn, dFnL, dFnK, dChain, dCB, dCons, dNil, dVarB, dVar, dLit, dOp, dUn, dIf, dB, dNotT, dAndT, dOrT, dYes, dTup, dLst, dSl, dPart, dNoP, dRev, dJoin, dFldC, dMake, dLc, iA, iE, iR1, iR2, vNil, vE, vF, xMut, xMut2E, xE, gdName, gdTup, gdCons, gdNil, gLen, gLt, gLe, gGt, gGe, gCmp, gSl, gSlL, gIx, gI, gIc, gAdd, gLL, gTuple, gList, gInt, gAbs, gAppend, gInsert, gNeg, gIsT, gIsNotT, isi_tup, DL.ne_int, DL.eq_int, DL.eq_str, DL.ne_str, at_0, at_1, at_2, at_3, seqItems, lItems, DL.isNon, endsD, endsM, endsI, setAllD, wipeD, DSt.set, kgG, List.map_cons, List.map_nil, List.cons_append, List.nil_append, List.length_cons, List.length_nil, List.getElem?_cons_zero, List.getElem?_cons_succ, List.set_cons_zero, List.set_cons_succ, List.foldl_cons, List.foldl_nil, if_true, Nat.zero_add, Bool.not_true, Bool.not_false, Bool.false_eq_true, if_false, and_true, true_and]
    refine ⟨by decide, .inl ⟨_, .inl rfl, by simp, by decide, fun x hx => ?_⟩⟩
    have hx' : x = .int 0 ∨ x = .int 1 ∨ x = .int 2 ∨ x = .int 4 := by
      simp only [List.mem_cons, List.not_mem_nil, or_false] at hx
      rcases hx with h | h | h | h | h | h <;> simp [h]
    rcases hx' with rfl | rfl | rfl | rfl
    · exact fin 2 (by decide) (by decide)
    · exact fin 3 (by decide) (by decide)
    · exact fin 4 (by decide) (by decide)
    · exact fin 6 (by decide) (by decide)
end K67

/-! K67: the end (printed by gen.py). -/
namespace K67
open PySem PySem.Spec PyProof.Rows L2 DL
theorem kb_deaf_pair_0_0 (kV doc pm : Value) (an : Option Addr) (cdv ct : Value) (us ws : List Value) (h : (kg_deaf_pair_0_0 us ws).length = 1) :
    bindArgs (PySem.W.fnOf "deaf_pair" "deaf_pair" (defArgs s_deaf_pair) (defBody s_deaf_pair) (defScope s_deaf_pair) .none kV doc pm an cdv ct) ⟨us, (["offices"] : List Str).zip ws⟩ = pure ((["offices"] : List Str).zip (kg_deaf_pair_0_0 us ws)) := by
  obtain ⟨h1, h2⟩ := kgG_len h (by decide)
  match us, ws, h1, h2 with
  | [], [_], _, _ => rfl
theorem kb_ask_known_0_3210 (kV doc pm : Value) (an : Option Addr) (cdv ct : Value) (us ws : List Value) (h : (kg_ask_known_0_3210 us ws).length = 4) :
    bindArgs (PySem.W.fnOf "ask_known" "ask_known" (defArgs s_ask_known) (defBody s_ask_known) (defScope s_ask_known) .none kV doc pm an cdv ct) ⟨us, (["gone", "other", "lot", "offices"] : List Str).zip ws⟩ = pure ((["offices", "lot", "other", "gone"] : List Str).zip (kg_ask_known_0_3210 us ws)) := by
  obtain ⟨h1, h2⟩ := kgG_len h (by decide)
  match us, ws, h1, h2 with
  | [], [_, _, _, _], _, _ => rfl
theorem law_binds {K : PySem.W.Frag} {f : Addr} {fd : FuncData} (F : Fun K "law" "law" s_law f fd) (s : Shared) (v : Value) : BindsTo s fd ⟨[v], []⟩ [("_law_script", v)] := by
  obtain ⟨oc, od, kV, doc, pm, an, cdv, ct, osl, rfl, lk, hcd⟩ := F.ex
  exact .of_eq rfl
theorem facts {P : Program} {w : World} {K : PySem.W.Frag} {h : Heap} {mg : Str → Option Value} {f : Addr} (X : K.In h) (G : h.Ns mainGlobals mg) (hfa : mg ("law" : Str) = some (.ref f)) (c : He.SaysD fa fn K) :
    ∃ fd : FuncData, (∀ (s : Shared) (v : Value), BindsTo s fd ⟨[v], []⟩ [("_law_script", v)]) ∧ ∀ base : Heap, K.In base → base.Ns mainGlobals mg → FnG P w K mg base CX0 8 f fd ["_law_script"] (spD K 1 (nS sp_law)) := by
  obtain ⟨fd_is_text, FD_is_text⟩ := c.def_ 0 (d := dd_is_text) rfl
  have F_is_text : Fun K "is_text" "is_text" s_is_text (He.ga K "is_text") fd_is_text := fun_ofD FD_is_text
  have m_is_text : mg "is_text" = some (.ref (He.ga K "is_text")) := He.glo_ok X G (c.fact 0 (f := .glo "is_text") rfl)
  have b_is_text : Binds K fd_is_text ["value"] [] := F_is_text.binds fun _ _ _ _ _ _ us hl => match us, hl with | [_], _ => rfl
  obtain ⟨fd_is_name, FD_is_name⟩ := c.def_ 1 (d := dd_is_name) rfl
  have F_is_name : Fun K "is_name" "is_name" s_is_name (He.ga K "is_name") fd_is_name := fun_ofD FD_is_name
  have m_is_name : mg "is_name" = some (.ref (He.ga K "is_name")) := He.glo_ok X G (c.fact 1 (f := .glo "is_name") rfl)
  have b_is_name : Binds K fd_is_name ["value"] [] := F_is_name.binds fun _ _ _ _ _ _ us hl => match us, hl with | [_], _ => rfl
  obtain ⟨fd_is_lot, FD_is_lot⟩ := c.def_ 2 (d := dd_is_lot) rfl
  have F_is_lot : Fun K "is_lot" "is_lot" s_is_lot (He.ga K "is_lot") fd_is_lot := fun_ofD FD_is_lot
  have m_is_lot : mg "is_lot" = some (.ref (He.ga K "is_lot")) := He.glo_ok X G (c.fact 2 (f := .glo "is_lot") rfl)
  have b_is_lot : Binds K fd_is_lot ["value"] [] := F_is_lot.binds fun _ _ _ _ _ _ us hl => match us, hl with | [_], _ => rfl
  obtain ⟨fd_lot_within, FD_lot_within⟩ := c.def_ 3 (d := dd_lot_within) rfl
  have F_lot_within : Fun K "lot_within" "lot_within" s_lot_within (He.ga K "lot_within") fd_lot_within := fun_ofD FD_lot_within
  have m_lot_within : mg "lot_within" = some (.ref (He.ga K "lot_within")) := He.glo_ok X G (c.fact 3 (f := .glo "lot_within") rfl)
  have b_lot_within : Binds K fd_lot_within ["one", "other"] [] := F_lot_within.binds fun _ _ _ _ _ _ us hl => match us, hl with | [_, _], _ => rfl
  obtain ⟨fd_place_within, FD_place_within⟩ := c.def_ 4 (d := dd_place_within) rfl
  have F_place_within : Fun K "place_within" "place_within" s_place_within (He.ga K "place_within") fd_place_within := fun_ofD FD_place_within
  have m_place_within : mg "place_within" = some (.ref (He.ga K "place_within")) := He.glo_ok X G (c.fact 4 (f := .glo "place_within") rfl)
  have b_place_within : Binds K fd_place_within ["lots"] [] := F_place_within.binds fun _ _ _ _ _ _ us hl => match us, hl with | [_], _ => rfl
  obtain ⟨fd_rise_all, FD_rise_all⟩ := c.def_ 5 (d := dd_rise_all) rfl
  have F_rise_all : Fun K "rise_all" "rise_all" s_rise_all (He.ga K "rise_all") fd_rise_all := fun_ofD FD_rise_all
  have m_rise_all : mg "rise_all" = some (.ref (He.ga K "rise_all")) := He.glo_ok X G (c.fact 5 (f := .glo "rise_all") rfl)
  have b_rise_all : Binds K fd_rise_all ["things"] [] := F_rise_all.binds fun _ _ _ _ _ _ us hl => match us, hl with | [_], _ => rfl
  obtain ⟨fd_are_tells, FD_are_tells⟩ := c.def_ 6 (d := dd_are_tells) rfl
  have F_are_tells : Fun K "are_tells" "are_tells" s_are_tells (He.ga K "are_tells") fd_are_tells := fun_ofD FD_are_tells
  have m_are_tells : mg "are_tells" = some (.ref (He.ga K "are_tells")) := He.glo_ok X G (c.fact 6 (f := .glo "are_tells") rfl)
  have b_are_tells : Binds K fd_are_tells ["value", "names"] [] := F_are_tells.binds fun _ _ _ _ _ _ us hl => match us, hl with | [_, _], _ => rfl
  obtain ⟨fd_are_counters, FD_are_counters⟩ := c.def_ 7 (d := dd_are_counters) rfl
  have F_are_counters : Fun K "are_counters" "are_counters" s_are_counters (He.ga K "are_counters") fd_are_counters := fun_ofD FD_are_counters
  have m_are_counters : mg "are_counters" = some (.ref (He.ga K "are_counters")) := He.glo_ok X G (c.fact 7 (f := .glo "are_counters") rfl)
  have b_are_counters : Binds K fd_are_counters ["value", "names"] [] := F_are_counters.binds fun _ _ _ _ _ _ us hl => match us, hl with | [_, _], _ => rfl
  obtain ⟨fd_are_hand_counters, FD_are_hand_counters⟩ := c.def_ 8 (d := dd_are_hand_counters) rfl
  have F_are_hand_counters : Fun K "are_hand_counters" "are_hand_counters" s_are_hand_counters (He.ga K "are_hand_counters") fd_are_hand_counters := fun_ofD FD_are_hand_counters
  have m_are_hand_counters : mg "are_hand_counters" = some (.ref (He.ga K "are_hand_counters")) := He.glo_ok X G (c.fact 8 (f := .glo "are_hand_counters") rfl)
  have b_are_hand_counters : Binds K fd_are_hand_counters ["value", "names"] [] := F_are_hand_counters.binds fun _ _ _ _ _ _ us hl => match us, hl with | [_, _], _ => rfl
  obtain ⟨fd_are_forgetful, FD_are_forgetful⟩ := c.def_ 9 (d := dd_are_forgetful) rfl
  have F_are_forgetful : Fun K "are_forgetful" "are_forgetful" s_are_forgetful (He.ga K "are_forgetful") fd_are_forgetful := fun_ofD FD_are_forgetful
  have m_are_forgetful : mg "are_forgetful" = some (.ref (He.ga K "are_forgetful")) := He.glo_ok X G (c.fact 9 (f := .glo "are_forgetful") rfl)
  have b_are_forgetful : Binds K fd_are_forgetful ["value", "names"] [] := F_are_forgetful.binds fun _ _ _ _ _ _ us hl => match us, hl with | [_, _], _ => rfl
  obtain ⟨fd_Offices_init, FD_Offices_init⟩ := c.def_ 10 (d := dd_Offices_init) rfl
  have F_Offices_init : Fun K "__init__" "Offices.__init__" s_Offices_init (He.ma K (He.ga K "Offices") "__init__") fd_Offices_init := fun_ofD FD_Offices_init
  have b_Offices_init : Binds K fd_Offices_init ["self", "names", "tells", "counters", "forgets"] [] := F_Offices_init.binds fun _ _ _ _ _ _ us hl => match us, hl with | [_, _, _, _, _], _ => rfl
  obtain ⟨fd_office_hears, FD_office_hears⟩ := c.def_ 11 (d := dd_office_hears) rfl
  have F_office_hears : Fun K "office_hears" "office_hears" s_office_hears (He.ga K "office_hears") fd_office_hears := fun_ofD FD_office_hears
  have m_office_hears : mg "office_hears" = some (.ref (He.ga K "office_hears")) := He.glo_ok X G (c.fact 10 (f := .glo "office_hears") rfl)
  have b_office_hears : Binds K fd_office_hears ["offices", "lot", "office", "gone"] [] := F_office_hears.binds fun _ _ _ _ _ _ us hl => match us, hl with | [_, _, _, _], _ => rfl
  obtain ⟨fd_ask_known, FD_ask_known⟩ := c.def_ 12 (d := dd_ask_known) rfl
  have F_ask_known : Fun K "ask_known" "ask_known" s_ask_known (He.ga K "ask_known") fd_ask_known := fun_ofD FD_ask_known
  have m_ask_known : mg "ask_known" = some (.ref (He.ga K "ask_known")) := He.glo_ok X G (c.fact 11 (f := .glo "ask_known") rfl)
  have b_ask_known : Binds K fd_ask_known ["offices", "lot", "other", "gone"] [] := F_ask_known.binds fun _ _ _ _ _ _ us hl => match us, hl with | [_, _, _, _], _ => rfl
  obtain ⟨fd_deaf_to, FD_deaf_to⟩ := c.def_ 13 (d := dd_deaf_to) rfl
  have F_deaf_to : Fun K "deaf_to" "deaf_to" s_deaf_to (He.ga K "deaf_to") fd_deaf_to := fun_ofD FD_deaf_to
  have m_deaf_to : mg "deaf_to" = some (.ref (He.ga K "deaf_to")) := He.glo_ok X G (c.fact 12 (f := .glo "deaf_to") rfl)
  have b_deaf_to : Binds K fd_deaf_to ["offices", "lot", "other"] [] := F_deaf_to.binds fun _ _ _ _ _ _ us hl => match us, hl with | [_, _, _], _ => rfl
  obtain ⟨fd_deaf_pair, FD_deaf_pair⟩ := c.def_ 14 (d := dd_deaf_pair) rfl
  have F_deaf_pair : Fun K "deaf_pair" "deaf_pair" s_deaf_pair (He.ga K "deaf_pair") fd_deaf_pair := fun_ofD FD_deaf_pair
  have m_deaf_pair : mg "deaf_pair" = some (.ref (He.ga K "deaf_pair")) := He.glo_ok X G (c.fact 13 (f := .glo "deaf_pair") rfl)
  have b_deaf_pair : Binds K fd_deaf_pair ["offices"] [] := F_deaf_pair.binds fun _ _ _ _ _ _ us hl => match us, hl with | [_], _ => rfl
  obtain ⟨fd_law_deal, FD_law_deal⟩ := c.def_ 15 (d := dd_law_deal) rfl
  have F_law_deal : Fun K "_law_deal" "_law_deal" s_law_deal (He.ga K "_law_deal") fd_law_deal := fun_ofD FD_law_deal
  have m_law_deal : mg "_law_deal" = some (.ref (He.ga K "_law_deal")) := He.glo_ok X G (c.fact 14 (f := .glo "_law_deal") rfl)
  have b_law_deal : Binds K fd_law_deal ["_law_script"] [] := F_law_deal.binds fun _ _ _ _ _ _ us hl => match us, hl with | [_], _ => rfl
  obtain ⟨fd_law_draw, FD_law_draw⟩ := c.def_ 16 (d := dd_law_draw) rfl
  have F_law_draw : Fun K "_law_draw" "_law_draw" s_law_draw (He.ga K "_law_draw") fd_law_draw := fun_ofD FD_law_draw
  have m_law_draw : mg "_law_draw" = some (.ref (He.ga K "_law_draw")) := He.glo_ok X G (c.fact 15 (f := .glo "_law_draw") rfl)
  have b_law_draw : Binds K fd_law_draw ["_law_deal_here", "_law_bound"] [] := F_law_draw.binds fun _ _ _ _ _ _ us hl => match us, hl with | [_, _], _ => rfl
  obtain ⟨fd_law_pick, FD_law_pick⟩ := c.def_ 17 (d := dd_law_pick) rfl
  have F_law_pick : Fun K "_law_pick" "_law_pick" s_law_pick (He.ga K "_law_pick") fd_law_pick := fun_ofD FD_law_pick
  have m_law_pick : mg "_law_pick" = some (.ref (He.ga K "_law_pick")) := He.glo_ok X G (c.fact 16 (f := .glo "_law_pick") rfl)
  have b_law_pick : Binds K fd_law_pick ["_law_deal_here", "_law_some"] [] := F_law_pick.binds fun _ _ _ _ _ _ us hl => match us, hl with | [_, _], _ => rfl
  obtain ⟨fd_law_mixed, FD_law_mixed⟩ := c.def_ 18 (d := dd_law_mixed) rfl
  have F_law_mixed : Fun K "_law_mixed" "_law_mixed" s_law_mixed (He.ga K "_law_mixed") fd_law_mixed := fun_ofD FD_law_mixed
  have m_law_mixed : mg "_law_mixed" = some (.ref (He.ga K "_law_mixed")) := He.glo_ok X G (c.fact 17 (f := .glo "_law_mixed") rfl)
  have b_law_mixed : Binds K fd_law_mixed ["_law_deal_here", "_law_some"] [] := F_law_mixed.binds fun _ _ _ _ _ _ us hl => match us, hl with | [_, _], _ => rfl
  obtain ⟨fd_law_words, FD_law_words⟩ := c.def_ 19 (d := dd_law_words) rfl
  have F_law_words : Fun K "_law_words" "_law_words" s_law_words (He.ga K "_law_words") fd_law_words := fun_ofD FD_law_words
  have m_law_words : mg "_law_words" = some (.ref (He.ga K "_law_words")) := He.glo_ok X G (c.fact 18 (f := .glo "_law_words") rfl)
  have b_law_words : Binds K fd_law_words ["_law_deal_here", "_law_many"] [] := F_law_words.binds fun _ _ _ _ _ _ us hl => match us, hl with | [_, _], _ => rfl
  obtain ⟨fd_law_lot, FD_law_lot⟩ := c.def_ 20 (d := dd_law_lot) rfl
  have F_law_lot : Fun K "_law_lot" "_law_lot" s_law_lot (He.ga K "_law_lot") fd_law_lot := fun_ofD FD_law_lot
  have m_law_lot : mg "_law_lot" = some (.ref (He.ga K "_law_lot")) := He.glo_ok X G (c.fact 19 (f := .glo "_law_lot") rfl)
  have b_law_lot : Binds K fd_law_lot ["_law_deal_here", "_law_names", "_law_least"] [] := F_law_lot.binds fun _ _ _ _ _ _ us hl => match us, hl with | [_, _, _], _ => rfl
  obtain ⟨fd_law_lots_of, FD_law_lots_of⟩ := c.def_ 21 (d := dd_law_lots_of) rfl
  have F_law_lots_of : Fun K "_law_lots_of" "_law_lots_of" s_law_lots_of (He.ga K "_law_lots_of") fd_law_lots_of := fun_ofD FD_law_lots_of
  have m_law_lots_of : mg "_law_lots_of" = some (.ref (He.ga K "_law_lots_of")) := He.glo_ok X G (c.fact 20 (f := .glo "_law_lots_of") rfl)
  have b_law_lots_of : Binds K fd_law_lots_of ["_law_deal_here", "_law_names", "_law_many", "_law_least"] [] := F_law_lots_of.binds fun _ _ _ _ _ _ us hl => match us, hl with | [_, _, _, _], _ => rfl
  obtain ⟨fd_law_greatest, FD_law_greatest⟩ := c.def_ 22 (d := dd_law_greatest) rfl
  have F_law_greatest : Fun K "_law_greatest" "_law_greatest" s_law_greatest (He.ga K "_law_greatest") fd_law_greatest := fun_ofD FD_law_greatest
  have m_law_greatest : mg "_law_greatest" = some (.ref (He.ga K "_law_greatest")) := He.glo_ok X G (c.fact 21 (f := .glo "_law_greatest") rfl)
  have b_law_greatest : Binds K fd_law_greatest ["_law_lots"] [] := F_law_greatest.binds fun _ _ _ _ _ _ us hl => match us, hl with | [_], _ => rfl
  obtain ⟨fd_law_told_offices, FD_law_told_offices⟩ := c.def_ 23 (d := dd_law_told_offices) rfl
  have F_law_told_offices : Fun K "_law_told_offices" "_law_told_offices" s_law_told_offices (He.ga K "_law_told_offices") fd_law_told_offices := fun_ofD FD_law_told_offices
  have m_law_told_offices : mg "_law_told_offices" = some (.ref (He.ga K "_law_told_offices")) := He.glo_ok X G (c.fact 22 (f := .glo "_law_told_offices") rfl)
  have b_law_told_offices : Binds K fd_law_told_offices ["_law_deal_here", "_law_hands", "_law_many"] [] := F_law_told_offices.binds fun _ _ _ _ _ _ us hl => match us, hl with | [_, _, _], _ => rfl
  obtain ⟨fd_law_known, FD_law_known⟩ := c.def_ 24 (d := dd_law_known) rfl
  have F_law_known : Fun K "_law_known" "_law_known" s_law_known (He.ga K "_law_known") fd_law_known := fun_ofD FD_law_known
  have m_law_known : mg "_law_known" = some (.ref (He.ga K "_law_known")) := He.glo_ok X G (c.fact 23 (f := .glo "_law_known") rfl)
  have b_law_known : Binds K fd_law_known ["_law_told", "_law_lot_here", "_law_other", "_law_gone"] [] := F_law_known.binds fun _ _ _ _ _ _ us hl => match us, hl with | [_, _, _, _], _ => rfl
  obtain ⟨fd_law_deaf, FD_law_deaf⟩ := c.def_ 25 (d := dd_law_deaf) rfl
  have F_law_deaf : Fun K "_law_deaf" "_law_deaf" s_law_deaf (He.ga K "_law_deaf") fd_law_deaf := fun_ofD FD_law_deaf
  have m_law_deaf : mg "_law_deaf" = some (.ref (He.ga K "_law_deaf")) := He.glo_ok X G (c.fact 24 (f := .glo "_law_deaf") rfl)
  have b_law_deaf : Binds K fd_law_deaf ["_law_told"] [] := F_law_deaf.binds fun _ _ _ _ _ _ us hl => match us, hl with | [_], _ => rfl
  obtain ⟨fd_law_common, FD_law_common⟩ := c.def_ 26 (d := dd_law_common) rfl
  have F_law_common : Fun K "_law_common" "_law_common" s_law_common (He.ga K "_law_common") fd_law_common := fun_ofD FD_law_common
  have m_law_common : mg "_law_common" = some (.ref (He.ga K "_law_common")) := He.glo_ok X G (c.fact 25 (f := .glo "_law_common") rfl)
  have b_law_common : Binds K fd_law_common ["_law_deal_here", "_law_told"] [] := F_law_common.binds fun _ _ _ _ _ _ us hl => match us, hl with | [_, _], _ => rfl
  obtain ⟨fd_law_pierced, FD_law_pierced⟩ := c.def_ 27 (d := dd_law_pierced) rfl
  have F_law_pierced : Fun K "_law_pierced" "_law_pierced" s_law_pierced (He.ga K "_law_pierced") fd_law_pierced := fun_ofD FD_law_pierced
  have m_law_pierced : mg "_law_pierced" = some (.ref (He.ga K "_law_pierced")) := He.glo_ok X G (c.fact 26 (f := .glo "_law_pierced") rfl)
  have b_law_pierced : Binds K fd_law_pierced ["_law_deal_here", "_law_told"] [] := F_law_pierced.binds fun _ _ _ _ _ _ us hl => match us, hl with | [_, _], _ => rfl
  obtain ⟨fd_law, FD_law⟩ := c.def_ 28 (d := dd_law) rfl
  have F_law : Fun K "law" "law" s_law (He.ga K "law") fd_law := fun_ofD FD_law
  have m_law : mg "law" = some (.ref (He.ga K "law")) := He.glo_ok X G (c.fact 27 (f := .glo "law") rfl)
  have b_law : Binds K fd_law ["_law_script"] [] := F_law.binds fun _ _ _ _ _ _ us hl => match us, hl with | [_], _ => rfl
  have m_Offices : mg "Offices" = some (.ref (He.ga K "Offices")) := He.glo_ok X G (c.fact 28 (f := .glo "Offices") rfl)
  have mk_Offices : Mk K (He.ga K "Offices") (He.ma K (He.ga K "Offices") "__init__") := He.mkr_ok (c.fact 29 (f := .mkr "Offices") rfl)
  have e := hfa.symm.trans m_law
  cases e
  have g : Gf K mg (He.ga K "Offices") := ⟨He.free_ok X G (c.fact 30 (f := .free "abs") rfl),
    He.free_ok X G (c.fact 31 (f := .free "all") rfl),
    He.free_ok X G (c.fact 32 (f := .free "any") rfl),
    He.free_ok X G (c.fact 33 (f := .free "enumerate") rfl),
    He.free_ok X G (c.fact 34 (f := .free "int") rfl),
    He.free_ok X G (c.fact 35 (f := .free "isinstance") rfl),
    He.free_ok X G (c.fact 36 (f := .free "len") rfl),
    He.free_ok X G (c.fact 37 (f := .free "list") rfl),
    He.free_ok X G (c.fact 38 (f := .free "range") rfl),
    He.free_ok X G (c.fact 39 (f := .free "repr") rfl),
    He.free_ok X G (c.fact 40 (f := .free "sorted") rfl),
    He.free_ok X G (c.fact 41 (f := .free "str") rfl),
    He.free_ok X G (c.fact 42 (f := .free "tuple") rfl),
    He.int_ok X G (c.fact 43 (f := .int "FEWEST_OFFICE_HANDS" 2) rfl),
    He.str_ok X G (c.fact 44 (f := .str "LETTERS" "abcdefghijklmnopqrstuvwxyz") rfl),
    He.int_ok X G (c.fact 45 (f := .int "LONGEST" 8) rfl),
    He.int_ok X G (c.fact 46 (f := .int "MOST_OFFICES" 6) rfl),
    He.int_ok X G (c.fact 47 (f := .int "MOST_OFFICE_HANDS" 6) rfl),
    He.cls_ok (c.fact 48 (f := .cls "Offices") rfl),
    He.noat_ok (c.fact 49 (f := .noat "Offices" "counters") rfl),
    He.noat_ok (c.fact 50 (f := .noat "Offices" "forgets") rfl),
    He.noat_ok (c.fact 51 (f := .noat "Offices" "names") rfl),
    He.noat_ok (c.fact 52 (f := .noat "Offices" "tells") rfl)⟩
  refine ⟨fd_law, fun s v => ?_, fun base _ _ => ?_⟩
  · exact law_binds F_law s v
  · have G_is_text : FnG P w K mg base CX0 1 _ fd_is_text ["value"] (spD K 1 (nS sp_is_text)) := okN0 F_is_text sc_is_text rfl (fun ι cdv A outer s H E φ => d_is_text g ι _ cdv A outer s H E φ) (p_is_text)
    have D_is_text : Dd P w K mg base "is_text" 1 1 sp_is_text := ⟨_, _, _, G_is_text, m_is_text, F_is_text.kp, b_is_text, rfl⟩
    have G_is_name : FnG P w K mg base CX0 2 _ fd_is_name ["value"] (spD K 1 (nS sp_is_name)) := okN0 F_is_name sc_is_name rfl (fun ι cdv A outer s H E φ => d_is_name g D_is_text ι _ cdv A outer s H E φ) (p_is_name)
    have D_is_name : Dd P w K mg base "is_name" 2 1 sp_is_name := ⟨_, _, _, G_is_name, m_is_name, F_is_name.kp, b_is_name, rfl⟩
    have G_is_lot : FnG P w K mg base CX0 3 _ fd_is_lot ["value"] (spD K 1 (nS sp_is_lot)) := okN0 F_is_lot sc_is_lot rfl (fun ι cdv A outer s H E φ => d_is_lot g D_is_name ι _ cdv A outer s H E φ) (p_is_lot)
    have D_is_lot : Dd P w K mg base "is_lot" 3 1 sp_is_lot := ⟨_, _, _, G_is_lot, m_is_lot, F_is_lot.kp, b_is_lot, rfl⟩
    have G_lot_within : FnG P w K mg base CX0 1 _ fd_lot_within ["one", "other"] (spD K 2 (nS sp_lot_within)) := okN0 F_lot_within sc_lot_within rfl (fun ι cdv A outer s H E φ => d_lot_within g ι _ cdv A outer s H E φ) (p_lot_within)
    have D_lot_within : Dd P w K mg base "lot_within" 1 2 sp_lot_within := ⟨_, _, _, G_lot_within, m_lot_within, F_lot_within.kp, b_lot_within, rfl⟩
    have G_place_within : FnG P w K mg base CX0 2 _ fd_place_within ["lots"] (spD K 1 (nS sp_place_within)) := okN0 F_place_within sc_place_within rfl (fun ι cdv A outer s H E φ => d_place_within g D_lot_within ι _ cdv A outer s H E φ) (p_place_within)
    have D_place_within : Dd P w K mg base "place_within" 2 1 sp_place_within := ⟨_, _, _, G_place_within, m_place_within, F_place_within.kp, b_place_within, rfl⟩
    have G_rise_all : FnG P w K mg base CX0 1 _ fd_rise_all ["things"] (spD K 1 (nS sp_rise_all)) := okN0 F_rise_all sc_rise_all rfl (fun ι cdv A outer s H E φ => d_rise_all g ι _ cdv A outer s H E φ) (p_rise_all)
    have D_rise_all : Dd P w K mg base "rise_all" 1 1 sp_rise_all := ⟨_, _, _, G_rise_all, m_rise_all, F_rise_all.kp, b_rise_all, rfl⟩
    have G_are_tells : FnG P w K mg base CX0 3 _ fd_are_tells ["value", "names"] (spD K 2 (nS sp_are_tells)) := okN0 F_are_tells sc_are_tells rfl (fun ι cdv A outer s H E φ => d_are_tells g D_is_name D_rise_all ι _ cdv A outer s H E φ) (p_are_tells)
    have D_are_tells : Dd P w K mg base "are_tells" 3 2 sp_are_tells := ⟨_, _, _, G_are_tells, m_are_tells, F_are_tells.kp, b_are_tells, rfl⟩
    have G_are_counters : FnG P w K mg base CX0 4 _ fd_are_counters ["value", "names"] (spD K 2 (nS sp_are_counters)) := okN0 F_are_counters sc_are_counters rfl (fun ι cdv A outer s H E φ => d_are_counters g D_is_lot D_lot_within D_rise_all ι _ cdv A outer s H E φ) (p_are_counters)
    have D_are_counters : Dd P w K mg base "are_counters" 4 2 sp_are_counters := ⟨_, _, _, G_are_counters, m_are_counters, F_are_counters.kp, b_are_counters, rfl⟩
    have G_are_hand_counters : FnG P w K mg base CX0 5 _ fd_are_hand_counters ["value", "names"] (spD K 2 (nS sp_are_hand_counters)) := okN0 F_are_hand_counters sc_are_hand_counters rfl (fun ι cdv A outer s H E φ => d_are_hand_counters g D_is_name D_are_counters D_rise_all ι _ cdv A outer s H E φ) (p_are_hand_counters)
    have D_are_hand_counters : Dd P w K mg base "are_hand_counters" 5 2 sp_are_hand_counters := ⟨_, _, _, G_are_hand_counters, m_are_hand_counters, F_are_hand_counters.kp, b_are_hand_counters, rfl⟩
    have G_are_forgetful : FnG P w K mg base CX0 4 _ fd_are_forgetful ["value", "names"] (spD K 2 (nS sp_are_forgetful)) := okN0 F_are_forgetful sc_are_forgetful rfl (fun ι cdv A outer s H E φ => d_are_forgetful g D_is_lot D_lot_within D_rise_all D_place_within ι _ cdv A outer s H E φ) (p_are_forgetful)
    have D_are_forgetful : Dd P w K mg base "are_forgetful" 4 2 sp_are_forgetful := ⟨_, _, _, G_are_forgetful, m_are_forgetful, F_are_forgetful.kp, b_are_forgetful, rfl⟩
    have D_Offices_init : DdI P w K mg base "Offices" (He.ga K "Offices") 6 5 sp_Offices_init := DdI.mk0 F_Offices_init mk_Offices m_Offices sc_Offices_init b_Offices_init rfl (fun ι cdv A outer s H E φ => d_Offices_init g D_is_lot D_are_tells D_are_hand_counters D_are_forgetful ι _ cdv A outer s H E φ) (p_Offices_init (He.ga K "Offices"))
    have G_office_hears : FnG P w K mg base CX0 1 _ fd_office_hears ["offices", "lot", "office", "gone"] (spD K 4 (nS (sp_office_hears (He.ga K "Offices")))) := okN0 F_office_hears sc_office_hears rfl (fun ι cdv A outer s H E φ => d_office_hears g ι _ cdv A outer s H E φ) (p_office_hears (He.ga K "Offices"))
    have D_office_hears : Dd P w K mg base "office_hears" 1 4 (sp_office_hears (He.ga K "Offices")) := ⟨_, _, _, G_office_hears, m_office_hears, F_office_hears.kp, b_office_hears, rfl⟩
    have G_ask_known : FnG P w K mg base CX0 2 _ fd_ask_known ["offices", "lot", "other", "gone"] (spD K 4 (nS (sp_ask_known (He.ga K "Offices")))) := okN0 F_ask_known sc_ask_known rfl (fun ι cdv A outer s H E φ => d_ask_known g D_office_hears ι _ cdv A outer s H E φ) (p_ask_known (He.ga K "Offices"))
    have D_ask_known : Dd P w K mg base "ask_known" 2 4 (sp_ask_known (He.ga K "Offices")) := ⟨_, _, _, G_ask_known, m_ask_known, F_ask_known.kp, b_ask_known, rfl⟩
    have K_ask_known_0_3210 : DdK P w K mg base "ask_known" 2 4 ["gone", "other", "lot", "offices"] kg_ask_known_0_3210 (sp_ask_known (He.ga K "Offices")) := DdK.of F_ask_known m_ask_known G_ask_known rfl (DL.Fun.kbinds F_ask_known (g := kg_ask_known_0_3210) (gV := kg_ask_known_0_3210) kgG_vals kb_ask_known_0_3210) kgG_perm
    have G_deaf_to : FnG P w K mg base CX0 3 _ fd_deaf_to ["offices", "lot", "other"] (spD K 3 (nS (sp_deaf_to (He.ga K "Offices")))) := okN0 F_deaf_to sc_deaf_to rfl (fun ι cdv A outer s H E φ => d_deaf_to g D_ask_known ι _ cdv A outer s H E φ) (p_deaf_to (He.ga K "Offices"))
    have D_deaf_to : Dd P w K mg base "deaf_to" 3 3 (sp_deaf_to (He.ga K "Offices")) := ⟨_, _, _, G_deaf_to, m_deaf_to, F_deaf_to.kp, b_deaf_to, rfl⟩
    have G_deaf_pair : FnG P w K mg base CX0 4 _ fd_deaf_pair ["offices"] (spD K 1 (nS (sp_deaf_pair (He.ga K "Offices")))) := okN0 F_deaf_pair sc_deaf_pair rfl (fun ι cdv A outer s H E φ => d_deaf_pair g D_deaf_to ι _ cdv A outer s H E φ) (p_deaf_pair (He.ga K "Offices"))
    have D_deaf_pair : Dd P w K mg base "deaf_pair" 4 1 (sp_deaf_pair (He.ga K "Offices")) := ⟨_, _, _, G_deaf_pair, m_deaf_pair, F_deaf_pair.kp, b_deaf_pair, rfl⟩
    have K_deaf_pair_0_0 : DdK P w K mg base "deaf_pair" 4 1 ["offices"] kg_deaf_pair_0_0 (sp_deaf_pair (He.ga K "Offices")) := DdK.of F_deaf_pair m_deaf_pair G_deaf_pair rfl (DL.Fun.kbinds F_deaf_pair (g := kg_deaf_pair_0_0) (gV := kg_deaf_pair_0_0) kgG_vals kb_deaf_pair_0_0) kgG_perm
    have D_law_deal : DdM P w K mg base "_law_deal" 1 1 sp_law_deal := DdM.mk0 F_law_deal m_law_deal sc_law_deal b_law_deal rfl (fun ι cdv A outer s H E φ => d_law_deal g ι _ cdv A outer s H E φ) (p_law_deal)
    have D_law_draw : DdL P w K mg base "_law_draw" 1 2 drawN := draw_fact drawP1 (by decide) (by decide) (by decide) (by decide) (by decide) F_law_draw m_law_draw sc_law_draw b_law_draw rfl rfl fun ι cdv A outer s H E φ => d_law_draw g ι _ cdv A outer s H E φ
    have D_law_pick : DdL P w K mg base "_law_pick" 2 2 sp_law_pick := DdL.mk0 F_law_pick m_law_pick sc_law_pick b_law_pick rfl (fun ι cdv A outer s H E φ => d_law_pick g D_law_draw ι _ cdv A outer s H E φ) (p_law_pick)
    have D_law_mixed : DdL P w K mg base "_law_mixed" 2 2 sp_law_mixed := DdL.mk0 F_law_mixed m_law_mixed sc_law_mixed b_law_mixed rfl (fun ι cdv A outer s H E φ => d_law_mixed g D_law_draw ι _ cdv A outer s H E φ) (p_law_mixed)
    have D_law_words : DdL P w K mg base "_law_words" 3 2 sp_law_words := DdL.mk0 F_law_words m_law_words sc_law_words b_law_words rfl (fun ι cdv A outer s H E φ => d_law_words g D_law_pick D_law_draw D_law_mixed ι _ cdv A outer s H E φ) (p_law_words)
    have D_law_lot : DdL P w K mg base "_law_lot" 3 3 sp_law_lot := DdL.mk0 F_law_lot m_law_lot sc_law_lot b_law_lot rfl (fun ι cdv A outer s H E φ => d_law_lot g D_law_draw D_law_pick ι _ cdv A outer s H E φ) (p_law_lot)
    have D_law_lots_of : DdL P w K mg base "_law_lots_of" 4 4 sp_law_lots_of := DdL.mk0 F_law_lots_of m_law_lots_of sc_law_lots_of b_law_lots_of rfl (fun ι cdv A outer s H E φ => d_law_lots_of g D_law_lot ι _ cdv A outer s H E φ) (p_law_lots_of)
    have G_law_greatest : FnG P w K mg base CX0 1 _ fd_law_greatest ["_law_lots"] (spD K 1 (nS sp_law_greatest)) := okN0 F_law_greatest sc_law_greatest rfl (fun ι cdv A outer s H E φ => d_law_greatest g ι _ cdv A outer s H E φ) (p_law_greatest)
    have D_law_greatest : Dd P w K mg base "_law_greatest" 1 1 sp_law_greatest := ⟨_, _, _, G_law_greatest, m_law_greatest, F_law_greatest.kp, b_law_greatest, rfl⟩
    have D_law_told_offices : DdL P w K mg base "_law_told_offices" 5 3 sp_law_told_offices := DdL.mk0 F_law_told_offices m_law_told_offices sc_law_told_offices b_law_told_offices rfl (fun ι cdv A outer s H E φ => d_law_told_offices g D_law_words D_law_draw D_law_lots_of D_law_greatest ι _ cdv A outer s H E φ) (p_law_told_offices)
    have G_law_known : FnG P w K mg base CX0 1 _ fd_law_known ["_law_told", "_law_lot_here", "_law_other", "_law_gone"] (spD K 4 (nS sp_law_known)) := okN0 F_law_known sc_law_known rfl (fun ι cdv A outer s H E φ => d_law_known g ι _ cdv A outer s H E φ) (p_law_known)
    have D_law_known : Dd P w K mg base "_law_known" 1 4 sp_law_known := ⟨_, _, _, G_law_known, m_law_known, F_law_known.kp, b_law_known, rfl⟩
    have G_law_deaf : FnG P w K mg base CX0 2 _ fd_law_deaf ["_law_told"] (spD K 1 (nS sp_law_deaf)) := okN0 F_law_deaf sc_law_deaf rfl (fun ι cdv A outer s H E φ => d_law_deaf g D_law_known ι _ cdv A outer s H E φ) (p_law_deaf)
    have D_law_deaf : Dd P w K mg base "_law_deaf" 2 1 sp_law_deaf := ⟨_, _, _, G_law_deaf, m_law_deaf, F_law_deaf.kp, b_law_deaf, rfl⟩
    have D_law_common : DdL P w K mg base "_law_common" 3 2 sp_law_common := DdL.mk0 F_law_common m_law_common sc_law_common b_law_common rfl (fun ι cdv A outer s H E φ => d_law_common g D_law_pick D_law_draw ι _ cdv A outer s H E φ) (p_law_common)
    have D_law_pierced : DdL P w K mg base "_law_pierced" 3 2 sp_law_pierced := DdL.mk0 F_law_pierced m_law_pierced sc_law_pierced b_law_pierced rfl (fun ι cdv A outer s H E φ => d_law_pierced g D_law_draw D_law_pick ι _ cdv A outer s H E φ) (p_law_pierced)
    exact okN0 F_law sc_law rfl (fun ι cdv A outer s H E φ => d_law g D_law_deal D_law_pick D_law_words D_law_draw D_law_told_offices D_Offices_init K_deaf_pair_0_0 D_law_deaf D_law_lot D_ask_known D_law_known K_ask_known_0_3210 D_law_common D_law_pierced ι _ cdv A outer s H E φ) (p_law (He.ga K "Offices"))
end K67
open PySem PySem.W PySem.Calls PyProof.Rows
theorem PySem.Challenge.cw_boundorvoid_k67_what_is_known_at_counter_holds : PySem.Challenge.rw_boundorvoid_k67_what_is_known_at_counter.Holds := by
  w_on; o_law
  refine HandSHeadRun.head_any (r := OpenLaw.row PySem.Challenge.rw_boundorvoid_k67_what_is_known_at_counter) (q := view (OpenLaw.row PySem.Challenge.rw_boundorvoid_k67_what_is_known_at_counter).prog [40]) (H := K67.hk) (ob := K67.ob) (M := 4000) (loose := K67.loose) (d := HandSHeadRun.topDef (OpenLaw.row PySem.Challenge.rw_boundorvoid_k67_what_is_known_at_counter).prog 40) (kwd := []) K67.ob_eq
    (by kernel_rfl) (fun s => by kernel_rfl) K67.run (by kernel_rfl) (by kernel_rfl) (by kernel_rfl) (by rfl) (by first | assumption | decide +kernel) (by decide +kernel) ⟨rfl, rfl, rfl, rfl, rfl, by decide +kernel⟩ ?hw ?hc
  case hw => w_witness2
  case hc =>
    refine DL.end_walk (l := PySem.Challenge.rw_boundorvoid_k67_what_is_known_at_counter) (n := 63) (k := 8) (x := "_law_script") rfl (by decide) (by kernel_rfl) ⟨rfl, by decide, by decide⟩ ?F
    intro w mg fa h Y G hmg0
    obtain ⟨K, KX, c⟩ := Y
    have hmg : mg ("law" : PySem.Str) = some (.ref fa) := by
      have e : (HandSHeadRun.topDef (OpenLaw.row PySem.Challenge.rw_boundorvoid_k67_what_is_known_at_counter).prog 40).name = ("law" : PySem.Str) := by kernel_rfl
      rw [← e]
      exact hmg0
    obtain ⟨fd, hb, hF⟩ := K67.facts (P := (PySem.Challenge.rw_boundorvoid_k67_what_is_known_at_counter).prog) (w := w) KX G hmg c
    exact ⟨K, fd, DL.spD K 1 (DL.nS K67.sp_law), KX, hb, fun H a ns hl hO hS => DL.sp_script hO hS (K67.sp_law_script ns hl), hF⟩

