import PyProof.Rows.All
import Wide.All
import OpenK.AllK
import Wide.FinOn
import HandS.ForMost
import HandS.ForExc
import HandS.Lambda
import HandS.ExcInit
import HandS.ExcIs
import HandS.IsInst
import HandS.CallSlots
import HandS.Defaults
import HandS.Walk
import HandS.Wide
import HandS.RaiseMore
import HandS.Gcd
import HandS.TupAny
import HandS.TupMul
import HandS.Deep
import HandS.Codes
import KE.KExcIs
import HandS.ExcField
import HandS.ExcValue
import HandS.EndBits
import HandS.Zip
import HandS.Text
import HandS.Dict
import PySem.Challenge.RW_whoeverrules_k53_members_for_shares
set_option Elab.async false
set_option linter.all false
set_option maxRecDepth 100000
set_option maxHeartbeats 4000000
/-! Md0: data, slots, results; what a state says of them; the step relation. -/
namespace Md
open PySem PySem.Spec PyProof.Rows L2

/-- immutable data -/
inductive D where
  | non | bl (b : Bool) | int (i : Int) | str (x : Str)
  | tup (ds : List D) | lst (ds : List D)
  | ins (c : Nat) (fs : List (Str × D)) | exc (c : Nat) (fs : List (Str × D))
  | dk (kvs : List (Key × D))
  /-- the script -/
  | scr (ns : List Int)
  /-- the thunk that the def was handed -/
  | fn
  deriving Inhabited
/-- the content of an object that a def owns -/
inductive OO where
  | lst (xs : List D) | ins (c : Nat) (fs : List (Str × D)) | dk (kvs : List (Key × D))
/-- a slot: nothing known, data, a local object, an object that the caller handed in to be changed -/
inductive Slot where
  | unk | dat (d : D) | own (o : OO) | io (o : OO)
def Slot.obj : Slot → Option OO
  | .own o => some o
  | .io o => some o
  | _ => none
abbrev En := List Slot
/-- a result: none known (stuck), a value, an error -/
inductive R (α : Type) where
  | no | ok (a : α) (e : En) | ex (c : Nat) (fs : List (Str × D)) (e : En)
abbrev M (α : Type) := En → R α
def R.bind {α β : Type} (r : R α) (k : α → En → R β) : R β := match r with
  | .no => .no
  | .ok a e => k a e
  | .ex c fs e => .ex c fs e
/-- a statement's end -/
inductive O where
  | no | nx (e : En) | rt (d : D) (e : En) | bk (e : En) | ct (e : En) | ex (c : Nat) (fs : List (Str × D)) (e : En)
abbrev MS := En → O
def R.toO {α : Type} (r : R α) (k : α → En → O) : O := match r with
  | .no => .no
  | .ok a e => k a e
  | .ex c fs e => .ex c fs e

/-- the law's world: where the classes stand, the written part, the tables of code objects -/
structure Wd where
  CL : Nat → Addr
  K : PySem.W.Frag
  T : List (Addr × Str)
  /-- the thunk: its place, the data when it was made, its code object and that one's name -/
  fn : Option (Addr × Hp × Addr × Str) := none

/-- an exception object, its class and its dict -/
def ExcO (cls : Value) (d : Option Addr) (a : Addr) : HO := .ext fun h => ∃ (oe : Obj) (vs : Array Value), h.get? a = some oe ∧ Zc cls d oe ∧ oe.data = .fields vs
theorem excO_ok {P : Program} {w : World} {H : Hp} {h : Heap} {a : Addr} {cls : Value} {d : Option Addr} {oe : Obj} {vs : Array Value} (e : h.get? a = some oe) (z : Zc cls d oe) (hd : oe.data = .fields vs) : ObjOk P w H h a (ExcO cls d a) :=
  ⟨⟨oe, vs, e, z, hd⟩, ⟨oe, e⟩, fun _ _ ⟨o, v, q, r⟩ k => ⟨o, v, k o q, r⟩⟩

/-- all that H tracks stands in H' -/
def Ex (H H' : Hp) : Prop := ∀ a o, H a = some o → H' a = some o
section
variable (Z : Wd) (F : Hp)
mutual
/-- in F, v stands for d -/
inductive RD : V → D → Prop where
  | non : RD .non .non
  | bl (b : Bool) : RD (.bl b) (.bl b)
  | int (i : Int) : RD (.int i) (.int i)
  | str (x : Str) : RD (.str x) (.str x)
  | tup {a : Addr} {vs : List V} {ds : List D} (h : SqT Z.K F a vs) (r : RDs vs ds) : RD (.ref a) (.tup ds)
  | lst {a : Addr} {vs : List V} {ds : List D} (h : F a = some (.lst vs)) (r : RDs vs ds) : RD (.ref a) (.lst ds)
  | scr {a : Addr} {ns : List Int} (h : SqL Z.K F a (ns.map V.int)) : RD (.ref a) (.scr ns)
  | ins {a dx : Addr} {c : Nat} {fvs : List (Str × V)} {fs : List (Str × D)} (h : F a = some (.ins (Z.CL c) dx fvs)) (r : RDf fvs fs) : RD (.ref a) (.ins c fs)
  | exc {a dx : Addr} {c : Nat} {fvs : List (Str × V)} {fs : List (Str × D)} (h : F a = some (ExcO (.ref (Z.CL c)) (some dx) a)) (hd : F dx = some (.xd fvs)) (r : RDf fvs fs) : RD (.ref a) (.exc c fs)
  | exc0 {a : Addr} {c : Nat} (h : F a = some (ExcO (.ref (Z.CL c)) none a)) : RD (.ref a) (.exc c [])
  | dk {a : Addr} {kvs : List (Key × V)} {kds : List (Key × D)} (h : F a = some (.dK kvs)) (r : RDk kvs kds) : RD (.ref a) (.dk kds)
  | fn {a c : Addr} {F0 : Hp} {q : Str} (h : Z.fn = some (a, F0, c, q)) (x : Ex F0 F) : RD (.ref a) .fn
inductive RDs : List V → List D → Prop where
  | nil : RDs [] []
  | cons {v : V} {d : D} {vs : List V} {ds : List D} (h : RD v d) (t : RDs vs ds) : RDs (v :: vs) (d :: ds)
inductive RDf : List (Str × V) → List (Str × D) → Prop where
  | nil : RDf [] []
  | cons {x : Str} {v : V} {d : D} {vs : List (Str × V)} {ds : List (Str × D)} (h : RD v d) (t : RDf vs ds) : RDf ((x, v) :: vs) ((x, d) :: ds)
inductive RDk : List (Key × V) → List (Key × D) → Prop where
  | nil : RDk [] []
  | cons {x : Key} {v : V} {d : D} {vs : List (Key × V)} {ds : List (Key × D)} (h : RD v d) (t : RDk vs ds) : RDk ((x, v) :: vs) ((x, d) :: ds)
end
end

theorem Ex.refl (H : Hp) : Ex H H := fun _ _ h => h
theorem Ex.trans {H H1 H2 : Hp} (a : Ex H H1) (b : Ex H1 H2) : Ex H H2 := fun x o h => b x o (a x o h)
theorem Ex.new {H : Hp} {p : Addr} {o : HO} (h : H p = none) : Ex H (upd H p o) := fun a u e => by
  rw [upd_ne (ne_of_none e h)]
  exact e
theorem ex_rd {H H' : Hp} {a : Addr} {u : HO} (e : Ex H H') (h : Rd H a u) : Rd H' a u := by
  rcases h with h | ⟨o, h⟩
  · exact Or.inl (e a _ h)
  · exact Or.inr ⟨o, e a _ h⟩
theorem ex_l {K : PySem.W.Frag} {H H' : Hp} {a : Addr} {xs : List V} (e : Ex H H') (h : SqL K H a xs) : SqL K H' a xs := by
  rcases h with h | h
  · exact Or.inl (ex_rd e h)
  · exact Or.inr h
theorem ex_t {K : PySem.W.Frag} {H H' : Hp} {a : Addr} {xs : List V} (e : Ex H H') (h : SqT K H a xs) : SqT K H' a xs := by
  rcases h with h | h
  · exact Or.inl (ex_rd e h)
  · exact Or.inr h

section
variable {Z : Wd} {F F' : Hp}
mutual
theorem RD.mono (e : Ex F F') : ∀ {v : V} {d : D}, RD Z F v d → RD Z F' v d
  | _, _, .non => .non
  | _, _, .bl b => .bl b
  | _, _, .int i => .int i
  | _, _, .str x => .str x
  | _, _, .tup h r => .tup (ex_t e h) (r.mono e)
  | _, _, .lst h r => .lst (e _ _ h) (r.mono e)
  | _, _, .scr h => .scr (ex_l e h)
  | _, _, .ins h r => .ins (e _ _ h) (r.mono e)
  | _, _, .exc h hd r => .exc (e _ _ h) (e _ _ hd) (r.mono e)
  | _, _, .exc0 h => .exc0 (e _ _ h)
  | _, _, .dk h r => .dk (e _ _ h) (r.mono e)
  | _, _, .fn h x => .fn h (x.trans e)
theorem RDs.mono (e : Ex F F') : ∀ {vs : List V} {ds : List D}, RDs Z F vs ds → RDs Z F' vs ds
  | _, _, .nil => .nil
  | _, _, .cons h t => .cons (h.mono e) (t.mono e)
theorem RDf.mono (e : Ex F F') : ∀ {vs : List (Str × V)} {ds : List (Str × D)}, RDf Z F vs ds → RDf Z F' vs ds
  | _, _, .nil => .nil
  | _, _, .cons h t => .cons (h.mono e) (t.mono e)
theorem RDk.mono (e : Ex F F') : ∀ {vs : List (Key × V)} {ds : List (Key × D)}, RDk Z F vs ds → RDk Z F' vs ds
  | _, _, .nil => .nil
  | _, _, .cons h t => .cons (h.mono e) (t.mono e)
end
theorem RDs.length : ∀ {vs : List V} {ds : List D}, RDs Z F vs ds → vs.length = ds.length
  | _, _, .nil => rfl
  | _, _, .cons _ t => by rw [List.length_cons, List.length_cons, t.length]
theorem RDs.get : ∀ {vs : List V} {ds : List D} {i : Nat} {v : V}, RDs Z F vs ds → vs[i]? = some v → ∃ d, ds[i]? = some d ∧ RD Z F v d
  | _, _, _, _, .nil, e => by simp at e
  | _, _, 0, _, .cons h _, e => by simp at e; subst e; exact ⟨_, rfl, h⟩
  | _, _, i + 1, v, .cons _ t, e => by
    obtain ⟨d, h1, h2⟩ := RDs.get (i := i) (v := v) t (by simpa using e)
    exact ⟨d, by simpa using h1, h2⟩
theorem RDs.getD : ∀ {vs : List V} {ds : List D} {i : Nat} {d : D}, RDs Z F vs ds → ds[i]? = some d → ∃ v, vs[i]? = some v ∧ RD Z F v d
  | _, _, _, _, .nil, e => by simp at e
  | _, _, 0, _, .cons h _, e => by simp at e; subst e; exact ⟨_, rfl, h⟩
  | _, _, i + 1, v, .cons _ t, e => by
    obtain ⟨d, h1, h2⟩ := RDs.getD (i := i) t (by simpa using e)
    exact ⟨d, by simpa using h1, h2⟩
theorem RDs.append : ∀ {vs ws : List V} {ds es : List D}, RDs Z F vs ds → RDs Z F ws es → RDs Z F (vs ++ ws) (ds ++ es)
  | _, _, _, _, .nil, s => s
  | _, _, _, _, .cons h t, s => .cons h (t.append s)
theorem RDs.set {v : V} {d : D} (r : RD Z F v d) : ∀ {vs : List V} {ds : List D} (i : Nat), RDs Z F vs ds → RDs Z F (vs.set i v) (ds.set i d)
  | _, _, _, .nil => .nil
  | _, _, 0, .cons _ t => .cons r t
  | _, _, i + 1, .cons h t => .cons h (RDs.set r i t)
theorem RDs.take : ∀ {vs : List V} {ds : List D} (n : Nat), RDs Z F vs ds → RDs Z F (vs.take n) (ds.take n)
  | _, _, 0, _ => .nil
  | _, _, _ + 1, .nil => .nil
  | _, _, n + 1, .cons h t => .cons h (RDs.take n t)
theorem RDs.drop : ∀ {vs : List V} {ds : List D} (n : Nat), RDs Z F vs ds → RDs Z F (vs.drop n) (ds.drop n)
  | _, _, 0, r => r
  | _, _, _ + 1, .nil => .nil
  | _, _, n + 1, .cons _ t => RDs.drop n t
theorem RDf.lookup : ∀ {vs : List (Str × V)} {ds : List (Str × D)} {x : Str} {d : D}, RDf Z F vs ds → ds.lookup x = some d → ∃ v, vs.lookup x = some v ∧ RD Z F v d
  | _, _, _, _, .nil, e => by simp at e
  | _, _, x, d, .cons (x := y) h t, e => by
    cases hx : x == y with
    | true =>
      simp only [List.lookup_cons, hx] at e ⊢
      cases e
      exact ⟨_, rfl, h⟩
    | false =>
      simp only [List.lookup_cons, hx] at e ⊢
      exact RDf.lookup t e
theorem RDf.lookup_none : ∀ {vs : List (Str × V)} {ds : List (Str × D)} {x : Str}, RDf Z F vs ds → ds.lookup x = none → vs.lookup x = none
  | _, _, _, .nil, _ => rfl
  | _, _, x, .cons (x := y) h t, e => by
    cases hx : x == y with
    | true =>
      simp only [List.lookup_cons, hx] at e
      cases e
    | false =>
      simp only [List.lookup_cons, hx] at e ⊢
      exact RDf.lookup_none t e
theorem RDf.length : ∀ {vs : List (Str × V)} {ds : List (Str × D)}, RDf Z F vs ds → vs.length = ds.length
  | _, _, .nil => rfl
  | _, _, .cons _ t => by rw [List.length_cons, List.length_cons, t.length]
end
/-- fields as data: a field stored -/
def putD (f : Str) (v : D) : List (Str × D) → List (Str × D)
  | [] => [(f, v)]
  | (g, w) :: r => if g = f then (f, v) :: r else (g, w) :: putD f v r

section
variable (Z : Wd)
def OOk (F H : Hp) (a : Addr) : OO → Prop
  | .lst xs => ∃ vs, H a = some (.lst vs) ∧ RDs Z F vs xs
  | .ins c fs => ∃ dx fvs, H a = some (.ins (Z.CL c) dx fvs) ∧ RDf Z F fvs fs
  | .dk kvs => ∃ kvs', H a = some (.dK kvs') ∧ RDk Z F kvs' kvs
/-- what a slot says of its value -/
def SOk (F H : Hp) : Slot → Option V → Prop
  | .unk, _ => True
  | .dat d, o => ∃ v, o = some v ∧ RD Z F v d
  | .own q, o => ∃ a, o = some (.ref a) ∧ F a = none ∧ OOk Z F H a q
  | .io q, o => ∃ a, o = some (.ref a) ∧ F a = none ∧ OOk Z F H a q
/-- the tables of code objects, which are no data; the thunk's code object -/
def TabsZ (F H : Hp) : Prop := LamX.Tabs Z.T H ∧ (∀ p ∈ Z.T, F p.1 = none) ∧ ∀ (a c : Addr) (F0 : Hp) (q : Str), Z.fn = some (a, F0, c, q) → H c = some (LamX.CodeO c q)
structure WF (F H : Hp) (σ : L2.St) (e : En) : Prop where
  sub : Ex F H
  len : σ.length = e.length
  slot : ∀ (i : Nat) (s : Slot) (o : Option V), e[i]? = some s → σ[i]? = some o → SOk Z F H s o
  sep : ∀ (i j : Nat) (a : Addr) (s t : Slot), e[i]? = some s → e[j]? = some t → s.obj.isSome = true → t.obj.isSome = true → σ[i]? = some (some (.ref a)) → σ[j]? = some (some (.ref a)) → i = j
  tabs : TabsZ Z F H
/-- a is the object of a slot -/
def Owns (σ : L2.St) (e : En) (a : Addr) : Prop := ∃ (i : Nat) (s : Slot), e[i]? = some s ∧ s.obj.isSome = true ∧ σ[i]? = some (some (.ref a))
def NT (o : HO) : Prop := ∀ ps, o ≠ .tbl ps
structure Sq (σ : L2.St) (F H : Hp) (e : En) (σ' : L2.St) (F' H' : Hp) (e' : En) : Prop where
  wf : WF Z F' H' σ' e'
  ext : Ex F F'
  frame : ∀ a o, H a = some o → NT o → ¬ Owns σ e a → H' a = some o
  keep : ∀ a, H a ≠ none → H' a ≠ none
  new : ∀ a, F a = none → H a ≠ none → ¬ Owns σ e a → F' a = none
  own : ∀ a, Owns σ' e' a → Owns σ e a ∨ H a = none
  io : ∀ (i : Nat) (q : OO), e[i]? = some (.io q) → (∃ q', e'[i]? = some (.io q')) ∧ σ'[i]? = σ[i]?
end
section
variable {Z : Wd} {σ σ1 σ2 : L2.St} {F F1 F2 H H1 H2 : Hp} {e e1 e2 : En}
theorem Sq.refl (w : WF Z F H σ e) : Sq Z σ F H e σ F H e :=
  ⟨w, Ex.refl F, fun _ _ h _ _ => h, fun _ h => h, fun _ h _ _ => h, fun _ h => .inl h, fun _ q h => ⟨⟨q, h⟩, rfl⟩⟩
theorem Sq.trans (a : Sq Z σ F H e σ1 F1 H1 e1) (b : Sq Z σ1 F1 H1 e1 σ2 F2 H2 e2) : Sq Z σ F H e σ2 F2 H2 e2 where
  wf := b.wf
  ext := a.ext.trans b.ext
  frame := fun c o h nt n => b.frame c o (a.frame c o h nt n) nt fun w => by
    rcases a.own c w with z | z
    · exact n z
    · rw [h] at z; cases z
  keep := fun c h => b.keep c (a.keep c h)
  new := fun c h n no => b.new c (a.new c h n no) (a.keep c n) fun w => by
    rcases a.own c w with z | z
    · exact no z
    · exact n z
  own := fun c w => by
    rcases b.own c w with z | z
    · exact a.own c z
    · refine .inr ?_
      cases q : H c with
      | none => rfl
      | some o => exact absurd z (a.keep c (by rw [q]; simp))
  io := fun i q h => by
    obtain ⟨⟨q1, h1⟩, s1⟩ := a.io i q h
    obtain ⟨h2, s2⟩ := b.io i q1 h1
    exact ⟨h2, s2.trans s1⟩
end
end Md

/-! Md1: what a reading does, said by a function of the slots. -/
namespace Md
open PySem PySem.Spec PyProof.Rows L2
/-! ### growth of the heaps, the slots as they are -/
structure Gr (F H F' H' : Hp) : Prop where
  ext : Ex F F'
  sub : Ex F' H'
  grow : Ex H H'
  new : ∀ a, F a = none → H a ≠ none → F' a = none
theorem Gr.refl {F H : Hp} (s : Ex F H) : Gr F H F H := ⟨Ex.refl F, s, Ex.refl H, fun _ h _ => h⟩
theorem Gr.trans {F H F1 H1 F2 H2 : Hp} (a : Gr F H F1 H1) (b : Gr F1 H1 F2 H2) : Gr F H F2 H2 :=
  ⟨a.ext.trans b.ext, b.sub, a.grow.trans b.grow, fun c h n => b.new c (a.new c h n) (by
    cases q : H c with
    | none => exact absurd q n
    | some o => rw [a.grow c o q]; simp)⟩
theorem ex_upd {F H : Hp} {p : Addr} {o : HO} (s : Ex F H) : Ex (upd F p o) (upd H p o) := fun a u h => by
  by_cases e : a = p
  · subst e; rw [upd_same] at h ⊢; exact h
  · rw [upd_ne e] at h ⊢; exact s a u h
theorem fr_of {F H : Hp} {p : Addr} (s : Ex F H) (h : H p = none) : F p = none := by
  cases q : F p with
  | none => rfl
  | some o => rw [s p o q] at h; cases h
theorem Gr.new1 {F H : Hp} {p : Addr} {o : HO} (s : Ex F H) (h : H p = none) : Gr F H (upd F p o) (upd H p o) :=
  ⟨Ex.new (fr_of s h), ex_upd s, Ex.new h, fun a n m => by
    by_cases e : a = p
    · rw [e] at m; exact absurd h m
    · rw [upd_ne e]; exact n⟩
theorem Gr.new0 {F H : Hp} {p : Addr} {o : HO} (s : Ex F H) (h : H p = none) : Gr F H F (upd H p o) :=
  ⟨Ex.refl F, s.trans (Ex.new h), Ex.new h, fun _ n _ => n⟩
section
variable {Z : Wd}
theorem tabs_ex {F F' H H' : Hp} (Z : Wd) (h : TabsZ Z F H) (k : ∀ a o, H a = some o → H' a = some o) (n : ∀ a, F a = none → H a ≠ none → F' a = none) : TabsZ Z F' H' := ⟨fun p hp => by
  obtain ⟨ps, h1, h2, h3⟩ := h.1 p hp
  exact ⟨ps, k _ _ h1, h2, fun pos cv q => by
    obtain ⟨c, e, z⟩ := h3 pos cv q
    exact ⟨c, e, k _ _ z⟩⟩, fun p hp => n _ (h.2.1 p hp) (by
  obtain ⟨ps, h1, _⟩ := h.1 p hp
  rw [h1]
  simp), fun a c F0 q hq => k _ _ (h.2.2 a c F0 q hq)⟩
theorem OOk.mono {F F' H H' : Hp} {a : Addr} {q : OO} (e : Ex F F') (k : ∀ o, H a = some o → H' a = some o) (h : OOk Z F H a q) : OOk Z F' H' a q := by
  cases q with
  | lst xs => obtain ⟨vs, h1, h2⟩ := h; exact ⟨vs, k _ h1, h2.mono e⟩
  | ins c fs => obtain ⟨dx, fvs, h1, h2⟩ := h; exact ⟨dx, fvs, k _ h1, h2.mono e⟩
  | dk kvs => obtain ⟨kv', h1, h2⟩ := h; exact ⟨kv', k _ h1, h2.mono e⟩
theorem OOk.there {F H : Hp} {a : Addr} {q : OO} (h : OOk Z F H a q) : ∃ o, H a = some o ∧ NT o := by
  cases q with
  | lst xs => obtain ⟨vs, h1, h2⟩ := h; exact ⟨_, h1, fun _ z => by cases z⟩
  | ins c fs => obtain ⟨dx, fvs, h1, h2⟩ := h; exact ⟨_, h1, fun _ z => by cases z⟩
  | dk kvs => obtain ⟨kv', h1, h2⟩ := h; exact ⟨_, h1, fun _ z => by cases z⟩
variable {σ : L2.St} {F H F' H' : Hp} {e : En}
theorem SOk.obj {s : Slot} {o : Option V} (h : SOk Z F H s o) (hs : s.obj.isSome = true) : ∃ a q, s.obj = some q ∧ o = some (.ref a) ∧ F a = none ∧ OOk Z F H a q := by
  cases s with
  | unk => cases hs
  | dat d => cases hs
  | own q => obtain ⟨a, h1, h2, h3⟩ := h; exact ⟨a, q, rfl, h1, h2, h3⟩
  | io q => obtain ⟨a, h1, h2, h3⟩ := h; exact ⟨a, q, rfl, h1, h2, h3⟩
theorem WF.grow (w : WF Z F H σ e) (g : Gr F H F' H') : WF Z F' H' σ e where
  sub := g.sub
  len := w.len
  slot := fun i s o h1 h2 => by
    have q := w.slot i s o h1 h2
    cases s with
    | unk => trivial
    | dat d => obtain ⟨v, h3, h4⟩ := q; exact ⟨v, h3, h4.mono g.ext⟩
    | own p =>
      obtain ⟨a, h3, h4, h5⟩ := q
      obtain ⟨u, h6, _⟩ := h5.there
      exact ⟨a, h3, g.new a h4 (by rw [h6]; simp), h5.mono g.ext (g.grow a)⟩
    | io p =>
      obtain ⟨a, h3, h4, h5⟩ := q
      obtain ⟨u, h6, _⟩ := h5.there
      exact ⟨a, h3, g.new a h4 (by rw [h6]; simp), h5.mono g.ext (g.grow a)⟩
  sep := w.sep
  tabs := tabs_ex _ w.tabs g.grow g.new
theorem Gr.sq (w : WF Z F H σ e) (g : Gr F H F' H') : Sq Z σ F H e σ F' H' e :=
  ⟨w.grow g, g.ext, fun a o h _ _ => g.grow a o h, fun a h => by
    cases q : H a with
    | none => exact absurd q h
    | some o => rw [g.grow a o q]; simp, fun a n m _ => g.new a n m, fun _ h => .inl h, fun _ q h => ⟨⟨q, h⟩, rfl⟩⟩
end
/-! ### steps that leave the slots' kinds -/
def Kd (e e' : En) : Prop := ∀ i : Nat, (e'[i]?).map (fun s => s.obj.isSome) = (e[i]?).map (fun s => s.obj.isSome)
theorem Kd.refl (e : En) : Kd e e := fun _ => rfl
theorem Kd.trans {a b c : En} (h : Kd a b) (k : Kd b c) : Kd a c := fun i => (k i).trans (h i)
theorem Kd.obj {e e' : En} (k : Kd e e') {i : Nat} {s : Slot} (h : e'[i]? = some s) (ho : s.obj.isSome = true) : ∃ t, e[i]? = some t ∧ t.obj.isSome = true := by
  have := k i
  rw [h, Option.map_some, ho] at this
  cases q : e[i]? with
  | none => rw [q] at this; cases this
  | some t => rw [q, Option.map_some] at this; exact ⟨t, rfl, (Option.some.inj this).symm⟩
structure Sx (Z : Wd) (σ : L2.St) (F H : Hp) (e : En) (F' H' : Hp) (e' : En) : Prop extends Sq Z σ F H e σ F' H' e' where
  kd : Kd e e'
section
variable {Z : Wd} {σ : L2.St} {F F1 F2 H H1 H2 : Hp} {e e1 e2 : En}
theorem Sx.refl (w : WF Z F H σ e) : Sx Z σ F H e F H e := ⟨Sq.refl w, Kd.refl e⟩
theorem Sx.trans (a : Sx Z σ F H e F1 H1 e1) (b : Sx Z σ F1 H1 e1 F2 H2 e2) : Sx Z σ F H e F2 H2 e2 := ⟨Sq.trans a.toSq b.toSq, a.kd.trans b.kd⟩
theorem Gr.sx (w : WF Z F H σ e) (g : Gr F H F1 H1) : Sx Z σ F H e F1 H1 e := ⟨g.sq w, Kd.refl e⟩
end
/-! ### results -/
def ExF (Z : Wd) (F : Hp) (d : Option Addr) (fs : List (Str × D)) : Prop := (d = none ∧ fs = []) ∨ ∃ dx fvs, d = some dx ∧ F dx = some (.xd fvs) ∧ RDf Z F fvs fs
section
variable (Z : Wd)
def Post {β : Type} (W : WX) (σ : L2.St) (F H : Hp) (e : En) (r : R β) (B : β → Hp → Hp → Prop) : Prop := match r with
  | .no => False
  | .ok b e' => ∀ F' H', Sx Z σ F H e F' H' e' → B b F' H'
  | .ex c fs e' => ∀ d' F' H', Sx Z σ F H e F' H' e' → ExF Z F' d' fs → W (.ref (Z.CL c)) d' σ H'
def PostS (W : WX) (σ : L2.St) (F H : Hp) (e : En) (o : O) (N : Ends) : Prop := match o with
  | .no => False
  | .nx e' => ∀ σ' F' H', Sq Z σ F H e σ' F' H' e' → N.nx σ' H'
  | .rt d e' => ∀ v σ' F' H', Sq Z σ F H e σ' F' H' e' → RD Z F' v d → N.rt v H'
  | .bk e' => ∀ σ' F' H', Sq Z σ F H e σ' F' H' e' → N.bk σ' H'
  | .ct e' => ∀ σ' F' H', Sq Z σ F H e σ' F' H' e' → N.ct σ' H'
  | .ex c fs e' => ∀ d' σ' F' H', Sq Z σ F H e σ' F' H' e' → ExF Z F' d' fs → W (.ref (Z.CL c)) d' σ' H'
/-- an argument: data, or the object of a slot -/
inductive Ar where
  | d (x : D) | v (i : Nat)
inductive ArOk (F : Hp) (σ : L2.St) : List V → List Ar → Prop where
  | nil : ArOk F σ [] []
  | d {v : V} {x : D} {vs : List V} {as : List Ar} (h : RD Z F v x) (t : ArOk F σ vs as) : ArOk F σ (v :: vs) (.d x :: as)
  | v {v : V} {i : Nat} {vs : List V} {as : List Ar} (h : σ[i]? = some (some v)) (t : ArOk F σ vs as) : ArOk F σ (v :: vs) (.v i :: as)
def EvE (te : TE) (W : WX) (m : M D) : Prop := ∀ (σ : L2.St) (F H : Hp) (e : En), WF Z F H σ e → ∀ Q : VK, Post Z W σ F H e (m e) (fun d F' H' => ∀ v, RD Z F' v d → Q v H') → te σ H Q
def EvT (tt : TT) (W : WX) (m : M Bool) : Prop := ∀ (σ : L2.St) (F H : Hp) (e : En), WF Z F H σ e → ∀ Q : Bool → Hp → Prop, Post Z W σ F H e (m e) (fun b _ H' => Q b H') → tt σ H Q
def EvA (ta : TA) (W : WX) (m : M (List Ar)) : Prop := ∀ (σ : L2.St) (F H : Hp) (e : En), WF Z F H σ e → ∀ Q : List V → Hp → Prop, Post Z W σ F H e (m e) (fun as F' H' => ∀ vs, ArOk Z F' σ vs as → Q vs H') → ta σ H Q
def ExS (ts : TS) (W : WX) (m : MS) : Prop := ∀ (σ : L2.St) (F H : Hp) (e : En), WF Z F H σ e → ∀ N : Ends, PostS Z W σ F H e (m e) N → ts N σ H
variable (X : Cx)
def ME (W : WX) (x : Expr) (m : M D) : Prop := ∃ te, PE X x te ∧ EvE Z te W m
def MT (W : WX) (x : Expr) (m : M Bool) : Prop := ∃ tt, PT X x tt ∧ EvT Z tt W m
def MW (W : WX) (x : Expr) (m : M Bool) : Prop := ∃ tt, PW X x tt ∧ EvT Z tt W m
def LenA (m : M (List Ar)) (n : Nat) : Prop := ∀ e as e', m e = .ok as e' → as.length = n
def MA (W : WX) (xs : List Expr) (m : M (List Ar)) : Prop := ∃ ta, PA X xs ta ∧ EvA Z ta W m ∧ LenA m xs.length
def ML (W : WX) (st : Stmt) (m : MS) : Prop := ∃ ts, PS X st ts ∧ ExS Z ts W m
def MLs (W : WX) (st : List Stmt) (m : MS) : Prop := ∃ ts, PSs X st ts ∧ ExS Z ts W m
end
section
variable {Z : Wd} {W : WX} {σ σ1 : L2.St} {F H F1 H1 : Hp} {e e1 : En}
theorem Post.rebase {β : Type} {r : R β} {B : β → Hp → Hp → Prop} (s : Sx Z σ F H e F1 H1 e1) (h : Post Z W σ F H e r B) : Post Z W σ F1 H1 e1 r B := by
  cases r with
  | no => exact h
  | ok b e' => exact fun F' H' s' => h F' H' (s.trans s')
  | ex c fs e' => exact fun d' F' H' s' => h d' F' H' (s.trans s')
theorem PostS.rebase {o : O} {N : Ends} (s : Sq Z σ F H e σ1 F1 H1 e1) (h : PostS Z W σ F H e o N) : PostS Z W σ1 F1 H1 e1 o N := by
  cases o with
  | no => exact h
  | nx e' => exact fun σ' F' H' s' => h σ' F' H' (s.trans s')
  | rt d e' => exact fun v σ' F' H' s' => h v σ' F' H' (s.trans s')
  | bk e' => exact fun σ' F' H' s' => h σ' F' H' (s.trans s')
  | ct e' => exact fun σ' F' H' s' => h σ' F' H' (s.trans s')
  | ex c fs e' => exact fun d' σ' F' H' s' => h d' σ' F' H' (s.trans s')
theorem EvE.bind {te : TE} {m : M D} (h : EvE Z te W m) (w : WF Z F H σ e) {β : Type} {k : D → En → R β} {B : β → Hp → Hp → Prop} (hp : Post Z W σ F H e ((m e).bind k) B) {Q : VK}
    (c : ∀ d v F1 H1 e1, Sx Z σ F H e F1 H1 e1 → RD Z F1 v d → Post Z W σ F1 H1 e1 (k d e1) B → Q v H1) : te σ H Q := by
  refine h σ F H e w Q ?_
  cases hm : m e with
  | no => rw [hm] at hp; exact hp.elim
  | ok d e1 =>
    rw [hm] at hp
    exact fun F1 H1 s v rd => c d v F1 H1 e1 s rd (Post.rebase s hp)
  | ex c' fs e1 => rw [hm] at hp; exact hp
theorem EvT.bind {tt : TT} {m : M Bool} (h : EvT Z tt W m) (w : WF Z F H σ e) {β : Type} {k : Bool → En → R β} {B : β → Hp → Hp → Prop} (hp : Post Z W σ F H e ((m e).bind k) B) {Q : Bool → Hp → Prop}
    (c : ∀ d F1 H1 e1, Sx Z σ F H e F1 H1 e1 → Post Z W σ F1 H1 e1 (k d e1) B → Q d H1) : tt σ H Q := by
  refine h σ F H e w Q ?_
  cases hm : m e with
  | no => rw [hm] at hp; exact hp.elim
  | ok d e1 =>
    rw [hm] at hp
    exact fun F1 H1 s => c d F1 H1 e1 s (Post.rebase s hp)
  | ex c' fs e1 => rw [hm] at hp; exact hp
theorem EvA.bind {ta : TA} {m : M (List Ar)} (h : EvA Z ta W m) (w : WF Z F H σ e) {β : Type} {k : List Ar → En → R β} {B : β → Hp → Hp → Prop} (hp : Post Z W σ F H e ((m e).bind k) B) {Q : List V → Hp → Prop}
    (c : ∀ as vs F1 H1 e1, Sx Z σ F H e F1 H1 e1 → ArOk Z F1 σ vs as → Post Z W σ F1 H1 e1 (k as e1) B → Q vs H1) : ta σ H Q := by
  refine h σ F H e w Q ?_
  cases hm : m e with
  | no => rw [hm] at hp; exact hp.elim
  | ok d e1 =>
    rw [hm] at hp
    exact fun F1 H1 s vs rd => c d vs F1 H1 e1 s rd (Post.rebase s hp)
  | ex c' fs e1 => rw [hm] at hp; exact hp
theorem EvE.bindS {te : TE} {m : M D} (h : EvE Z te W m) (w : WF Z F H σ e) {k : D → En → O} {N : Ends} (hp : PostS Z W σ F H e ((m e).toO k) N) {Q : VK}
    (c : ∀ d v F1 H1 e1, Sx Z σ F H e F1 H1 e1 → RD Z F1 v d → PostS Z W σ F1 H1 e1 (k d e1) N → Q v H1) : te σ H Q := by
  refine h σ F H e w Q ?_
  cases hm : m e with
  | no => rw [hm] at hp; exact hp.elim
  | ok d e1 =>
    rw [hm] at hp
    exact fun F1 H1 s v rd => c d v F1 H1 e1 s rd (PostS.rebase s.toSq hp)
  | ex c' fs e1 => rw [hm] at hp; exact fun d' F' H' s xf => hp d' σ F' H' s.toSq xf
theorem EvT.bindS {tt : TT} {m : M Bool} (h : EvT Z tt W m) (w : WF Z F H σ e) {k : Bool → En → O} {N : Ends} (hp : PostS Z W σ F H e ((m e).toO k) N) {Q : Bool → Hp → Prop}
    (c : ∀ d F1 H1 e1, Sx Z σ F H e F1 H1 e1 → PostS Z W σ F1 H1 e1 (k d e1) N → Q d H1) : tt σ H Q := by
  refine h σ F H e w Q ?_
  cases hm : m e with
  | no => rw [hm] at hp; exact hp.elim
  | ok d e1 =>
    rw [hm] at hp
    exact fun F1 H1 s => c d F1 H1 e1 s (PostS.rebase s.toSq hp)
  | ex c' fs e1 => rw [hm] at hp; exact fun d' F' H' s xf => hp d' σ F' H' s.toSq xf
theorem Post.here {β : Type} {b : β} {B : β → Hp → Hp → Prop} (w : WF Z F H σ e) (h : Post Z W σ F H e (.ok b e) B) : B b F H := h F H (Sx.refl w)
theorem Post.gr {β : Type} {b : β} {B : β → Hp → Hp → Prop} (w : WF Z F H σ e) (h : Post Z W σ F H e (.ok b e) B) (g : Gr F H F1 H1) : B b F1 H1 := h F1 H1 (g.sx w)
end
/-! ### expressions -/
def cVar (i : Nat) : M D := fun e => match e[i]? with
  | some (.dat d) => .ok d e
  | _ => .no
def cK (d : D) : M D := fun e => .ok d e
def cOp2 (op : D → D → Option D) (a b : M D) : M D := fun e => (a e).bind fun x e1 => (b e1).bind fun y e2 => match op x y with
  | some z => .ok z e2
  | none => .no
def cOp1 (op : D → Option D) (a : M D) : M D := fun e => (a e).bind fun x e1 => match op x with
  | some z => .ok z e1
  | none => .no
def cBool (a : M D) : M Bool := fun e => (a e).bind fun x e1 => match x with
  | .bl b => .ok b e1
  | _ => .no
def cNot (a : M Bool) : M Bool := fun e => (a e).bind fun x e1 => .ok (!x) e1
def cAnd (a b : M Bool) : M Bool := fun e => (a e).bind fun x e1 => if x = true then b e1 else .ok false e1
def cOr (a b : M Bool) : M Bool := fun e => (a e).bind fun x e1 => if x = true then .ok true e1 else b e1
def cNotV (a : M D) : M D := fun e => (a e).bind fun x e1 => match x with
  | .bl b => .ok (.bl (!b)) e1
  | _ => .no
def cAndV (a b : M D) : M D := fun e => (a e).bind fun x e1 => match x with
  | .bl c => if c = true then b e1 else .ok (.bl false) e1
  | _ => .no
def cOrV (a b : M D) : M D := fun e => (a e).bind fun x e1 => match x with
  | .bl c => if c = true then .ok (.bl true) e1 else b e1
  | _ => .no
def cIf (c : M Bool) (a b : M D) : M D := fun e => (c e).bind fun x e1 => if x = true then a e1 else b e1
def cANil : M (List Ar) := fun e => .ok [] e
def cACons (a : M D) (r : M (List Ar)) : M (List Ar) := fun e => (a e).bind fun x e1 => (r e1).bind fun xs e2 => .ok (.d x :: xs) e2
/-- the object of slot i as an argument -/
def cAObj (i : Nat) (r : M (List Ar)) : M (List Ar) := fun e => match e[i]? with
  | some s => if s.obj.isSome = true then (r e).bind fun xs e2 => .ok (.v i :: xs) e2 else .no
  | none => .no
def datas : List Ar → Option (List D)
  | [] => some []
  | .d x :: as => (datas as).map (x :: ·)
  | .v _ :: _ => none
def cTup (a : M (List Ar)) : M D := fun e => (a e).bind fun as e1 => match datas as with
  | some ds => if ds.length ≤ sizeLine then .ok (.tup ds) e1 else .no
  | none => .no
def cLst (a : M (List Ar)) : M D := fun e => (a e).bind fun as e1 => match datas as with
  | some ds => if ds.length ≤ sizeLine then .ok (.lst ds) e1 else .no
  | none => .no
/-- a built-in called on data -/
def cB (op : List D → Option D) (a : M (List Ar)) : M D := fun e => (a e).bind fun as e1 => match (datas as).bind op with
  | some z => .ok z e1
  | none => .no
section
variable {Z : Wd} {W : WX} {X : Cx} {a b c x : Expr} {ma mb : M D} {mt mu : M Bool} {pos : Pos}
theorem datas_ok {σ : L2.St} {F : Hp} : ∀ {vs : List V} {as : List Ar} {ds : List D}, ArOk Z F σ vs as → datas as = some ds → RDs Z F vs ds
  | _, _, _, .nil, h => by cases h; exact .nil
  | _, _, _, .d (as := as) hd t, h => by
    unfold datas at h
    cases q : datas as with
    | none => rw [q] at h; cases h
    | some es => rw [q] at h; cases h; exact .cons hd (datas_ok t q)
  | _, _, _, .v _ _, h => by cases h
theorem me_var {i : Nat} {n : Str} (hN : X.N[i]? = some n) (hv : Vis X.env.scope n) (hd : (n == ("__debug__" : Str)) = false := by decide) (hcd : (n == ("__classdict__" : Str)) = false := by decide) : ME Z X W (.Name n pos) (cVar i) := by
  refine ⟨_, pe_var hN hv hd hcd, fun σ F H e w Q h => ?_⟩
  unfold cVar at h
  cases hs : e[i]? with
  | none => rw [hs] at h; exact h.elim
  | some s =>
    rw [hs] at h
    cases s with
    | dat d =>
      have hl : i < σ.length := by rw [w.len]; exact (List.getElem?_eq_some_iff.mp hs).1
      obtain ⟨v, hv, rd⟩ := w.slot i _ _ hs (List.getElem?_eq_getElem hl)
      exact ⟨v, by rw [List.getElem?_eq_getElem hl, hv], Post.here w h v rd⟩
    | unk => exact h.elim
    | own q => exact h.elim
    | io q => exact h.elim
theorem me_int {i : Int} {j} : ME Z X W (.Constant (.int i) j pos) (cK (.int i)) := ⟨_, pe_int, fun σ F H e w Q h => Post.here w h _ (.int i)⟩
theorem me_bl {i : Bool} {j} : ME Z X W (.Constant (.bool i) j pos) (cK (.bl i)) := ⟨_, pe_bl, fun σ F H e w Q h => Post.here w h _ (.bl i)⟩
theorem me_non {j} : ME Z X W (.Constant .none j pos) (cK .non) := ⟨_, pe_non, fun σ F H e w Q h => Post.here w h _ .non⟩
theorem me_str {i : Str} {j} : ME Z X W (.Constant (.str i) j pos) (cK (.str i)) := ⟨_, pe_str, fun σ F H e w Q h => Post.here w h _ (.str i)⟩
/-- an operator's reading keeps op -/
def Op2 (Z : Wd) (r : R2) (op : D → D → Option D) : Prop := ∀ (F H : Hp) (x y : V) (dx dy dz : D), Ex F H → RD Z F x dx → RD Z F y dy → op dx dy = some dz → ∀ Q : VK, (∀ v F' H', Gr F H F' H' → RD Z F' v dz → Q v H') → r x y H Q
theorem eve_op2 {r : R2} {op : D → D → Option D} {ta tb : TE} (h : Op2 Z r op) (ha : EvE Z ta W ma) (hb : EvE Z tb W mb) : EvE Z (tOp r ta tb) W (cOp2 op ma mb) := fun σ F H e w Q hp =>
  ha.bind w hp fun dx x F1 H1 e1 s1 rx hp1 => hb.bind s1.wf hp1 fun dy y F2 H2 e2 s2 ry hp2 => by
    cases q : op dx dy with
    | none => rw [q] at hp2; exact hp2.elim
    | some dz =>
      rw [q] at hp2
      exact h F2 H2 x y dx dy dz s2.wf.sub (rx.mono s2.ext) ry q Q fun v F' H' g rd => Post.gr s2.wf hp2 g v rd
theorem me_op {r : R2} {op : D → D → Option D} {o : Operator} (ho : OpR X (binaryOp o) r) (h : Op2 Z r op) (ha : ME Z X W a ma) (hb : ME Z X W b mb) : ME Z X W (.BinOp a o b pos) (cOp2 op ma mb) := by
  obtain ⟨ta, pa, ea⟩ := ha
  obtain ⟨tb, pb, eb⟩ := hb
  exact ⟨_, pe_op ho pa pb, eve_op2 h ea eb⟩
theorem me_cmp {r : R2} {op : D → D → Option D} {o : CmpOp} (ho : OpR X (compareOp o) r) (h : Op2 Z r op) (hm : behindInMarks o b = false) (ha : ME Z X W a ma) (hb : ME Z X W b mb) : ME Z X W (.Compare a [o] [b] pos) (cOp2 op ma mb) := by
  obtain ⟨ta, pa, ea⟩ := ha
  obtain ⟨tb, pb, eb⟩ := hb
  exact ⟨_, pe_cmpR ho pa pb hm, eve_op2 h ea eb⟩
theorem evt_test {te : TE} (h : EvE Z te W ma) : EvT Z (tTest te) W (cBool ma) := fun σ F H e w Q hp =>
  h.bind w hp fun d v F1 H1 e1 s1 rd hp1 => by
    cases rd with
    | bl b => exact ⟨b, rfl, Post.here s1.wf hp1⟩
    | _ => exact hp1.elim
theorem evt_b {te : TE} (h : EvE Z te W ma) : EvT Z (tB te) W (cBool ma) := fun σ F H e w Q hp =>
  h.bind w hp fun d v F1 H1 e1 s1 rd hp1 => by
    cases rd with
    | bl b => exact ⟨b, rfl, Post.here s1.wf hp1⟩
    | _ => exact hp1.elim
end
end Md

/-! Md2: tests, displays, calls, defs. -/
namespace Md
open PySem PySem.Spec PyProof.Rows L2
section
variable {Z : Wd} {W : WX} {X : Cx} {a b c x : Expr} {ma mb : M D} {mt mu : M Bool} {pos : Pos}
/-! ### tests -/
theorem evt_not {tt : TT} (h : EvT Z tt W mt) : EvT Z (tNot tt) W (cNot mt) := fun σ F H e w Q hp =>
  h.bind w hp fun b F1 H1 e1 s1 hp1 => Post.here s1.wf hp1
theorem evt_and {tt tu : TT} (h : EvT Z tt W mt) (hu : EvT Z tu W mu) : EvT Z (tAnd tt tu) W (cAnd mt mu) := fun σ F H e w Q hp =>
  h.bind w hp fun b F1 H1 e1 s1 hp1 => by
    cases b with
    | true => exact hu σ F1 H1 e1 s1.wf Q hp1
    | false => exact Post.here s1.wf hp1
theorem evt_or {tt tu : TT} (h : EvT Z tt W mt) (hu : EvT Z tu W mu) : EvT Z (tOr tt tu) W (cOr mt mu) := fun σ F H e w Q hp =>
  h.bind w hp fun b F1 H1 e1 s1 hp1 => by
    cases b with
    | true => exact Post.here s1.wf hp1
    | false => exact hu σ F1 H1 e1 s1.wf Q hp1
theorem mt_val (h : ME Z X W a ma) (hb : ∀ te, PE X a te → PT X a (tB te)) : MT Z X W a (cBool ma) := by
  obtain ⟨te, p, ev⟩ := h
  exact ⟨_, hb te p, evt_b ev⟩
theorem mt_cmp {r : R2} {op : D → D → Option D} {o : CmpOp} (ho : OpR X (compareOp o) r) (h : Op2 Z r op) (hm : behindInMarks o b = false) (ha : ME Z X W a ma) (hb : ME Z X W b mb) : MT Z X W (.Compare a [o] [b] pos) (cBool (cOp2 op ma mb)) := by
  obtain ⟨ta, pa, ea⟩ := ha
  obtain ⟨tb, pb, eb⟩ := hb
  exact ⟨_, pt_cmpR ho pa pb hm, evt_test (eve_op2 h ea eb)⟩
theorem mt_not (h : MT Z X W a mt) : MT Z X W (.UnaryOp .Not a pos) (cNot mt) := by
  obtain ⟨tt, p, ev⟩ := h
  exact ⟨_, pt_not p, evt_not ev⟩
theorem mt_w (h : MW Z X W a mt) (hp : ∀ tt, PW X a tt → PT X a tt) : MT Z X W a mt := by
  obtain ⟨tt, p, ev⟩ := h
  exact ⟨tt, hp tt p, ev⟩
/-! ### values -/
theorem eve_if {tt : TT} {ta tb : TE} (h : EvT Z tt W mt) (ha : EvE Z ta W ma) (hb : EvE Z tb W mb) : EvE Z (tIf tt ta tb) W (cIf mt ma mb) := fun σ F H e w Q hp =>
  h.bind w hp fun b F1 H1 e1 s1 hp1 => by
    cases b with
    | true => exact ha σ F1 H1 e1 s1.wf Q hp1
    | false => exact hb σ F1 H1 e1 s1.wf Q hp1
theorem eve_and {ta tb : TE} (ha : EvE Z ta W ma) (hb : EvE Z tb W mb) : EvE Z (tAndV ta tb) W (cAndV ma mb) := fun σ F H e w Q hp =>
  ha.bind w hp fun d v F1 H1 e1 s1 rd hp1 => by
    cases rd with
    | bl c =>
      refine ⟨c, rfl, ?_⟩
      cases c with
      | true => exact hb σ F1 H1 e1 s1.wf Q hp1
      | false => exact Post.here s1.wf hp1 _ (.bl false)
    | _ => exact hp1.elim
theorem eve_or {ta tb : TE} (ha : EvE Z ta W ma) (hb : EvE Z tb W mb) : EvE Z (tOrV ta tb) W (cOrV ma mb) := fun σ F H e w Q hp =>
  ha.bind w hp fun d v F1 H1 e1 s1 rd hp1 => by
    cases rd with
    | bl c =>
      refine ⟨c, rfl, ?_⟩
      cases c with
      | true => exact Post.here s1.wf hp1 _ (.bl true)
      | false => exact hb σ F1 H1 e1 s1.wf Q hp1
    | _ => exact hp1.elim
theorem eve_not {ta : TE} (ha : EvE Z ta W ma) : EvE Z (tNotV ta) W (cNotV ma) := fun σ F H e w Q hp =>
  ha.bind w hp fun d v F1 H1 e1 s1 rd hp1 => by
    cases rd with
    | bl c => exact ⟨c, rfl, Post.here s1.wf hp1 _ (.bl _)⟩
    | _ => exact hp1.elim
/-- a one-place reading keeps op -/
def Op1 (Z : Wd) (r : V → Hp → VK → Prop) (op : D → Option D) : Prop := ∀ (F H : Hp) (x : V) (dx dz : D), Ex F H → RD Z F x dx → op dx = some dz → ∀ Q : VK, (∀ v F' H', Gr F H F' H' → RD Z F' v dz → Q v H') → r x H Q
theorem eve_op1 {r : V → Hp → VK → Prop} {op : D → Option D} {ta : TE} (h : Op1 Z r op) (ha : EvE Z ta W ma) : EvE Z (tUn r ta) W (cOp1 op ma) := fun σ F H e w Q hp =>
  ha.bind w hp fun dx x F1 H1 e1 s1 rx hp1 => by
    cases q : op dx with
    | none => rw [q] at hp1; exact hp1.elim
    | some dz =>
      rw [q] at hp1
      exact h F1 H1 x dx dz s1.wf.sub rx q Q fun v F' H' g rd => Post.gr s1.wf hp1 g v rd
theorem me_un {r : V → Hp → VK → Prop} {op : D → Option D} {o : UnaryOp} (ho : UnR X (unaryOp o) r) (h : Op1 Z r op) (hp : ∀ te, PE X a te → PE X (.UnaryOp o a pos) (tUn r te)) (ha : ME Z X W a ma) : ME Z X W (.UnaryOp o a pos) (cOp1 op ma) := by
  obtain ⟨ta, pa, ea⟩ := ha
  exact ⟨_, hp _ pa, eve_op1 h ea⟩
theorem me_ifExp (hc : MT Z X W c mt) (ha : ME Z X W a ma) (hb : ME Z X W b mb) : ME Z X W (.IfExp c a b pos) (cIf mt ma mb) := by
  obtain ⟨tt, pt, et⟩ := hc
  obtain ⟨ta, pa, ea⟩ := ha
  obtain ⟨tb, pb, eb⟩ := hb
  exact ⟨_, pe_ifExp pt pa pb, eve_if et ea eb⟩
/-! ### arguments, displays -/
theorem ma_nil : MA Z X W [] cANil := ⟨_, pa_nil, fun σ F H e w Q h => Post.here w h [] .nil, fun _ _ _ h => by cases h; rfl⟩
theorem ArOk.mono {F F' : Hp} {σ : L2.St} (x : Ex F F') : ∀ {vs : List V} {as : List Ar}, ArOk Z F σ vs as → ArOk Z F' σ vs as
  | _, _, .nil => .nil
  | _, _, .d h t => .d (h.mono x) (t.mono x)
  | _, _, .v h t => .v h (t.mono x)
theorem eva_cons {ta : TE} {tr : TA} {mr : M (List Ar)} (ha : EvE Z ta W ma) (hr : EvA Z tr W mr) : EvA Z (tCons ta tr) W (cACons ma mr) := fun σ F H e w Q hp =>
  ha.bind w hp fun d v F1 H1 e1 s1 rd hp1 => hr.bind s1.wf hp1 fun as vs F2 H2 e2 s2 ra hp2 => Post.here s2.wf hp2 _ (.d (rd.mono s2.ext) ra)
theorem ma_cons {es : List Expr} {mr : M (List Ar)} (ha : ME Z X W a ma) (hr : MA Z X W es mr) (hs : starEach (a :: es) X.env = (false, eval a X.env) :: starEach es X.env := by rfl) : MA Z X W (a :: es) (cACons ma mr) := by
  obtain ⟨te, pe, ev⟩ := ha
  obtain ⟨tr, pr, er, lr⟩ := hr
  refine ⟨_, pa_cons pe pr hs, eva_cons ev er, fun e as e' h => ?_⟩
  unfold cACons at h
  cases h1 : ma e with
  | no => rw [h1] at h; cases h
  | ex c fs e1 => rw [h1] at h; cases h
  | ok d e1 =>
    rw [h1] at h
    change (mr e1).bind _ = _ at h
    cases h2 : mr e1 with
    | no => rw [h2] at h; cases h
    | ex c fs e1 => rw [h2] at h; cases h
    | ok xs e2 => rw [h2] at h; cases h; rw [List.length_cons, List.length_cons, lr _ _ _ h2]
theorem ma_obj {es : List Expr} {mr : M (List Ar)} {i : Nat} {n : Str} (hN : X.N[i]? = some n) (hv : Vis X.env.scope n) (hr : MA Z X W es mr) (hs : starEach (.Name n pos :: es) X.env = (false, eval (.Name n pos) X.env) :: starEach es X.env := by rfl)
    (hd : (n == ("__debug__" : Str)) = false := by decide) (hcd : (n == ("__classdict__" : Str)) = false := by decide) : MA Z X W (.Name n pos :: es) (cAObj i mr) := by
  obtain ⟨tr, pr, er, lr⟩ := hr
  refine ⟨_, pa_cons (pe_var hN hv hd hcd) pr hs, fun σ F H e w Q h => ?_, fun e as e' h => ?_⟩
  rotate_left
  · unfold cAObj at h
    cases h1 : e[i]? with
    | none => rw [h1] at h; cases h
    | some s =>
      rw [h1] at h
      by_cases ho : s.obj.isSome = true
      · simp only [ho, if_true] at h
        cases h2 : mr e with
        | no => rw [h2] at h; cases h
        | ex c fs e1 => rw [h2] at h; cases h
        | ok xs e2 => rw [h2] at h; cases h; rw [List.length_cons, List.length_cons, lr _ _ _ h2]
      · simp only [ho] at h
        cases h
  unfold cAObj at h
  cases hs : e[i]? with
  | none => rw [hs] at h; exact h.elim
  | some s =>
    rw [hs] at h
    by_cases ho : s.obj.isSome = true
    · simp only [ho, if_true] at h
      have hl : i < σ.length := by rw [w.len]; exact (List.getElem?_eq_some_iff.mp hs).1
      obtain ⟨p, q, _, ep, _, _⟩ := (w.slot i _ _ hs (List.getElem?_eq_getElem hl)).obj ho
      have es' : σ[i]? = some (some (.ref p)) := by rw [List.getElem?_eq_getElem hl, ep]
      exact ⟨_, es', er.bind w h fun as vs F2 H2 e2 s2 ra hp2 => Post.here s2.wf hp2 _ (.v es' ra)⟩
    · simp only [ho] at h
      exact h.elim
theorem eve_tup {ta : TA} {m : M (List Ar)} (h : EvA Z ta W m) : EvE Z (tTup ta) W (cTup m) := fun σ F H e w Q hp =>
  h.bind w hp fun as vs F1 H1 e1 s1 ra hp1 => by
    cases q : datas as with
    | none => rw [q] at hp1; exact hp1.elim
    | some ds =>
      rw [q] at hp1
      have rs := datas_ok ra q
      by_cases hl : ds.length ≤ sizeLine
      · simp only [hl, if_true] at hp1
        exact ⟨by rw [rs.length]; exact hl, fun p hp => Post.gr s1.wf hp1 (Gr.new1 s1.wf.sub hp) _ (.tup (Or.inl (Or.inl upd_same)) (rs.mono (Ex.new (fr_of s1.wf.sub hp))))⟩
      · simp only [hl, if_false] at hp1
        exact hp1.elim
theorem eve_lst {ta : TA} {m : M (List Ar)} (h : EvA Z ta W m) : EvE Z (tLst ta) W (cLst m) := fun σ F H e w Q hp =>
  h.bind w hp fun as vs F1 H1 e1 s1 ra hp1 => by
    cases q : datas as with
    | none => rw [q] at hp1; exact hp1.elim
    | some ds =>
      rw [q] at hp1
      have rs := datas_ok ra q
      by_cases hl : ds.length ≤ sizeLine
      · simp only [hl, if_true] at hp1
        exact ⟨by rw [rs.length]; exact hl, fun p hp => Post.gr s1.wf hp1 (Gr.new1 s1.wf.sub hp) _ (.lst upd_same (rs.mono (Ex.new (fr_of s1.wf.sub hp))))⟩
      · simp only [hl, if_false] at hp1
        exact hp1.elim
theorem me_tup {es : List Expr} {m : M (List Ar)} {k} (h : MA Z X W es m) : ME Z X W (.Tuple es k pos) (cTup m) := by
  obtain ⟨ta, pa, ea, _⟩ := h
  exact ⟨_, pe_tup pa, eve_tup ea⟩
theorem me_lst {es : List Expr} {m : M (List Ar)} (h : MA Z X W es m) : ME Z X W (.List es pos) (cLst m) := by
  obtain ⟨ta, pa, ea, _⟩ := h
  exact ⟨_, pe_lst pa, eve_lst ea⟩
/-! ### built-ins on data -/
def OpN (Z : Wd) (r : List V → Hp → VK → Prop) (op : List D → Option D) : Prop := ∀ (F H : Hp) (xs : List V) (ds : List D) (dz : D), Ex F H → RDs Z F xs ds → op ds = some dz → ∀ Q : VK, (∀ v F' H', Gr F H F' H' → RD Z F' v dz → Q v H') → r xs H Q
theorem eve_cb {r : List V → Hp → VK → Prop} {op : List D → Option D} {ta : TA} {m : M (List Ar)} (h : OpN Z r op) (ha : EvA Z ta W m) : EvE Z (tCB r ta) W (cB op m) := fun σ F H e w Q hp =>
  ha.bind w hp fun as vs F1 H1 e1 s1 ra hp1 => by
    cases q : datas as with
    | none => rw [q] at hp1; exact hp1.elim
    | some ds =>
      rw [q] at hp1
      simp only [Option.bind_some] at hp1
      cases q2 : op ds with
      | none => rw [q2] at hp1; exact hp1.elim
      | some dz =>
        rw [q2] at hp1
        exact h F1 H1 vs ds dz s1.wf.sub (datas_ok ra q) q2 Q fun v F' H' g rd => Post.gr s1.wf hp1 g v rd
theorem me_cb {n : Str} {id : String} {r : List V → Hp → VK → Prop} {op : List D → Option D} {es : List Expr} {m : M (List Ar)} {p : Pos} (hc : CallR X (.builtin id) r) (h : OpN Z r op) (hg : Gl X n) (hm : X.mg n = none) (hv : bootBuiltins n = some (.builtin id)) (ha : MA Z X W (a :: es) m)
    (hn : n ≠ "__name__" := by decide) (hdb : (n == ("__debug__" : Str)) = false := by decide) (he : starEach (a :: es) X.env = (false, eval a X.env) :: starEach es X.env := by rfl) (hpl : (backTo pos (starEach es X.env)).any (·.1) = false := by rfl) : ME Z X W (.Call (.Name n p) (a :: es) [] pos) (cB op m) := by
  obtain ⟨ta, pa, ea, _⟩ := ha
  exact ⟨_, pe_callB hc hg hm hv pa hn hdb he hpl, eve_cb h ea⟩
theorem me_ct {n : Str} {id : String} {r : List V → Hp → VK → Prop} {op : List D → Option D} {es : List Expr} {m : M (List Ar)} {p : Pos} (hc : CallR X (.type id) r) (h : OpN Z r op) (hg : Gl X n) (hm : X.mg n = none) (hv : bootBuiltins n = some (.type id)) (ha : MA Z X W (a :: es) m)
    (hn : n ≠ "__name__" := by decide) (hdb : (n == ("__debug__" : Str)) = false := by decide) (he : starEach (a :: es) X.env = (false, eval a X.env) :: starEach es X.env := by rfl) (hpl : (backTo pos (starEach es X.env)).any (·.1) = false := by rfl) : ME Z X W (.Call (.Name n p) (a :: es) [] pos) (cB op m) := by
  obtain ⟨ta, pa, ea, _⟩ := ha
  exact ⟨_, pe_callTy hc hg hm hv pa hn hdb he hpl, eve_cb h ea⟩
end
/-! ### defs -/
abbrev Sem := List Slot → R D
def Slot.arg : Slot → Bool
  | .own _ => false
  | _ => true
/-- what a def promises -/
def spF (Z : Wd) (n : Nat) (f : Sem) : Sp := fun vs H Q E => ∃ (F : Hp) (sl : List Slot), sl.length = n ∧ sl.all Slot.arg = true ∧ WF Z F H (vs.map some) sl ∧
  Post Z (fun c d _ H' => E c d H') (vs.map some) F H sl (f sl) (fun d F' H' => ∀ v, RD Z F' v d → Q v H')
/-- an argument behind the call -/
def outF : Slot → Option Slot → Slot
  | .io _, some (.io q') => .io q'
  | s, _ => s
def outs : List Slot → En → List Slot
  | [], _ => []
  | s :: sl, e => outF s e.head? :: outs sl e.tail
def runFn (m : Nat) (body : MS) : Sem := fun sl => match body (sl ++ List.replicate m .unk) with
  | .nx e => .ok .non (outs sl e)
  | .rt d e => .ok d (outs sl e)
  | .ex c fs e => .ex c fs (outs sl e)
  | _ => .no
section
variable {Z : Wd} {F H F' H' : Hp}
theorem outs_length : ∀ (sl : List Slot) (e : En), (outs sl e).length = sl.length
  | [], _ => rfl
  | _ :: sl, e => by simp [outs, outs_length sl e.tail]
theorem outs_get : ∀ (sl : List Slot) (e : En) (i : Nat), (outs sl e)[i]? = (sl[i]?).map fun s => outF s e[i]?
  | [], _, _ => by simp [outs]
  | s :: sl, e, 0 => by cases e <;> simp [outs]
  | s :: sl, e, i + 1 => by
    have := outs_get sl e.tail i
    cases e with
    | nil => simpa [outs] using this
    | cons u e => simpa [outs] using this
theorem outF_obj {s : Slot} {t : Option Slot} : (outF s t).obj.isSome = s.obj.isSome := by
  unfold outF
  split <;> rfl
theorem ext_get {vs : List V} {m i : Nat} {v : V} (h : (vs.map some ++ List.replicate m none)[i]? = some (some v)) : (vs.map some)[i]? = some (some v) := by
  by_cases hi : i < (vs.map some).length
  · rw [List.getElem?_append_left hi] at h; exact h
  · rw [List.getElem?_append_right (by omega)] at h
    rw [List.getElem?_replicate] at h
    split at h <;> cases h
theorem ext_slot {sl : List Slot} {m i : Nat} {s : Slot} (h : (sl ++ List.replicate m Slot.unk)[i]? = some s) (hs : s.obj.isSome = true) : sl[i]? = some s := by
  by_cases hi : i < sl.length
  · rw [List.getElem?_append_left hi] at h; exact h
  · rw [List.getElem?_append_right (by omega)] at h
    rw [List.getElem?_replicate] at h
    split at h
    · cases h; cases hs
    · cases h
theorem get_left {α : Type} {l r : List α} {i : Nat} {x : α} (h : l[i]? = some x) : (l ++ r)[i]? = some x := by
  rw [List.getElem?_append_left (List.getElem?_eq_some_iff.mp h).1]; exact h
theorem WF.start {vs : List V} {sl : List Slot} {m : Nat} (w : WF Z F H (vs.map some) sl) : WF Z F H (vs.map some ++ List.replicate m none) (sl ++ List.replicate m .unk) where
  sub := w.sub
  len := by rw [List.length_append, List.length_append, w.len, List.length_replicate, List.length_replicate]
  slot := fun i s o h1 h2 => by
    have hl := w.len
    by_cases hi : i < sl.length
    · rw [List.getElem?_append_left hi] at h1
      rw [List.getElem?_append_left (by omega)] at h2
      exact w.slot i s o h1 h2
    · rw [List.getElem?_append_right (by omega), List.getElem?_replicate] at h1
      split at h1
      · cases h1; trivial
      · cases h1
  sep := fun i j a s t h1 h2 h3 h4 h5 h6 => w.sep i j a s t (ext_slot h1 h3) (ext_slot h2 h4) h3 h4 (ext_get h5) (ext_get h6)
  tabs := w.tabs
theorem owns_start {vs : List V} {sl : List Slot} {m : Nat} {a : Addr} (h : Owns (vs.map some ++ List.replicate m none) (sl ++ List.replicate m .unk) a) : Owns (vs.map some) sl a := by
  obtain ⟨i, s, h1, h2, h3⟩ := h
  exact ⟨i, s, ext_slot h1 h2, h2, ext_get h3⟩
/-- from the body's end to the call's -/
theorem Sq.finish0 {vs : List V} {sl : List Slot} {m : Nat} {σ' : L2.St} {e' : En} (hl : vs.length = sl.length) (ha : sl.all Slot.arg = true) (w : WF Z F H (vs.map some) sl)
    (s : Sq Z (vs.map some ++ List.replicate m none) F H (sl ++ List.replicate m .unk) σ' F' H' e') : Sq Z (vs.map some) F H sl (vs.map some) F' H' (outs sl e') := by
  have io : ∀ (i : Nat) (q : OO), sl[i]? = some (.io q) → ∃ q', e'[i]? = some (.io q') ∧ σ'[i]? = (vs.map some)[i]? := fun i q h => by
    obtain ⟨⟨q', h1⟩, h2⟩ := s.io i q (get_left h)
    refine ⟨q', h1, h2.trans ?_⟩
    have : i < (vs.map some).length := by
      rw [List.length_map, hl]; exact (List.getElem?_eq_some_iff.mp h).1
    rw [List.getElem?_append_left this]
  have argc : ∀ (i : Nat) (q : OO), sl[i]? ≠ some (.own q) := fun i q h => by
    have := List.all_eq_true.mp ha _ (List.mem_of_getElem? h)
    cases this
  have ob : ∀ (i : Nat) (t : Slot), (outs sl e')[i]? = some t → t.obj.isSome = true → ∃ q q', sl[i]? = some (.io q) ∧ t = .io q' ∧ e'[i]? = some (.io q') ∧ σ'[i]? = (vs.map some)[i]? := fun i t h ht => by
    rw [outs_get] at h
    cases hs : sl[i]? with
    | none => rw [hs] at h; cases h
    | some u =>
      rw [hs] at h
      simp only [Option.map_some, Option.some.injEq] at h
      cases u with
      | unk => subst h; cases ht
      | dat d => subst h; cases ht
      | own q => exact absurd hs (argc i q)
      | io q =>
        obtain ⟨q', h1, h2⟩ := io i q hs
        rw [h1] at h
        exact ⟨q, q', rfl, h.symm, h1, h2⟩
  have ow : ∀ a, Owns (vs.map some) (outs sl e') a → Owns (vs.map some) sl a := fun a ⟨i, t, h1, h2, h3⟩ => by
    obtain ⟨q, q', h4, _⟩ := ob i t h1 h2
    exact ⟨i, _, h4, rfl, h3⟩
  refine ⟨⟨s.wf.sub, by rw [outs_length, List.length_map, hl], fun i t o h1 h2 => ?_, fun i j a t u h1 h2 h3 h4 h5 h6 => ?_, s.wf.tabs⟩, s.ext, fun a o h nt n => s.frame a o h nt fun z => n (owns_start z), s.keep, fun a n m no => s.new a n m fun z => no (owns_start z), fun a z => .inl (ow a z), fun i q h => ?_⟩
  · by_cases ht : t.obj.isSome = true
    · obtain ⟨q, q', h3, rfl, h4, h5⟩ := ob i t h1 ht
      exact s.wf.slot i _ o h4 (h5.trans h2)
    · rw [outs_get] at h1
      cases hs : sl[i]? with
      | none => rw [hs] at h1; cases h1
      | some u =>
        rw [hs] at h1
        simp only [Option.map_some, Option.some.injEq] at h1
        cases u with
        | unk => subst h1; trivial
        | dat d =>
          subst h1
          obtain ⟨v, h3, h4⟩ := w.slot i _ o hs h2
          exact ⟨v, h3, h4.mono s.ext⟩
        | own q => exact absurd hs (argc i q)
        | io q =>
          subst h1
          rw [outF_obj] at ht
          exact absurd rfl ht
  · obtain ⟨q, q', _, rfl, h7, h8⟩ := ob i t h1 h3
    obtain ⟨p, p', _, rfl, h9, h10⟩ := ob j u h2 h4
    exact s.wf.sep i j a _ _ h7 h9 rfl rfl (h8.trans h5) (h10.trans h6)
  · obtain ⟨q', h1, _⟩ := io i q h
    exact ⟨⟨q', by rw [outs_get, h, Option.map_some, h1]; rfl⟩, rfl⟩
theorem outs_kd {sl : List Slot} {e : En} : Kd sl (outs sl e) := fun i => by
  rw [outs_get]
  cases sl[i]? with
  | none => rfl
  | some s => simp [outF_obj]
theorem Sq.finish {vs : List V} {sl : List Slot} {m : Nat} {σ' : L2.St} {e' : En} (hl : vs.length = sl.length) (ha : sl.all Slot.arg = true) (w : WF Z F H (vs.map some) sl)
    (s : Sq Z (vs.map some ++ List.replicate m none) F H (sl ++ List.replicate m .unk) σ' F' H' e') : Sx Z (vs.map some) F H sl F' H' (outs sl e') := ⟨Sq.finish0 hl ha w s, outs_kd⟩
/-- a def's promise by its body -/
theorem fn_sound {P : Program} {w : World} {K : PySem.W.Frag} {mg : Str → Option Value} {base : Heap} {x qual : Str} {st : Stmt} {f : Addr} {fd : FuncData} {N ps : List Str} {k m : Nat} {body : MS} (hK : K = Z.K) (Fn : Fun K x qual st f fd) (S : FnScope N ps (defScope st)) (hm : N.length = ps.length + m)
    (hb : ∀ (cdv : Value) (A : Around) (outer : List Env) (s : Shared) (H : Hp) (E : XK), Room k (A.deeper (envOfC qual (defScope st) s.heap.objs.size f cdv)) →
      MLs Z (cxOf (L2.CX P w) P w K mg base N qual (defScope st) f cdv A outer s H E) (fun c d _ H' => E c d H') (defBody st) body) :
    FnOk P w K mg base (L2.CX P w) (k + 1) f fd ps (spF Z ps.length (runFn m body)) := by
  refine Fn.okX S (fun vs H Q E h => ?_) (fun cdv A outer s H vs Q E hr h => ?_)
  · obtain ⟨F, sl, h1, _, h3, _⟩ := h
    have := h3.len
    rw [List.length_map] at this
    omega
  · obtain ⟨F, sl, h1, h2, h3, h4⟩ := h
    have hl : vs.length = sl.length := by
      have := h3.len
      rw [List.length_map] at this
      exact this
    obtain ⟨ts, p, ev⟩ := hb cdv A outer s H E hr
    refine ⟨ts, p, ?_⟩
    have es : L2.start N vs = vs.map some ++ List.replicate m none := by
      unfold L2.start
      rw [show N.length - vs.length = m by omega]
    rw [es]
    refine ev _ F H _ (h3.start (m := m)) _ ?_
    unfold runFn at h4
    cases ho : body (sl ++ List.replicate m .unk) with
    | no => rw [ho] at h4; exact h4.elim
    | nx e' => rw [ho] at h4; exact fun σ' F' H' s' => h4 F' H' (s'.finish hl h2 h3) _ .non
    | rt d e' => rw [ho] at h4; exact fun v σ' F' H' s' rd => h4 F' H' (s'.finish hl h2 h3) v rd
    | bk e' => rw [ho] at h4; exact h4.elim
    | ct e' => rw [ho] at h4; exact h4.elim
    | ex c fs e' => rw [ho] at h4; exact fun d' σ' F' H' s' xf => h4 d' F' H' (s'.finish hl h2 h3) xf
end
/-! ### calls -/
def arSlot (e : En) : Ar → Option Slot
  | .d x => some (.dat x)
  | .v i => match e[i]? with
    | some s => s.obj.map Slot.io
    | none => none
def arSlots (e : En) : List Ar → Option (List Slot)
  | [] => some []
  | a :: as => match arSlot e a with
    | some s => (arSlots e as).map (s :: ·)
    | none => none
def Ar.ix : Ar → Option Nat
  | .d _ => none
  | .v i => some i
/-- the first argument that is slot i's object, behind the call -/
def backAt : List Ar → List Slot → Nat → Option OO
  | .v j :: as, .io q :: sl, i => if j = i then some q else backAt as sl i
  | _ :: as, _ :: sl, i => backAt as sl i
  | _, _, _ => none
def Slot.put : Slot → OO → Slot
  | .own _, q => .own q
  | .io _, q => .io q
  | s, _ => s
def backGo (as : List Ar) (sl : List Slot) : Nat → En → En
  | _, [] => []
  | k, s :: e => (match backAt as sl k with
    | some q => s.put q
    | none => s) :: backGo as sl (k + 1) e
def back (as : List Ar) (sl : List Slot) (e : En) : En := backGo as sl 0 e
def nodupIx : List Ar → Bool
  | [] => true
  | .d _ :: as => nodupIx as
  | .v i :: as => !(as.any fun a => a.ix == some i) && nodupIx as
/-- a call: dds are the defaults -/
def cCall (f : Sem) (dds : List D) (a : M (List Ar)) : M D := fun e => (a e).bind fun as e1 => if nodupIx as = true then (match arSlots e1 as with
  | some sl => match f (sl ++ dds.map Slot.dat) with
    | .no => .no
    | .ok d sl' => .ok d (back as sl' e1)
    | .ex c fs sl' => .ex c fs (back as sl' e1)
  | none => .no) else .no
section
variable {Z : Wd} {F H F' H' : Hp} {σ : L2.St} {e : En}
theorem backGo_get (as : List Ar) (sl : List Slot) : ∀ (e : En) (k i : Nat), (backGo as sl k e)[i]? = (e[i]?).map fun s => match backAt as sl (k + i) with
    | some q => s.put q
    | none => s
  | [], _, _ => by simp [backGo]
  | s :: e, k, 0 => by simp [backGo]
  | s :: e, k, i + 1 => by
    have := backGo_get as sl e (k + 1) i
    rw [show k + 1 + i = k + (i + 1) by omega] at this
    simpa [backGo] using this
theorem back_get (as : List Ar) (sl : List Slot) (e : En) (i : Nat) : (back as sl e)[i]? = (e[i]?).map fun s => match backAt as sl i with
    | some q => s.put q
    | none => s := by
  have := backGo_get as sl e 0 i
  rw [Nat.zero_add] at this
  exact this
theorem backGo_length (as : List Ar) (sl : List Slot) : ∀ (e : En) (k : Nat), (backGo as sl k e).length = e.length
  | [], _ => rfl
  | _ :: e, k => by simp [backGo, backGo_length as sl e (k + 1)]
theorem put_obj {s : Slot} {q : OO} : (s.put q).obj.isSome = s.obj.isSome := by cases s <;> rfl
/-- which argument it is -/
theorem backAt_some : ∀ {as : List Ar} {sl : List Slot} {i : Nat} {q : OO}, backAt as sl i = some q → ∃ p : Nat, as[p]? = some (.v i) ∧ sl[p]? = some (.io q)
  | [], _, _, _, h => by simp [backAt] at h
  | _ :: _, [], _, _, h => by unfold backAt at h; split at h <;> simp_all
  | a :: as, s :: sl, i, q, h => by
    have again : backAt as sl i = some q → ∃ p : Nat, (a :: as)[p]? = some (.v i) ∧ (s :: sl)[p]? = some (.io q) := fun h => by
      obtain ⟨p, h1, h2⟩ := backAt_some h
      exact ⟨p + 1, by simpa using h1, by simpa using h2⟩
    cases a with
    | d x => exact again (by unfold backAt at h; exact h)
    | v j =>
      cases s with
      | io p =>
        unfold backAt at h
        by_cases hj : j = i
        · rw [if_pos hj] at h
          cases h
          subst hj
          exact ⟨0, rfl, rfl⟩
        · rw [if_neg hj] at h
          exact again h
      | unk => exact again (by unfold backAt at h; exact h)
      | dat d => exact again (by unfold backAt at h; exact h)
      | own d => exact again (by unfold backAt at h; exact h)
theorem backAt_none : ∀ {as : List Ar} {sl : List Slot} {i : Nat}, backAt as sl i = none → ∀ (p : Nat) (q : OO), as[p]? = some (.v i) → sl[p]? ≠ some (.io q)
  | [], _, _, _, p, q, h1 => by simp at h1
  | _ :: _, [], _, _, p, q, _ => by simp
  | a :: as, s :: sl, i, h, 0, q, h1 => fun h2 => by
    simp at h1 h2
    subst h1 h2
    unfold backAt at h
    rw [if_pos rfl] at h
    cases h
  | a :: as, s :: sl, i, h, p + 1, q, h1 => by
    have h' : backAt as sl i = none := by
      cases a with
      | d x => unfold backAt at h; exact h
      | v j =>
        cases s with
        | io r =>
          unfold backAt at h
          by_cases hj : j = i
          · rw [if_pos hj] at h; cases h
          · rw [if_neg hj] at h; exact h
        | unk => unfold backAt at h; exact h
        | dat d => unfold backAt at h; exact h
        | own d => unfold backAt at h; exact h
    simpa using backAt_none h' p q (by simpa using h1)
theorem arSlots_get : ∀ {as : List Ar} {sl : List Slot}, arSlots e as = some sl → ∀ p : Nat, sl[p]? = (as[p]?).bind (arSlot e)
  | [], _, h, p => by cases h; simp
  | a :: as, sl, h, p => by
    unfold arSlots at h
    cases ha : arSlot e a with
    | none => rw [ha] at h; cases h
    | some s =>
      rw [ha] at h
      cases hr : arSlots e as with
      | none => rw [hr] at h; cases h
      | some r =>
        rw [hr] at h
        cases h
        cases p with
        | zero => simp [ha]
        | succ p => simpa using arSlots_get hr p
theorem arSlots_length : ∀ {as : List Ar} {sl : List Slot}, arSlots e as = some sl → sl.length = as.length
  | [], _, h => by cases h; rfl
  | a :: as, sl, h => by
    unfold arSlots at h
    cases ha : arSlot e a with
    | none => rw [ha] at h; cases h
    | some s =>
      rw [ha] at h
      cases hr : arSlots e as with
      | none => rw [hr] at h; cases h
      | some r =>
        rw [hr] at h
        cases h
        simp [arSlots_length hr]
theorem ArOk.length : ∀ {vs : List V} {as : List Ar}, ArOk Z F σ vs as → vs.length = as.length
  | _, _, .nil => rfl
  | _, _, .d _ t => by simp [t.length]
  | _, _, .v _ t => by simp [t.length]
theorem ArOk.get : ∀ {vs : List V} {as : List Ar} {p : Nat} {a : Ar}, ArOk Z F σ vs as → as[p]? = some a → ∃ v, vs[p]? = some v ∧ (match a with
    | .d x => RD Z F v x
    | .v i => σ[i]? = some (some v))
  | _, _, _, _, .nil, h => by simp at h
  | _, _, 0, _, .d h t, e => by simp at e; subst e; exact ⟨_, rfl, h⟩
  | _, _, 0, _, .v h t, e => by simp at e; subst e; exact ⟨_, rfl, h⟩
  | _, _, p + 1, a, .d h t, e => by
    obtain ⟨v, h1, h2⟩ := ArOk.get (p := p) (a := a) t (by simpa using e)
    exact ⟨v, by simpa using h1, h2⟩
  | _, _, p + 1, a, .v h t, e => by
    obtain ⟨v, h1, h2⟩ := ArOk.get (p := p) (a := a) t (by simpa using e)
    exact ⟨v, by simpa using h1, h2⟩
theorem nodup_ix : ∀ {as : List Ar}, nodupIx as = true → ∀ (p q i : Nat), as[p]? = some (.v i) → as[q]? = some (.v i) → p = q
  | [], _, p, q, i, h, _ => by simp at h
  | a :: as, hn, 0, 0, i, _, _ => rfl
  | a :: as, hn, 0, q + 1, i, h1, h2 => by
    simp at h1
    subst h1
    unfold nodupIx at hn
    simp only [Bool.and_eq_true, Bool.not_eq_true'] at hn
    have hm : Ar.v i ∈ as := List.mem_of_getElem? (by simpa using h2)
    have : (as.any fun a => a.ix == some i) = true := List.any_eq_true.mpr ⟨_, hm, by simp [Ar.ix]⟩
    rw [this] at hn
    exact absurd hn.1 (by simp)
  | a :: as, hn, p + 1, 0, i, h1, h2 => by
    simp at h2
    subst h2
    unfold nodupIx at hn
    simp only [Bool.and_eq_true, Bool.not_eq_true'] at hn
    have hm : Ar.v i ∈ as := List.mem_of_getElem? (by simpa using h1)
    have : (as.any fun a => a.ix == some i) = true := List.any_eq_true.mpr ⟨_, hm, by simp [Ar.ix]⟩
    rw [this] at hn
    exact absurd hn.1 (by simp)
  | a :: as, hn, p + 1, q + 1, i, h1, h2 => by
    have hn' : nodupIx as = true := by
      unfold nodupIx at hn
      cases a with
      | d x => exact hn
      | v j => simp only [Bool.and_eq_true] at hn; exact hn.2
    have := nodup_ix hn' p q i (by simpa using h1) (by simpa using h2)
    omega
theorem args_get {vs dvs : List V} {as : List Ar} {sl : List Slot} {dds : List D} (r : ArOk Z F σ vs as) (hs : arSlots e as = some sl) (rd : RDs Z F dvs dds) {p : Nat} {s : Slot} (h : (sl ++ dds.map Slot.dat)[p]? = some s) :
    (∃ i t, as[p]? = some (.v i) ∧ e[i]? = some t ∧ t.obj.map Slot.io = some s ∧ ∃ v, ((vs ++ dvs).map some)[p]? = some (some v) ∧ σ[i]? = some (some v)) ∨ ∃ x v, s = .dat x ∧ ((vs ++ dvs).map some)[p]? = some (some v) ∧ RD Z F v x := by
  have hl := arSlots_length hs
  have hv := r.length
  by_cases hp : p < sl.length
  · rw [List.getElem?_append_left hp, arSlots_get hs] at h
    cases ha : as[p]? with
    | none => rw [ha] at h; cases h
    | some a =>
      rw [ha, Option.bind_some] at h
      obtain ⟨v, h1, h2⟩ := r.get ha
      have h3 : ((vs ++ dvs).map some)[p]? = some (some v) := by
        rw [List.getElem?_map, List.getElem?_append_left (by omega), h1]; rfl
      cases a with
      | d x => cases h; exact .inr ⟨x, v, rfl, h3, h2⟩
      | v i =>
        unfold arSlot at h
        cases he : e[i]? with
        | none => simp [he] at h
        | some t => simp only [he] at h; exact .inl ⟨i, t, rfl, he, h, v, h3, h2⟩
  · rw [List.getElem?_append_right (by omega), List.getElem?_map] at h
    cases hd : dds[p - sl.length]? with
    | none => rw [hd] at h; cases h
    | some x =>
      rw [hd] at h
      cases h
      obtain ⟨v, h1, h2⟩ := rd.getD hd
      refine .inr ⟨x, v, rfl, ?_, h2⟩
      rw [List.getElem?_map, List.getElem?_append_right (by omega), show p - vs.length = p - sl.length by omega, h1]
      rfl
theorem WF.args {vs dvs : List V} {as : List Ar} {sl : List Slot} {dds : List D} (w : WF Z F H σ e) (r : ArOk Z F σ vs as) (hn : nodupIx as = true) (hs : arSlots e as = some sl) (rd : RDs Z F dvs dds) :
    WF Z F H ((vs ++ dvs).map some) (sl ++ dds.map Slot.dat) where
  sub := w.sub
  len := by
    have h1 := arSlots_length hs
    have h2 := r.length
    have h3 := rd.length
    simp
    omega
  slot := fun p s o h1 h2 => by
    rcases args_get r hs rd h1 with ⟨i, t, h3, h4, h5, v, h6, h7⟩ | ⟨x, v, rfl, h6, h7⟩
    · rw [h6] at h2
      cases h2
      have q := w.slot i t _ h4 h7
      cases t with
      | unk => cases h5
      | dat d => cases h5
      | own q' => cases h5; exact q
      | io q' => cases h5; exact q
    · rw [h6] at h2
      cases h2
      exact ⟨v, rfl, h7⟩
  sep := fun p q a s t h1 h2 h3 h4 h5 h6 => by
    rcases args_get r hs rd h1 with ⟨i, t1, a1, a2, a3, v, a4, a5⟩ | ⟨x, v, rfl, _⟩
    · rcases args_get r hs rd h2 with ⟨j, t2, b1, b2, b3, u, b4, b5⟩ | ⟨x, v, rfl, _⟩
      · rw [a4] at h5
        rw [b4] at h6
        cases h5
        cases h6
        have o1 : t1.obj.isSome = true := by
          cases q : t1.obj with
          | none => rw [q] at a3; cases a3
          | some _ => rfl
        have o2 : t2.obj.isSome = true := by
          cases q : t2.obj with
          | none => rw [q] at b3; cases b3
          | some _ => rfl
        have e1 := w.sep i j a t1 t2 a2 b2 o1 o2 a5 b5
        subst e1
        exact nodup_ix hn p q i a1 b1
      · cases h4
    · cases h3
  tabs := w.tabs
theorem owns_args {vs dvs : List V} {as : List Ar} {sl : List Slot} {dds : List D} (r : ArOk Z F σ vs as) (hs : arSlots e as = some sl) (rd : RDs Z F dvs dds) {a : Addr} (h : Owns ((vs ++ dvs).map some) (sl ++ dds.map Slot.dat) a) : Owns σ e a := by
  obtain ⟨p, s, h1, h2, h3⟩ := h
  rcases args_get r hs rd h1 with ⟨i, t, _, a2, a3, v, a4, a5⟩ | ⟨x, v, rfl, _⟩
  · rw [a4] at h3
    cases h3
    refine ⟨i, t, a2, ?_, a5⟩
    cases q : t.obj with
    | none => rw [q] at a3; cases a3
    | some _ => rfl
  · cases h2
/-- from the callee's step to the caller's -/
theorem Sq.ofCall0 {vs dvs : List V} {as : List Ar} {sl sl' : List Slot} {dds : List D} (w : WF Z F H σ e) (r : ArOk Z F σ vs as) (hn : nodupIx as = true) (hs : arSlots e as = some sl) (rd : RDs Z F dvs dds)
    (c : Sq Z ((vs ++ dvs).map some) F H (sl ++ dds.map Slot.dat) ((vs ++ dvs).map some) F' H' sl') : Sq Z σ F H e σ F' H' (back as sl' e) := by
  have hl := arSlots_length hs
  have fr : ∀ a o, H a = some o → NT o → ¬ Owns σ e a → H' a = some o := fun a o h nt n => c.frame a o h nt fun z => n (owns_args r hs rd z)
  have ob : ∀ (i : Nat) (t : Slot), (back as sl' e)[i]? = some t → ∃ s, e[i]? = some s ∧ t.obj.isSome = s.obj.isSome ∧ ((backAt as sl' i = none ∧ t = s) ∨ ∃ q, backAt as sl' i = some q ∧ t = s.put q) := fun i t h => by
    rw [back_get] at h
    cases he : e[i]? with
    | none => rw [he] at h; cases h
    | some s =>
      rw [he, Option.map_some] at h
      cases hb : backAt as sl' i with
      | none => rw [hb] at h; cases h; exact ⟨s, rfl, rfl, .inl ⟨rfl, rfl⟩⟩
      | some q => rw [hb] at h; cases h; exact ⟨s, rfl, put_obj, .inr ⟨q, rfl, rfl⟩⟩
  have ow : ∀ a, Owns σ (back as sl' e) a → Owns σ e a := fun a ⟨i, t, h1, h2, h3⟩ => by
    obtain ⟨s, h4, h5, _⟩ := ob i t h1
    exact ⟨i, s, h4, by rw [← h5]; exact h2, h3⟩
  refine ⟨⟨c.wf.sub, by rw [back, backGo_length]; exact w.len, fun i t o h1 h2 => ?_, fun i j a t u h1 h2 h3 h4 h5 h6 => ?_, c.wf.tabs⟩, c.ext, fr, c.keep, fun a n m no => c.new a n m fun z => no (owns_args r hs rd z), fun a z => .inl (ow a z), fun i q h => ⟨?_, rfl⟩⟩
  · obtain ⟨s, h3, h4, h5⟩ := ob i t h1
    have q := w.slot i s o h3 h2
    rcases h5 with ⟨hb, rfl⟩ | ⟨q', hb, rfl⟩
    · -- not handed to the callee
      cases t with
      | unk => trivial
      | dat d => obtain ⟨v, h6, h7⟩ := q; exact ⟨v, h6, h7.mono c.ext⟩
      | own p =>
        obtain ⟨a, h6, h7, h8⟩ := q
        obtain ⟨u, h9, h10⟩ := h8.there
        have nn : ¬ Owns ((vs ++ dvs).map some) (sl ++ dds.map Slot.dat) a := fun ⟨p1, s1, b1, b2, b3⟩ => by
          rcases args_get r hs rd b1 with ⟨j, t1, a1, a2, a3, v, a4, a5⟩ | ⟨x, v, rfl, _⟩
          · rw [a4] at b3
            cases b3
            have o1 : t1.obj.isSome = true := by
              cases q : t1.obj with
              | none => rw [q] at a3; cases a3
              | some _ => rfl
            have ei := w.sep i j a _ t1 h3 a2 rfl o1 (by rw [h2, h6]) a5
            subst ei
            have s1io : ∃ r1, s1 = .io r1 := by
              cases q : t1.obj with
              | none => rw [q] at a3; cases a3
              | some r1 => rw [q] at a3; cases a3; exact ⟨r1, rfl⟩
            obtain ⟨r1, rfl⟩ := s1io
            obtain ⟨⟨r2, b4⟩, _⟩ := c.io p1 r1 b1
            exact backAt_none hb p1 r2 a1 b4
          · cases b2
        exact ⟨a, h6, c.new a h7 (by rw [h9]; simp) nn, h8.mono c.ext fun o' ho => by rw [h9] at ho; cases ho; exact c.frame a _ h9 h10 nn⟩
      | io p =>
        obtain ⟨a, h6, h7, h8⟩ := q
        obtain ⟨u, h9, h10⟩ := h8.there
        have nn : ¬ Owns ((vs ++ dvs).map some) (sl ++ dds.map Slot.dat) a := fun ⟨p1, s1, b1, b2, b3⟩ => by
          rcases args_get r hs rd b1 with ⟨j, t1, a1, a2, a3, v, a4, a5⟩ | ⟨x, v, rfl, _⟩
          · rw [a4] at b3
            cases b3
            have o1 : t1.obj.isSome = true := by
              cases q : t1.obj with
              | none => rw [q] at a3; cases a3
              | some _ => rfl
            have ei := w.sep i j a _ t1 h3 a2 rfl o1 (by rw [h2, h6]) a5
            subst ei
            have s1io : ∃ r1, s1 = .io r1 := by
              cases q : t1.obj with
              | none => rw [q] at a3; cases a3
              | some r1 => rw [q] at a3; cases a3; exact ⟨r1, rfl⟩
            obtain ⟨r1, rfl⟩ := s1io
            obtain ⟨⟨r2, b4⟩, _⟩ := c.io p1 r1 b1
            exact backAt_none hb p1 r2 a1 b4
          · cases b2
        exact ⟨a, h6, c.new a h7 (by rw [h9]; simp) nn, h8.mono c.ext fun o' ho => by rw [h9] at ho; cases ho; exact c.frame a _ h9 h10 nn⟩
    · obtain ⟨p, b1, b2⟩ := backAt_some hb
      have hlen : p < sl.length := by rw [hl]; exact (List.getElem?_eq_some_iff.mp b1).1
      have hsl : sl[p]? = some (sl[p]) := List.getElem?_eq_getElem hlen
      have b3 : (sl ++ dds.map Slot.dat)[p]? = some (sl[p]) := by rw [List.getElem?_append_left hlen]; exact hsl
      rcases args_get r hs rd b3 with ⟨j, t1, a1, a2, a3, v, a4, a5⟩ | ⟨x, v, hx, _⟩
      · rw [b1] at a1
        cases a1
        rw [a5] at h2
        cases h2
        have z := c.wf.slot p _ _ b2 a4
        cases s with
        | unk => trivial
        | dat d => rw [h3] at a2; cases a2; cases a3
        | own r1 => exact z
        | io r1 => exact z
      · rw [arSlots_get hs, b1, Option.bind_some] at hsl
        rw [hx] at hsl
        unfold arSlot at hsl
        cases he : e[i]? with
        | none => simp [he] at hsl
        | some t1 =>
          simp only [he] at hsl
          cases q : t1.obj with
          | none => rw [q] at hsl; cases hsl
          | some _ => rw [q] at hsl; cases hsl
  · obtain ⟨s1, a1, a2, _⟩ := ob i t h1
    obtain ⟨s2, b1, b2, _⟩ := ob j u h2
    exact w.sep i j a s1 s2 a1 b1 (by rw [← a2]; exact h3) (by rw [← b2]; exact h4) h5 h6
  · rw [back_get, h, Option.map_some]
    cases backAt as sl' i with
    | none => exact ⟨q, rfl⟩
    | some q' => exact ⟨q', rfl⟩
theorem back_kd {as : List Ar} {sl : List Slot} : Kd e (back as sl e) := fun i => by
  rw [back_get]
  cases e[i]? with
  | none => rfl
  | some s =>
    simp only [Option.map_some, Option.some.injEq]
    split
    · exact put_obj
    · rfl
theorem Sq.ofCall {vs dvs : List V} {as : List Ar} {sl sl' : List Slot} {dds : List D} (w : WF Z F H σ e) (r : ArOk Z F σ vs as) (hn : nodupIx as = true) (hs : arSlots e as = some sl) (rd : RDs Z F dvs dds)
    (c : Sq Z ((vs ++ dvs).map some) F H (sl ++ dds.map Slot.dat) ((vs ++ dvs).map some) F' H' sl') : Sx Z σ F H e F' H' (back as sl' e) := ⟨Sq.ofCall0 w r hn hs rd c, back_kd⟩
theorem args_arg {as : List Ar} {sl : List Slot} {dds : List D} (hs : arSlots e as = some sl) : (sl ++ dds.map Slot.dat).all Slot.arg = true := by
  rw [List.all_eq_true]
  intro s hm
  rcases List.mem_append.mp hm with hm | hm
  · obtain ⟨p, hp⟩ := List.getElem?_of_mem hm
    rw [arSlots_get hs] at hp
    cases ha : as[p]? with
    | none => rw [ha] at hp; cases hp
    | some a =>
      rw [ha, Option.bind_some] at hp
      cases a with
      | d x => cases hp; rfl
      | v i =>
        unfold arSlot at hp
        cases he : e[i]? with
        | none => simp [he] at hp
        | some t =>
          simp only [he] at hp
          cases q : t.obj with
          | none => rw [q] at hp; cases hp
          | some _ => rw [q] at hp; cases hp; rfl
  · obtain ⟨d, _, rfl⟩ := List.mem_map.mp hm
    rfl
/-- a call, what the reading asks of the promise -/
theorem post_call {W : WX} {f : Sem} {dds : List D} {dvs vs : List V} {as : List Ar} {n : Nat} {Q : VK} (w : WF Z F H σ e) (r : ArOk Z F σ vs as) (rd : RDs Z F dvs dds) (hl : as.length + dds.length = n)
    (hp : Post Z W σ F H e (if nodupIx as = true then (match arSlots e as with
  | some sl => match f (sl ++ dds.map Slot.dat) with
    | .no => .no
    | .ok d sl' => .ok d (back as sl' e)
    | .ex c fs sl' => .ex c fs (back as sl' e)
  | none => .no) else .no : R D) (fun d F' H' => ∀ v, RD Z F' v d → Q v H')) : spF Z n f (vs ++ dvs) H Q (fun c d H' => W c d σ H') := by
  by_cases hn : nodupIx as = true
  · rw [if_pos hn] at hp
    cases hs : arSlots e as with
    | none => rw [hs] at hp; exact hp.elim
    | some sl =>
      rw [hs] at hp
      have hsl := arSlots_length hs
      refine ⟨F, sl ++ dds.map Slot.dat, by rw [List.length_append, List.length_map]; omega, args_arg hs, w.args r hn hs rd, ?_⟩
      dsimp only at hp
      cases hf : f (sl ++ dds.map Slot.dat) with
      | no => rw [hf] at hp; exact hp.elim
      | ok d sl' => rw [hf] at hp; exact fun F' H' c => hp F' H' (c.toSq.ofCall w r hn hs rd)
      | ex c fs sl' => rw [hf] at hp; exact fun d' F' H' c => hp d' F' H' (c.toSq.ofCall w r hn hs rd)
  · rw [if_neg hn] at hp
    exact hp.elim
end
section
variable {Z : Wd} {W : WX} {X : Cx} {a : Expr} {pos p : Pos}
theorem me_call {n : Str} {f : Addr} {fd : FuncData} {ps : List Str} {ds : List Value} {dvs : List V} {dds : List D} {k : Nat} {g : Sem} {es : List Expr} {m : M (List Ar)} (Fn : FnOk X.prog X.w X.K X.mg X.base (L2.CX X.prog X.w) k f fd ps (spF Z ps.length g)) (hr : Room k X.A) (hg : Gl X n) (hm : X.mg n = some (.ref f))
    (hk : PySem.W.keepIn X.K (.ref f) = true) (hb : Binds X.K fd ps ds) (hd : Vals dvs ds) (rd : ∀ F, RDs Z F dvs dds) (tk : Takes X W) (ha : MA Z X W (a :: es) m) (hl : (a :: es).length + dds.length = ps.length)
    (hdb : (n == ("__debug__" : Str)) = false := by decide) (he : starEach (a :: es) X.env = (false, eval a X.env) :: starEach es X.env := by rfl) (hpl : (backTo pos (starEach es X.env)).any (·.1) = false := by rfl) :
    ME Z X W (.Call (.Name n p) (a :: es) [] pos) (cCall g dds m) := by
  obtain ⟨ta, pa, ea, la⟩ := ha
  refine ⟨_, pe_callSD (E := WE W) Fn hr hg hm hk hb hd (passAt tk) pa hdb he hpl, fun σ F H e w Q hp => ?_⟩
  refine ea σ F H e w _ ?_
  cases hm' : m e with
  | no => unfold cCall at hp; rw [hm'] at hp; exact hp.elim
  | ok as e1 =>
    unfold cCall at hp
    rw [hm'] at hp
    exact fun F1 H1 s vs ra => post_call s.wf ra (rd F1) (by rw [la e as e1 hm']; exact hl) (Post.rebase s hp)
  | ex c fs e1 => unfold cCall at hp; rw [hm'] at hp; exact hp
end
end Md

/-! Md3: statements. -/
namespace Md
open PySem PySem.Spec PyProof.Rows L2
def O.seq (o : O) (b : MS) : O := match o with
  | .nx e => b e
  | o => o
def sNil : MS := fun e => .nx e
def sSeq (a b : MS) : MS := fun e => (a e).seq b
/-- slot i gets s, if it is no argument's object -/
def setE (i : Nat) (s : Slot) (e : En) : Option En := match e[i]? with
  | some (.io _) => none
  | none => none
  | _ => some (e.set i s)
def sSet (i : Nat) (m : M D) : MS := fun e => (m e).toO fun d e1 => match setE i (.dat d) e1 with
  | some e2 => .nx e2
  | none => .no
/-- a new list kept as slot i's own -/
def sNew (i : Nat) (m : M (List D)) : MS := fun e => (m e).toO fun ds e1 => match setE i (.own (.lst ds)) e1 with
  | some e2 => .nx e2
  | none => .no
def sExpr (m : M D) : MS := fun e => (m e).toO fun _ e1 => .nx e1
def sRet (m : M D) : MS := fun e => (m e).toO fun d e1 => .rt d e1
def sRetN : MS := fun e => .rt .non e
def sBrk : MS := fun e => .bk e
def sCt : MS := fun e => .ct e
def sIf (c : M Bool) (a b : MS) : MS := fun e => (c e).toO fun x e1 => if x = true then a e1 else b e1
/-- slot i's own list is data from here on -/
def sFreeze (i : Nat) (m : MS) : MS := fun e => match e[i]? with
  | some (.own (.lst xs)) => m (e.set i (.dat (.lst xs)))
  | _ => .no
def lstAt (e : En) (i : Nat) : Option (Slot × List D) := match e[i]? with
  | some s => match s.obj with
    | some (.lst xs) => some (s, xs)
    | _ => none
  | none => none
/-- a method of slot i's own list -/
def cMeth (i : Nat) (op : List D → List D → Option (D × List D)) (a : M (List Ar)) : M D := fun e => if (lstAt e i).isSome = true then (a e).bind fun as e1 => match datas as with
  | some ds => match lstAt e1 i with
    | some (s, xs) => match op xs ds with
      | some (d, ys) => .ok d (e1.set i (s.put (.lst ys)))
      | none => .no
    | none => .no
  | none => .no
  else .no
section
variable {Z : Wd} {W : WX} {X : Cx} {σ : L2.St} {F H F' H' : Hp} {e : En}
theorem WF.slotAt (w : WF Z F H σ e) {i : Nat} {s : Slot} (h : e[i]? = some s) : ∃ o, σ[i]? = some o ∧ SOk Z F H s o := by
  have hl : i < σ.length := by rw [w.len]; exact (List.getElem?_eq_some_iff.mp h).1
  exact ⟨_, List.getElem?_eq_getElem hl, w.slot i s _ h (List.getElem?_eq_getElem hl)⟩
theorem WF.own {i : Nat} {s : Slot} (w : WF Z F H σ e) (h : e[i]? = some s) (ho : s.obj.isSome = true) : ∃ a q, s.obj = some q ∧ σ[i]? = some (some (.ref a)) ∧ F a = none ∧ OOk Z F H a q := by
  obtain ⟨o, h1, h2⟩ := w.slotAt h
  obtain ⟨a, q, h3, h4, h5, h6⟩ := h2.obj ho
  exact ⟨a, q, h3, by rw [h1, h4], h5, h6⟩
/-- a slot gets a value that is data, or a new object of its own -/
theorem Sq.setAny {i : Nat} {s u : Slot} {v : Option V} (w : WF Z F H σ e) (h : e[i]? = some s) (hs : ∀ q, s ≠ .io q) (hu : SOk Z F' H' u v) (g : (Gr F H F' H' ∧ u.obj = none) ∨ (∃ a o, v = some (.ref a) ∧ H a = none ∧ Ex F F' ∧ Ex F' H ∧ (∀ b, F b = none → H b ≠ none → F' b = none) ∧ H' = upd H a o ∧ F' a = none ∧ (u.obj.isSome = true)))
    (hn : (∀ q, u ≠ .io q)) : Sq Z σ F H e (σ.set i v) F' H' (e.set i u) := by
  have gx : Ex F F' ∧ Ex F' H' ∧ Ex H H' ∧ (∀ b, F b = none → H b ≠ none → F' b = none) := by
    rcases g with ⟨g, _⟩ | ⟨a, o, _, ha, f1, f2, f3, rfl, _⟩
    · exact ⟨g.ext, g.sub, g.grow, g.new⟩
    · exact ⟨f1, f2.trans (Ex.new ha), Ex.new ha, f3⟩
  obtain ⟨x1, x2, x3, x4⟩ := gx
  have hi : i < e.length := (List.getElem?_eq_some_iff.mp h).1
  have hiσ : i < σ.length := by rw [w.len]; exact hi
  have old : ∀ (j : Nat) (t : Slot), j ≠ i → (e.set i u)[j]? = some t → e[j]? = some t := fun j t hj q => by
    rw [List.getElem?_set_ne (Ne.symm hj)] at q; exact q
  have oldσ : ∀ (j : Nat) (o : Option V), j ≠ i → (σ.set i v)[j]? = some o → σ[j]? = some o := fun j o hj q => by
    rw [List.getElem?_set_ne (Ne.symm hj)] at q; exact q
  have atU : ∀ t, (e.set i u)[i]? = some t → t = u := fun t q => by
    rw [List.getElem?_set_self hi] at q; exact (Option.some.inj q).symm
  have atV : ∀ o, (σ.set i v)[i]? = some o → o = v := fun t q => by
    rw [List.getElem?_set_self hiσ] at q; exact (Option.some.inj q).symm
  -- a new object is no other slot's
  have fresh : ∀ (j : Nat) (t : Slot) (a : Addr), j ≠ i → e[j]? = some t → t.obj.isSome = true → u.obj.isSome = true → σ[j]? = some (some (.ref a)) → v ≠ some (.ref a) := fun j t a hj q1 q2 q3 q4 q5 => by
    obtain ⟨b, q, _, h2, h3, h4⟩ := w.own q1 q2
    rw [q4] at h2
    cases h2
    obtain ⟨oo, h6, _⟩ := h4.there
    rcases g with ⟨g, hd⟩ | ⟨a', o, e1, ha, _⟩
    · rw [hd] at q3; cases q3
    · rw [q5] at e1
      cases e1
      rw [h6] at ha
      cases ha
  refine ⟨⟨x2, by simp [w.len], fun j t o q1 q2 => ?_, fun j k a s1 s2 q1 q2 q3 q4 q5 q6 => ?_, tabs_ex _ w.tabs x3 x4⟩, x1, fun a o q _ _ => x3 a o q, fun a q => ?_, fun a q1 q2 _ => x4 a q1 q2, fun a ⟨j, t, q1, q2, q3⟩ => ?_, fun j q q1 => ?_⟩
  · by_cases hj : j = i
    · subst hj
      rw [atU t q1, atV o q2]
      exact hu
    · have q := w.slot j t o (old j t hj q1) (oldσ j o hj q2)
      cases t with
      | unk => trivial
      | dat d => obtain ⟨v', h3, h4⟩ := q; exact ⟨v', h3, h4.mono x1⟩
      | own p =>
        obtain ⟨a, h3, h4, h5⟩ := q
        obtain ⟨u', h6, _⟩ := h5.there
        exact ⟨a, h3, x4 a h4 (by rw [h6]; simp), h5.mono x1 (x3 a)⟩
      | io p =>
        obtain ⟨a, h3, h4, h5⟩ := q
        obtain ⟨u', h6, _⟩ := h5.there
        exact ⟨a, h3, x4 a h4 (by rw [h6]; simp), h5.mono x1 (x3 a)⟩
  · by_cases hj : j = i
    · by_cases hk : k = i
      · rw [hj, hk]
      · exfalso
        subst hj
        rw [atU s1 q1] at q3
        exact fresh k s2 a hk (old k s2 hk q2) q4 q3 (oldσ k _ hk q6) (atV _ q5).symm
    · by_cases hk : k = i
      · exfalso
        subst hk
        rw [atU s2 q2] at q4
        exact fresh j s1 a hj (old j s1 hj q1) q3 q4 (oldσ j _ hj q5) (atV _ q6).symm
      · exact w.sep j k a s1 s2 (old j s1 hj q1) (old k s2 hk q2) q3 q4 (oldσ j _ hj q5) (oldσ k _ hk q6)
  · cases q' : H a with
    | none => exact absurd q' q
    | some o => rw [x3 a o q']; simp
  · by_cases hj : j = i
    · subst hj
      rw [atU t q1] at q2
      have q3 := atV _ q3
      rcases g with ⟨g, hd⟩ | ⟨a', o, e1, ha, _⟩
      · rw [hd] at q2; cases q2
      · rw [← q3] at e1
        cases e1
        exact .inr ha
    · exact .inl ⟨j, t, old j t hj q1, q2, oldσ j _ hj q3⟩
  · have hj : j ≠ i := fun z => by
      subst z
      rw [h] at q1
      exact hs q (Option.some.inj q1)
    exact ⟨⟨q, by rw [List.getElem?_set_ne (Ne.symm hj)]; exact q1⟩, by rw [List.getElem?_set_ne (Ne.symm hj)]⟩
theorem setE_some {i : Nat} {s : Slot} {e e2 : En} (h : setE i s e = some e2) : e2 = e.set i s ∧ ∃ t, e[i]? = some t ∧ ∀ q, t ≠ .io q := by
  unfold setE at h
  cases he : e[i]? with
  | none => rw [he] at h; cases h
  | some t =>
    rw [he] at h
    cases t with
    | io q => cases h
    | unk => cases h; exact ⟨rfl, _, rfl, fun q z => by cases z⟩
    | dat d => cases h; exact ⟨rfl, _, rfl, fun q z => by cases z⟩
    | own q' => cases h; exact ⟨rfl, _, rfl, fun q z => by cases z⟩
theorem Sq.setD {i : Nat} {e2 : En} {v : V} {d : D} (w : WF Z F H σ e) (h : setE i (.dat d) e = some e2) (r : RD Z F v d) : Sq Z σ F H e (σ.set i (some v)) F H e2 := by
  obtain ⟨rfl, t, h1, h2⟩ := setE_some h
  exact Sq.setAny w h1 h2 ⟨v, rfl, r⟩ (.inl ⟨Gr.refl w.sub, rfl⟩) (fun q z => by cases z)
theorem Sq.free {σ' : L2.St} {e' : En} {p : Addr} (s : Sq Z σ F H e σ' F' H' e') (h : H' p = none) : H p = none := by
  cases q : H p with
  | none => rfl
  | some o => exact absurd h (s.keep p (by rw [q]; simp))
theorem Sq.setN {i : Nat} {F1 H1 : Hp} {e1 e2 : En} {p : Addr} {vs : List V} {ds : List D} (w : WF Z F H σ e) (s : Sx Z σ F H e F1 H1 e1) (h : setE i (.own (.lst ds)) e1 = some e2) (n1 : H p = none) (n2 : F1 p = none) (n3 : H1 p = some (.lst vs)) (r : RDs Z F1 vs ds) :
    Sq Z σ F H e (σ.set i (some (.ref p))) F1 H1 e2 := by
  obtain ⟨rfl, t0, h1, h2⟩ := setE_some h
  have hi : i < e1.length := (List.getElem?_eq_some_iff.mp h1).1
  have hiσ : i < σ.length := by rw [s.wf.len]; exact hi
  have old : ∀ (j : Nat) (t : Slot), j ≠ i → (e1.set i (.own (.lst ds)))[j]? = some t → e1[j]? = some t := fun j t hj q => by
    rw [List.getElem?_set_ne (Ne.symm hj)] at q; exact q
  have oldσ : ∀ (j : Nat) (o : Option V), j ≠ i → (σ.set i (some (.ref p)))[j]? = some o → σ[j]? = some o := fun j o hj q => by
    rw [List.getElem?_set_ne (Ne.symm hj)] at q; exact q
  have atU : ∀ t, (e1.set i (.own (.lst ds)))[i]? = some t → t = .own (.lst ds) := fun t q => by
    rw [List.getElem?_set_self hi] at q; exact (Option.some.inj q).symm
  have atV : ∀ o, (σ.set i (some (.ref p)))[i]? = some o → o = some (.ref p) := fun t q => by
    rw [List.getElem?_set_self hiσ] at q; exact (Option.some.inj q).symm
  have other : ∀ (j : Nat) (t : Slot), j ≠ i → e1[j]? = some t → t.obj.isSome = true → σ[j]? ≠ some (some (.ref p)) := fun j t hj q1 q2 q3 => by
    obtain ⟨t', q4, q5⟩ := s.kd.obj q1 q2
    obtain ⟨a, q, _, q6, _, q7⟩ := w.own q4 q5
    rw [q3] at q6
    cases q6
    obtain ⟨o, q8, _⟩ := q7.there
    rw [n1] at q8
    cases q8
  refine ⟨⟨s.wf.sub, by simp [s.wf.len], fun j t o q1 q2 => ?_, fun j k a s1 s2 q1 q2 q3 q4 q5 q6 => ?_, s.wf.tabs⟩, s.ext, s.frame, s.keep, s.new, fun a ⟨j, t, q1, q2, q3⟩ => ?_, fun j q q1 => ?_⟩
  · by_cases hj : j = i
    · subst hj
      rw [atU t q1, atV o q2]
      exact ⟨p, rfl, n2, vs, n3, r⟩
    · exact s.wf.slot j t o (old j t hj q1) (oldσ j o hj q2)
  · by_cases hj : j = i
    · by_cases hk : k = i
      · rw [hj, hk]
      · exfalso
        subst hj
        have z := atV _ q5
        cases z
        exact other k s2 hk (old k s2 hk q2) q4 (oldσ k _ hk q6)
    · by_cases hk : k = i
      · exfalso
        subst hk
        have z := atV _ q6
        cases z
        exact other j s1 hj (old j s1 hj q1) q3 (oldσ j _ hj q5)
      · exact s.wf.sep j k a s1 s2 (old j s1 hj q1) (old k s2 hk q2) q3 q4 (oldσ j _ hj q5) (oldσ k _ hk q6)
  · by_cases hj : j = i
    · subst hj
      have z := atV _ q3
      cases z
      exact .inr n1
    · exact s.own a ⟨j, t, old j t hj q1, q2, oldσ j _ hj q3⟩
  · obtain ⟨⟨q', q2⟩, q3⟩ := s.io j q q1
    have hj : j ≠ i := fun z => by
      subst z
      rw [h1] at q2
      exact h2 q' (Option.some.inj q2)
    exact ⟨⟨q', by rw [List.getElem?_set_ne (Ne.symm hj)]; exact q2⟩, by rw [List.getElem?_set_ne (Ne.symm hj)]⟩
/-- slot i's own list becomes data -/
theorem Sq.freeze {i : Nat} {xs : List D} (w : WF Z F H σ e) (h : e[i]? = some (.own (.lst xs))) : ∃ F', Sq Z σ F H e σ F' H (e.set i (.dat (.lst xs))) := by
  obtain ⟨a, q, h1, h2, h3, h4⟩ := w.own h rfl
  cases h1
  obtain ⟨vs, h5, h6⟩ := h4
  have hi : i < e.length := (List.getElem?_eq_some_iff.mp h).1
  have x1 : Ex F (upd F a (.lst vs)) := Ex.new h3
  have x2 : Ex (upd F a (.lst vs)) H := fun b o q => by
    by_cases hb : b = a
    · subst hb; rw [upd_same] at q; cases q; exact h5
    · rw [upd_ne hb] at q; exact w.sub b o q
  have old : ∀ (j : Nat) (t : Slot), j ≠ i → (e.set i (.dat (.lst xs)))[j]? = some t → e[j]? = some t := fun j t hj q => by
    rw [List.getElem?_set_ne (Ne.symm hj)] at q; exact q
  have atU : ∀ t, (e.set i (.dat (.lst xs)))[i]? = some t → t = .dat (.lst xs) := fun t q => by
    rw [List.getElem?_set_self hi] at q; exact (Option.some.inj q).symm
  have other : ∀ (j : Nat) (t : Slot) (b : Addr), j ≠ i → e[j]? = some t → t.obj.isSome = true → σ[j]? = some (some (.ref b)) → b ≠ a := fun j t b hj q1 q2 q3 z => by
    subst z
    exact hj (w.sep j i b t _ q1 h q2 rfl q3 h2)
  refine ⟨upd F a (.lst vs), ⟨x2, by simp [w.len], fun j t o q1 q2 => ?_, fun j k b s1 s2 q1 q2 q3 q4 q5 q6 => ?_, ⟨w.tabs.1, fun p hp => by
    obtain ⟨ps, t1, _⟩ := w.tabs.1 p hp
    rw [upd_ne (fun z => by rw [z, h5] at t1; cases t1)]
    exact w.tabs.2.1 p hp, w.tabs.2.2⟩⟩, x1, fun _ _ q _ _ => q, fun _ q => q, fun b q1 q2 q3 => ?_, fun b ⟨j, t, q1, q2, q3⟩ => ?_, fun j q q1 => ?_⟩
  · by_cases hj : j = i
    · subst hj
      rw [atU t q1]
      rw [h2] at q2
      cases q2
      exact ⟨_, rfl, .lst upd_same (h6.mono x1)⟩
    · have q1' := old j t hj q1
      have q := w.slot j t o q1' q2
      cases t with
      | unk => trivial
      | dat d => obtain ⟨v', r3, r4⟩ := q; exact ⟨v', r3, r4.mono x1⟩
      | own p =>
        obtain ⟨b, r3, r4, r5⟩ := q
        exact ⟨b, r3, by rw [upd_ne (other j _ b hj q1' rfl (by rw [q2, r3]))]; exact r4, r5.mono x1 fun _ z => z⟩
      | io p =>
        obtain ⟨b, r3, r4, r5⟩ := q
        exact ⟨b, r3, by rw [upd_ne (other j _ b hj q1' rfl (by rw [q2, r3]))]; exact r4, r5.mono x1 fun _ z => z⟩
  · by_cases hj : j = i
    · subst hj; rw [atU s1 q1] at q3; cases q3
    · by_cases hk : k = i
      · subst hk; rw [atU s2 q2] at q4; cases q4
      · exact w.sep j k b s1 s2 (old j s1 hj q1) (old k s2 hk q2) q3 q4 q5 q6
  · by_cases hb : b = a
    · subst hb; exact absurd ⟨i, _, h, rfl, h2⟩ q3
    · rw [upd_ne hb]; exact q1
  · by_cases hj : j = i
    · subst hj; rw [atU t q1] at q2; cases q2
    · exact .inl ⟨j, t, old j t hj q1, q2, q3⟩
  · have hj : j ≠ i := fun z => by
      subst z
      rw [h] at q1
      cases q1
    exact ⟨⟨q, by rw [List.getElem?_set_ne (Ne.symm hj)]; exact q1⟩, rfl⟩
theorem OOk.plain {a : Addr} {q : OO} (h : OOk Z F H a q) : ∃ o, H a = some o ∧ NT o ∧ ∀ c q', o ≠ LamX.CodeO c q' := by
  cases q with
  | lst xs => obtain ⟨vs, h1, h2⟩ := h; exact ⟨_, h1, (fun _ z => by cases z), (fun c q' z => by have z' : HO.lst vs = HO.ext _ := z; cases z')⟩
  | ins c fs => obtain ⟨dx, fvs, h1, h2⟩ := h; exact ⟨_, h1, (fun _ z => by cases z), (fun c' q' z => by have z' : HO.ins (Z.CL c) dx fvs = HO.ext _ := z; cases z')⟩
  | dk kvs => obtain ⟨kv', h1, h2⟩ := h; exact ⟨_, h1, (fun _ z => by cases z), (fun c q' z => by have z' : HO.dK kv' = HO.ext _ := z; cases z')⟩
/-- slot i's object is changed -/
theorem Sq.change0 {i : Nat} {s : Slot} {a : Addr} {q : OO} {o : HO} (w : WF Z F H σ e) (h : e[i]? = some s) (hs : s.obj.isSome = true) (ha : σ[i]? = some (some (.ref a))) 
    (hq : OOk Z F (upd H a o) a q) : Sq Z σ F H e σ F (upd H a o) (e.set i (s.put q)) := by
  obtain ⟨b, q0, h1, h2, h3, h4⟩ := w.own h hs
  rw [ha] at h2
  cases h2
  have hi : i < e.length := (List.getElem?_eq_some_iff.mp h).1
  have old : ∀ (j : Nat) (t : Slot), j ≠ i → (e.set i (s.put q))[j]? = some t → e[j]? = some t := fun j t hj q => by
    rw [List.getElem?_set_ne (Ne.symm hj)] at q; exact q
  have atU : ∀ t, (e.set i (s.put q))[i]? = some t → t = s.put q := fun t q => by
    rw [List.getElem?_set_self hi] at q; exact (Option.some.inj q).symm
  have other : ∀ (j : Nat) (t : Slot) (b : Addr), j ≠ i → e[j]? = some t → t.obj.isSome = true → σ[j]? = some (some (.ref b)) → b ≠ a := fun j t b hj q1 q2 q3 z => by
    subst z
    exact hj (w.sep j i b t _ q1 h q2 hs q3 ha)
  refine ⟨⟨fun b u r => ?_, by simp [w.len], fun j t v q1 q2 => ?_, fun j k b s1 s2 q1 q2 q3 q4 q5 q6 => ?_, ⟨fun p hp => ?_, w.tabs.2.1, fun ta tc tF tq te => ?_⟩⟩, Ex.refl F, fun b u r _ no => ?_, fun b r => ?_, fun b q1 q2 q3 => q1, fun b ⟨j, t, q1, q2, q3⟩ => ?_, fun j r q1 => ?_⟩
  · have hb : b ≠ a := fun z => by rw [z, h3] at r; cases r
    rw [upd_ne hb]
    exact w.sub b u r
  · by_cases hj : j = i
    · subst hj
      rw [atU t q1]
      rw [ha] at q2
      cases q2
      cases s with
      | unk => cases hs
      | dat d => cases hs
      | own p => exact ⟨a, rfl, h3, hq⟩
      | io p => exact ⟨a, rfl, h3, hq⟩
    · have q1' := old j t hj q1
      have r := w.slot j t v q1' q2
      cases t with
      | unk => trivial
      | dat d => exact r
      | own p =>
        obtain ⟨b, r3, r4, r5⟩ := r
        exact ⟨b, r3, r4, r5.mono (Ex.refl F) fun u z => by rw [upd_ne (other j _ b hj q1' rfl (by rw [q2, r3]))]; exact z⟩
      | io p =>
        obtain ⟨b, r3, r4, r5⟩ := r
        exact ⟨b, r3, r4, r5.mono (Ex.refl F) fun u z => by rw [upd_ne (other j _ b hj q1' rfl (by rw [q2, r3]))]; exact z⟩
  · have o1 : s1.obj.isSome = true := q3
    by_cases hj : j = i
    · by_cases hk : k = i
      · rw [hj, hk]
      · subst hj
        exact w.sep j k b s s2 h (old k s2 hk q2) hs q4 q5 q6
    · by_cases hk : k = i
      · subst hk
        exact w.sep j k b s1 s (old j s1 hj q1) h q3 hs q5 q6
      · exact w.sep j k b s1 s2 (old j s1 hj q1) (old k s2 hk q2) q3 q4 q5 q6
  · obtain ⟨ps, t1, t2, t3⟩ := w.tabs.1 p hp
    obtain ⟨u0, e1, m⟩ := h4.plain
    have n1 : p.1 ≠ a := fun z => by
      rw [z, e1] at t1
      cases t1
      exact m.1 _ rfl
    refine ⟨ps, by rw [upd_ne n1]; exact t1, t2, fun pos cv r => ?_⟩
    obtain ⟨c, r1, r2⟩ := t3 pos cv r
    have n2 : c ≠ a := fun z => by
      rw [z, e1] at r2
      cases r2
      exact m.2 a p.2 rfl
    exact ⟨c, r1, by rw [upd_ne n2]; exact r2⟩
  · obtain ⟨u0, e1, m⟩ := h4.plain
    have r2 := w.tabs.2.2 ta tc tF tq te
    have n2 : tc ≠ a := fun z => by
      rw [z, e1] at r2
      cases r2
      exact m.2 a tq rfl
    rw [upd_ne n2]
    exact r2
  · have hb : b ≠ a := fun z => no ⟨i, s, h, hs, by rw [z]; exact ha⟩
    rw [upd_ne hb]
    exact r
  · by_cases hb : b = a
    · subst hb; rw [upd_same]; simp
    · rw [upd_ne hb]; exact r
  · by_cases hj : j = i
    · subst hj; exact .inl ⟨j, s, h, hs, q3⟩
    · exact .inl ⟨j, t, old j t hj q1, q2, q3⟩
  · by_cases hj : j = i
    · subst hj
      rw [h] at q1
      cases q1
      exact ⟨⟨q, by rw [List.getElem?_set_self hi]; rfl⟩, rfl⟩
    · exact ⟨⟨r, by rw [List.getElem?_set_ne (Ne.symm hj)]; exact q1⟩, rfl⟩
theorem Sq.change {i : Nat} {s : Slot} {a : Addr} {q : OO} {o : HO} (w : WF Z F H σ e) (h : e[i]? = some s) (hs : s.obj.isSome = true) (ha : σ[i]? = some (some (.ref a)))
    (hq : OOk Z F (upd H a o) a q) : Sx Z σ F H e F (upd H a o) (e.set i (s.put q)) := ⟨Sq.change0 w h hs ha hq, fun j => by
  by_cases hj : j = i
  · subst hj
    rw [List.getElem?_set_self (List.getElem?_eq_some_iff.mp h).1, h, Option.map_some, Option.map_some, put_obj]
  · rw [List.getElem?_set_ne (Ne.symm hj)]⟩
/-! ### statements' rules -/
variable {ma : M D} {mt : M Bool} {m1 m2 : MS} {a c : Expr} {pos : Pos} {st : Stmt} {rest : List Stmt}
theorem mls_nil : MLs Z X W [] sNil := ⟨_, pss_nil, fun σ F H e w N h => h σ F H (Sq.refl w)⟩
theorem exs_seq {t u : TS} (h1 : ExS Z t W m1) (h2 : ExS Z u W m2) : ExS Z (tSeq t u) W (sSeq m1 m2) := fun σ F H e w N h => by
  refine h1 σ F H e w _ ?_
  unfold sSeq O.seq at h
  cases ho : m1 e with
  | no => rw [ho] at h; exact h.elim
  | nx e1 => rw [ho] at h; exact fun σ1 F1 H1 s => h2 σ1 F1 H1 e1 s.wf N (PostS.rebase s h)
  | rt d e1 => rw [ho] at h; exact h
  | bk e1 => rw [ho] at h; exact h
  | ct e1 => rw [ho] at h; exact h
  | ex c fs e1 => rw [ho] at h; exact h
theorem mls_cons (h1 : ML Z X W st m1) (h2 : MLs Z X W rest m2) : MLs Z X W (st :: rest) (sSeq m1 m2) := by
  obtain ⟨t, p, x⟩ := h1
  obtain ⟨u, q, y⟩ := h2
  exact ⟨_, pss_cons p q, exs_seq x y⟩
theorem mls_freeze {i : Nat} {sts : List Stmt} (h : MLs Z X W sts m1) : MLs Z X W sts (sFreeze i m1) := by
  obtain ⟨t, p, x⟩ := h
  refine ⟨t, p, fun σ F H e w N hp => ?_⟩
  unfold sFreeze at hp
  cases he : e[i]? with
  | none => rw [he] at hp; exact hp.elim
  | some s =>
    rw [he] at hp
    cases s with
    | own q =>
      cases q with
      | lst xs =>
        obtain ⟨F', s'⟩ := Sq.freeze w he
        exact x σ F' H _ s'.wf N (PostS.rebase s' hp)
      | ins c fs => exact hp.elim
      | dk kv => exact hp.elim
    | unk => exact hp.elim
    | dat d => exact hp.elim
    | io q => exact hp.elim
theorem ml_set {i : Nat} {x : Str} {pos' : Pos} (hN : X.N.Nodup) (hi : X.N[i]? = some x) (hx : Loc X.env.scope x) (h : ME Z X W a ma) (hsw : ∀ te, PE X a te → PS X (.Assign [.Name x pos'] a pos) (tAsg te (gName i))) : ML Z X W (.Assign [.Name x pos'] a pos) (sSet i ma) := by
  obtain ⟨te, p, ev⟩ := h
  refine ⟨_, hsw te p, fun σ F H e w N hp => ?_⟩
  refine ev.bindS w hp fun d v F1 H1 e1 s rd hp1 => ?_
  cases hs : setE i (.dat d) e1 with
  | none => rw [hs] at hp1; exact hp1.elim
  | some e2 => rw [hs] at hp1; exact hp1 _ F1 H1 (Sq.setD s.wf hs rd)
/-- a new list -/
def EvN (Z : Wd) (te : TE) (W : WX) (m : M (List D)) : Prop := ∀ (σ : L2.St) (F H : Hp) (e : En), WF Z F H σ e → ∀ Q : VK, Post Z W σ F H e (m e) (fun ds F' H' => ∀ p vs, H p = none → F' p = none → H' p = some (.lst vs) → RDs Z F' vs ds → Q (.ref p) H') → te σ H Q
def MN (Z : Wd) (X : Cx) (W : WX) (x : Expr) (m : M (List D)) : Prop := ∃ te, PE X x te ∧ EvN Z te W m
def cNewL (a : M (List Ar)) : M (List D) := fun e => (a e).bind fun as e1 => match datas as with
  | some ds => if ds.length ≤ sizeLine then .ok ds e1 else .no
  | none => .no
theorem mn_lst {es : List Expr} {m : M (List Ar)} (h : MA Z X W es m) : MN Z X W (.List es pos) (cNewL m) := by
  obtain ⟨ta, pa, ea, _⟩ := h
  refine ⟨_, pe_lst pa, fun σ F H e w Q hp => ea.bind w hp fun as vs F1 H1 e1 s1 ra hp1 => ?_⟩
  cases q : datas as with
  | none => rw [q] at hp1; exact hp1.elim
  | some ds =>
    rw [q] at hp1
    have rs := datas_ok ra q
    by_cases hl : ds.length ≤ sizeLine
    · simp only [hl, if_true] at hp1
      exact ⟨by rw [rs.length]; exact hl, fun p hn => Post.gr s1.wf hp1 (Gr.new0 s1.wf.sub hn) p vs (s1.toSq.free hn) (fr_of s1.wf.sub hn) upd_same rs⟩
    · simp only [hl, if_false] at hp1
      exact hp1.elim
theorem ml_new {i : Nat} {x : Str} {pos' : Pos} {m : M (List D)} (h : MN Z X W a m) (hsw : ∀ te, PE X a te → PS X (.Assign [.Name x pos'] a pos) (tAsg te (gName i))) : ML Z X W (.Assign [.Name x pos'] a pos) (sNew i m) := by
  obtain ⟨te, p, ev⟩ := h
  refine ⟨_, hsw te p, fun σ F H e w N hp => ?_⟩
  refine ev σ F H e w _ ?_
  unfold sNew at hp
  cases hm : m e with
  | no => rw [hm] at hp; exact hp.elim
  | ex c' fs e1 => rw [hm] at hp; exact fun d' F' H' s xf => hp d' σ F' H' s.toSq xf
  | ok ds e1 =>
    rw [hm] at hp
    intro F1 H1 s p vs n1 n2 n3 rd
    change PostS Z W σ F H e (match setE i (.own (.lst ds)) e1 with
      | some e2 => .nx e2
      | none => .no) N at hp
    cases hs : setE i (.own (.lst ds)) e1 with
    | none => rw [hs] at hp; exact hp.elim
    | some e2 => rw [hs] at hp; exact hp _ F1 H1 (Sq.setN w s hs n1 n2 n3 rd)
theorem ml_expr (h : ME Z X W a ma) (hs : swapsWith a none pos.line X.env = pure false := by rfl) : ML Z X W (.Expr a pos) (sExpr ma) := by
  obtain ⟨te, p, ev⟩ := h
  refine ⟨_, ps_expr p hs, fun σ F H e w N hp => ?_⟩
  exact ev.bindS w hp fun d v F1 H1 e1 s rd hp1 => hp1 σ F1 H1 (Sq.refl s.wf)
theorem ml_ret (h : ME Z X W a ma) : ML Z X W (.Return (some a) pos) (sRet ma) := by
  obtain ⟨te, p, ev⟩ := h
  refine ⟨_, ps_ret p, fun σ F H e w N hp => ?_⟩
  exact ev.bindS w hp fun d v F1 H1 e1 s rd hp1 => hp1 v σ F1 H1 (Sq.refl s.wf) rd
theorem ml_retN : ML Z X W (.Return none pos) sRetN := ⟨_, ps_retN, fun σ F H e w N hp => hp .non σ F H (Sq.refl w) .non⟩
theorem ml_break : ML Z X W (.Break pos) sBrk := ⟨_, ps_break, fun σ F H e w N hp => hp σ F H (Sq.refl w)⟩
theorem ml_continue : ML Z X W (.Continue pos) sCt := ⟨_, ps_continue, fun σ F H e w N hp => hp σ F H (Sq.refl w)⟩
theorem ml_pass : ML Z X W (.Pass pos) sNil := ⟨_, ps_pass, fun σ F H e w N hp => hp σ F H (Sq.refl w)⟩
theorem ml_if {s1 s2 : List Stmt} (h : MT Z X W c mt) (h1 : MLs Z X W s1 m1) (h2 : MLs Z X W s2 m2) : ML Z X W (.If c s1 s2 pos) (sIf mt m1 m2) := by
  obtain ⟨tt, p, ev⟩ := h
  obtain ⟨t, q, x⟩ := h1
  obtain ⟨u, r, y⟩ := h2
  refine ⟨_, ps_if p q r, fun σ F H e w N hp => ?_⟩
  refine ev.bindS w hp fun b F1 H1 e1 s hp1 => ?_
  cases b with
  | true => exact x σ F1 H1 e1 s.wf N hp1
  | false => exact y σ F1 H1 e1 s.wf N hp1
theorem lstAt_some {i : Nat} {s : Slot} {xs : List D} (w : WF Z F H σ e) (h : lstAt e i = some (s, xs)) : ∃ a vs, e[i]? = some s ∧ s.obj = some (.lst xs) ∧ σ[i]? = some (some (.ref a)) ∧ F a = none ∧ H a = some (.lst vs) ∧ RDs Z F vs xs := by
  unfold lstAt at h
  cases he : e[i]? with
  | none => rw [he] at h; cases h
  | some t =>
    rw [he] at h
    dsimp only at h
    cases ho : t.obj with
    | none => rw [ho] at h; cases h
    | some q =>
      rw [ho] at h
      cases q with
      | lst ys =>
        cases h
        obtain ⟨a, q, h1, h2, h3, h4⟩ := w.own he (by rw [ho]; rfl)
        rw [ho] at h1
        cases h1
        obtain ⟨vs, h5, h6⟩ := h4
        exact ⟨a, vs, rfl, ho, h2, h3, h5, h6⟩
      | ins c fs => cases h
      | dk kv => cases h
def MthOk (Z : Wd) (r : V → List V → Hp → VK → Prop) (op : List D → List D → Option (D × List D)) : Prop := ∀ (F H : Hp) (l : Addr) (vs ws : List V) (xs ds ys : List D) (d : D), H l = some (.lst vs) → RDs Z F vs xs → RDs Z F ws ds → op xs ds = some (d, ys) →
  ∀ Q : VK, (∀ v vs', RD Z F v d → RDs Z F vs' ys → Q v (upd H l (.lst vs'))) → r (.ref l) ws H Q
theorem eve_meth {i : Nat} {r : V → List V → Hp → VK → Prop} {op : List D → List D → Option (D × List D)} {ta : TA} {m : M (List Ar)} (hr : MthOk Z r op) (ea : EvA Z ta W m) : EvE Z (tBM Z.K "list" r (tVar i) ta) W (cMeth i op m) := fun σ F H e w Q hp => by
  unfold cMeth at hp
  cases h0 : lstAt e i with
  | none => rw [h0] at hp; exact hp.elim
  | some p =>
    obtain ⟨s0, xs0⟩ := p
    rw [h0] at hp
    simp only [Option.isSome_some, if_true] at hp
    obtain ⟨a, vs, h1, h2, h3, h4, h5, h6⟩ := lstAt_some w h0
    refine ⟨_, h3, Or.inl ⟨rfl, vs, Or.inl (Or.inl h5)⟩, ?_⟩
    refine ea.bind w hp fun as ws F1 H1 e1 s1 ra hp1 => ?_
    cases q : datas as with
    | none => rw [q] at hp1; exact hp1.elim
    | some ds =>
      rw [q] at hp1
      dsimp only at hp1
      cases h7 : lstAt e1 i with
      | none => rw [h7] at hp1; exact hp1.elim
      | some p =>
        obtain ⟨s, xs⟩ := p
        rw [h7] at hp1
        dsimp only at hp1
        obtain ⟨a', vs1, g1, g2, g3, g4, g5, g6⟩ := lstAt_some s1.wf h7
        rw [h3] at g3
        cases g3
        cases h8 : op xs ds with
        | none => rw [h8] at hp1; exact hp1.elim
        | some p =>
          obtain ⟨d, ys⟩ := p
          rw [h8] at hp1
          dsimp only at hp1
          refine hr F1 H1 a vs1 ws xs ds ys d g5 g6 (datas_ok ra q) h8 Q fun v vs' rv rs => ?_
          exact hp1 F1 _ (Sq.change s1.wf g1 (by rw [g2]; rfl) h3 ⟨vs', upd_same, rs⟩) v rv
def mAppend : List D → List D → Option (D × List D)
  | xs, [d] => if xs.length < sizeLine then some (.non, xs ++ [d]) else none
  | _, _ => none
theorem mth_append : MthOk Z rAppend mAppend := fun F H l vs ws xs ds ys d h1 r1 r2 h Q q => by
  cases r2 with
  | nil => simp [mAppend] at h
  | cons h2 t =>
    cases t with
    | cons _ _ => simp [mAppend] at h
    | nil =>
      by_cases hl : xs.length < sizeLine
      · simp only [mAppend, hl, if_true, Option.some.injEq, Prod.mk.injEq] at h
        obtain ⟨rfl, rfl⟩ := h
        exact ⟨l, vs, _, rfl, rfl, h1, by rw [r1.length]; exact hl, q .non _ .non (r1.append (.cons h2 .nil))⟩
      · simp only [mAppend, hl, if_false] at h
        cases h
theorem me_append {i : Nat} {n : Str} {p1 p2 p3 : Pos} {es : List Expr} {m : M (List Ar)} (hK : X.K = Z.K) (hN : X.N[i]? = some n) (hv : Vis X.env.scope n) (ha : MA Z X W (a :: es) m) (hd : (n == ("__debug__" : Str)) = false := by decide) (hcd : (n == ("__classdict__" : Str)) = false := by decide)
    (hp : ∀ to ta, PE X (.Name n p1) to → PA X (a :: es) ta → PE X (.Call (.Attribute (.Name n p1) "append" p2) (a :: es) [] p3) (tBM X.K "list" rAppend to ta)) :
    ME Z X W (.Call (.Attribute (.Name n p1) "append" p2) (a :: es) [] p3) (cMeth i mAppend m) := by
  obtain ⟨ta, pa, ea, _⟩ := ha
  refine ⟨_, hp _ _ (pe_var hN hv hd hcd) pa, ?_⟩
  rw [hK]
  exact eve_meth mth_append ea
end
end Md

/-! Md4: loops, targets, comprehensions. -/
namespace Md
open PySem PySem.Spec PyProof.Rows L2
/-! ### targets -/
abbrev Tg := D → En → Option En
def tName (i : Nat) : Tg := fun d e => setE i (.dat d) e
def tgs : List Tg → List D → En → Option En
  | [], [], e => some e
  | t :: ts, d :: ds, e => (t d e).bind fun e1 => tgs ts ds e1
  | _, _, _ => none
/-- a tuple (or a list) taken apart -/
def tTuple (ts : List Tg) : Tg := fun d e => match d with
  | .tup ds => tgs ts ds e
  | .lst ds => tgs ts ds e
  | _ => none
/-- a target stores into its own slots, data alone -/
def TgOwn (own : List Nat) (t : Tg) : Prop := ∀ d e e', t d e = some e' → e'.length = e.length ∧ ∀ i : Nat, (i ∉ own → e'[i]? = e[i]?) ∧ (i ∈ own → e'[i]? = e[i]? ∨ ∃ x, e'[i]? = some (.dat x))
def StOwn (own : List Nat) (σ σ' : L2.St) : Prop := σ'.length = σ.length ∧ ∀ i : Nat, i ∉ own → σ'[i]? = σ[i]?
def EvG (Z : Wd) (g : TG) (t : Tg) (own : List Nat) : Prop := TgOwn own t ∧ ∀ (σ : L2.St) (F H : Hp) (e e' : En) (v : V) (d : D), WF Z F H σ e → RD Z F v d → t d e = some e' → ∀ Q : L2.St → Hp → Prop, (∀ σ' F' H', Sq Z σ F H e σ' F' H' e' → StOwn own σ σ' → Q σ' H') → g v σ H Q
def EvGs (Z : Wd) (g : TGs) (ts : List Tg) (own : List Nat) : Prop := (∀ t ∈ ts, TgOwn own t) ∧ ∀ (σ : L2.St) (F H : Hp) (e e' : En) (vs : List V) (ds : List D), WF Z F H σ e → RDs Z F vs ds → tgs ts ds e = some e' → ∀ Q : L2.St → Hp → Prop, (∀ σ' F' H', Sq Z σ F H e σ' F' H' e' → StOwn own σ σ' → Q σ' H') → g vs σ H Q
section
variable {Z : Wd} {W : WX} {X : Cx} {σ : L2.St} {F H F' H' : Hp} {e : En}
theorem tgown_name {i : Nat} : TgOwn [i] (tName i) := fun d e e' h => by
  obtain ⟨rfl, t, h1, _⟩ := setE_some h
  refine ⟨by simp, fun j => ⟨fun hj => ?_, fun hj => ?_⟩⟩
  · rw [List.getElem?_set_ne (fun z => hj (by rw [z]; exact List.mem_singleton.mpr rfl))]
  · rw [List.mem_singleton.mp hj, List.getElem?_set_self (List.getElem?_eq_some_iff.mp h1).1]
    exact .inr ⟨d, rfl⟩
theorem TgOwn.mono {own own' : List Nat} {t : Tg} (h : TgOwn own t) (hs : ∀ i ∈ own, i ∈ own') : TgOwn own' t := fun d e e' q => by
  obtain ⟨h1, h2⟩ := h d e e' q
  refine ⟨h1, fun i => ⟨fun hi => (h2 i).1 fun z => hi (hs i z), fun hi => ?_⟩⟩
  by_cases z : i ∈ own
  · exact (h2 i).2 z
  · exact .inl ((h2 i).1 z)
theorem StOwn.mono {own own' : List Nat} {σ σ' : L2.St} (h : StOwn own σ σ') (hs : ∀ i ∈ own, i ∈ own') : StOwn own' σ σ' := ⟨h.1, fun i hi => h.2 i fun z => hi (hs i z)⟩
theorem tgs_own {own : List Nat} : ∀ (ts : List Tg) (ds : List D) (e e' : En), (∀ t ∈ ts, TgOwn own t) → tgs ts ds e = some e' → e'.length = e.length ∧ ∀ i : Nat, (i ∉ own → e'[i]? = e[i]?) ∧ (i ∈ own → e'[i]? = e[i]? ∨ ∃ x, e'[i]? = some (.dat x)) := by
  intro ts
  induction ts with
  | nil =>
    intro ds e e' _ q
    cases ds with
    | nil => cases q; exact ⟨rfl, fun i => ⟨fun _ => rfl, fun _ => .inl rfl⟩⟩
    | cons _ _ => cases q
  | cons t ts ih =>
    intro ds e e' h q
    cases ds with
    | nil => cases q
    | cons d ds =>
      unfold tgs at q
      cases ht : t d e with
      | none => rw [ht] at q; cases q
      | some e1 =>
        rw [ht] at q
        obtain ⟨a1, a2⟩ := h t List.mem_cons_self d e e1 ht
        obtain ⟨b1, b2⟩ := ih ds e1 e' (fun t ht => h t (List.mem_cons_of_mem _ ht)) q
        refine ⟨b1.trans a1, fun i => ⟨fun hi => ((b2 i).1 hi).trans ((a2 i).1 hi), fun hi => ?_⟩⟩
        rcases (b2 i).2 hi with z | z
        · rw [z]; exact (a2 i).2 hi
        · exact .inr z
theorem evg_name {i : Nat} : EvG Z (gName i) (tName i) [i] := ⟨tgown_name, fun σ F H e e' v d w r h Q q => q _ F H (Sq.setD w h r) ⟨by simp, fun j hj => by rw [List.getElem?_set_ne (fun z => hj (by rw [z]; exact List.mem_singleton.mpr rfl))]⟩⟩
theorem evgs_nil {own : List Nat} : EvGs Z gNil [] own := ⟨(fun _ h => by cases h), fun σ F H e e' vs ds w r h Q q => by
  cases r with
  | nil => cases h; exact ⟨rfl, q σ F H (Sq.refl w) ⟨rfl, fun _ _ => rfl⟩⟩
  | cons _ _ => cases h⟩
theorem evgs_cons {g : TG} {gs : TGs} {t : Tg} {ts : List Tg} {o1 o2 : List Nat} (h1 : EvG Z g t o1) (h2 : EvGs Z gs ts o2) : EvGs Z (gCons g gs) (t :: ts) (o1 ++ o2) := ⟨(fun u hu => by
  rcases List.mem_cons.mp hu with rfl | hu
  · exact h1.1.mono fun i hi => List.mem_append_left _ hi
  · exact (h2.1 u hu).mono fun i hi => List.mem_append_right _ hi), fun σ F H e e' vs ds w r h Q q => by
  cases r with
  | nil => cases h
  | cons rv rs =>
    rename_i v d vs ds
    unfold tgs at h
    cases ht : t d e with
    | none => rw [ht] at h; cases h
    | some e1 =>
      rw [ht] at h
      exact ⟨v, vs, rfl, h1.2 σ F H e e1 v d w rv ht _ fun σ1 F1 H1 s o => h2.2 σ1 F1 H1 e1 e' vs ds s.wf (rs.mono s.ext) h _ fun σ2 F2 H2 s2 o2 => q σ2 F2 H2 (s.trans s2)
        ⟨o2.1.trans o.1, fun i hi => (o2.2 i fun z => hi (List.mem_append_right _ z)).trans (o.2 i fun z => hi (List.mem_append_left _ z))⟩⟩⟩
theorem tgs_length : ∀ {ts : List Tg} {ds : List D} {e e' : En}, tgs ts ds e = some e' → ds.length = ts.length
  | [], [], _, _, _ => rfl
  | [], _ :: _, _, _, h => by cases h
  | _ :: _, [], _, _, h => by cases h
  | t :: ts, d :: ds, e, e', h => by
    unfold tgs at h
    cases ht : t d e with
    | none => rw [ht] at h; cases h
    | some e1 => rw [ht] at h; rw [List.length_cons, List.length_cons, tgs_length h]
theorem tgown_tup {own : List Nat} {ts : List Tg} (h : ∀ t ∈ ts, TgOwn own t) : TgOwn own (tTuple ts) := fun d e e' q => by
  cases d with
  | tup ds => exact tgs_own ts ds e e' h q
  | lst ds => exact tgs_own ts ds e e' h q
  | _ => cases q
def gSeq (K : PySem.W.Frag) (n : Nat) (t : TGs) : TG := fun v σ H Q => gTup K n t v σ H Q ∨ gLst K n t v σ H Q
theorem evg_tup {n : Nat} {gs : TGs} {ts : List Tg} {own : List Nat} (h : EvGs Z gs ts own) (hn : n = ts.length) : EvG Z (gSeq Z.K n gs) (tTuple ts) own := ⟨tgown_tup h.1, fun σ F H e e' v d w r ht Q q => by
  cases r with
  | tup hs rs =>
    exact .inl ⟨_, _, rfl, ex_t w.sub hs, by rw [rs.length, tgs_length ht, hn], h.2 σ F H e e' _ _ w rs ht Q q⟩
  | lst hs rs =>
    exact .inr ⟨_, _, rfl, .inl (.inl (w.sub _ _ hs)), by rw [rs.length, tgs_length ht, hn], h.2 σ F H e e' _ _ w rs ht Q q⟩
  | _ => cases ht⟩
/-! ### what is walked -/
def IterOk (Z : Wd) (F H : Hp) (J : It) (ds : List D) : Prop := ∃ (G : Hp → Prop) (Y : Nat → Hp → V → Hp → Prop), Walk J ds.length G Y ∧ (∀ F' H', Ex F F' → Ex F' H' → G H') ∧
  ∀ i H1 x H1' F1, Ex F F1 → Ex F1 H1 → Y i H1 x H1' → ∃ d F2, ds[i]? = some d ∧ Gr F1 H1 F2 H1' ∧ RD Z F2 x d
def EvI (Z : Wd) (wi : TI) (W : WX) (m : M (List D)) : Prop := ∀ (σ : L2.St) (F H : Hp) (e : En), WF Z F H σ e → ∀ R : It → Hp → Prop, Post Z W σ F H e (m e) (fun ds F' H' => ∀ J, IterOk Z F' H' J ds → R J H') → wi σ H R
theorem iter_list {F H : Hp} {a : Addr} {vs : List V} {ds : List D} (h : SqL Z.K F a vs) (r : RDs Z F vs ds) : IterOk Z F H (Itl Z.K a) ds := by
  refine ⟨fun H => SqL Z.K H a vs, YAt vs, by rw [← r.length]; exact walk_list, fun F' H' x y => ex_l (x.trans y) h, fun i H1 x H1' F1 x1 x2 y => ?_⟩
  obtain ⟨rfl, hx⟩ := y
  obtain ⟨d, h1, h2⟩ := r.get hx
  exact ⟨d, F1, h1, Gr.refl x2, h2.mono x1⟩
theorem iter_tup {F H : Hp} {a : Addr} {vs : List V} {ds : List D} (h : SqT Z.K F a vs) (r : RDs Z F vs ds) : IterOk Z F H (Itt Z.K a) ds := by
  refine ⟨fun H => SqT Z.K H a vs, YAt vs, by rw [← r.length]; exact walk_tup, fun F' H' x y => ex_t (x.trans y) h, fun i H1 x H1' F1 x1 x2 y => ?_⟩
  obtain ⟨rfl, hx⟩ := y
  obtain ⟨d, h1, h2⟩ := r.get hx
  exact ⟨d, F1, h1, Gr.refl x2, h2.mono x1⟩
def rgD (a : Int) (n : Nat) : List D := (List.range n).map fun i => D.int (a + (i : Nat))
theorem iter_range {F H : Hp} {a : Int} {n : Nat} : IterOk Z F H (Itr a n) (rgD a n) := by
  have hl : (rgD a n).length = n := by unfold rgD; rw [List.length_map, List.length_range]
  refine ⟨fun _ => True, fun i H x H' => i < n ∧ H' = H ∧ x = .int (a + i), by rw [hl]; exact ⟨fun _ _ hi _ => hi, fun _ _ => Nat.le_refl _, fun _ _ _ _ hi _ y => ⟨hi, y⟩⟩, fun _ _ _ _ => trivial, fun i H1 x H1' F1 x1 x2 y => ?_⟩
  obtain ⟨hi, rfl, rfl⟩ := y
  exact ⟨.int (a + i), F1, by unfold rgD; rw [List.getElem?_map, List.getElem?_range hi]; rfl, Gr.refl x2, .int _⟩
/-- a list or a tuple -/
def iSeq (K : PySem.W.Frag) (tl : TE) : TI := fun σ H R => tl σ H fun x H1 => (∃ a, x = .ref a ∧ (∃ xs, SqL K H1 a xs) ∧ R (Itl K a) H1) ∨ (∃ a, x = .ref a ∧ (∃ xs, SqT K H1 a xs) ∧ R (Itt K a) H1) ∨ ∃ z, x = .str z ∧ R (Its z) H1
theorem pi_seq {tg l : Expr} {tl : TE} (hl : PE X l tl) : PI X tg l (iSeq X.K tl) := by
  refine ⟨fun pins s σ H R I h => ?_⟩
  refine thn (hl.run pins s σ H _ I h) fun v s1 ⟨x, H1, I1, r1, q1⟩ => ?_
  rcases q1 with ⟨a, e, ⟨xs, hq⟩, q⟩ | ⟨a, e, ⟨xs, hq⟩, q⟩ | ⟨z, e, q⟩
  · subst e
    cases r1
    obtain ⟨its, rv, p, hz⟩ := I1.list hq
    refine wpAny_pyIter_list p.isList ?_
    refine ⟨s1.heap.objs.size, [s1.heap.objs.size], _, _, H1, rfl, I1.kept (t' := s1.toks) fun b o e => Heap.get?_push_of_some _ e, turn_list a _, ⟨_, Heap.get?_push_size _ rfl, rfl, rfl⟩, fun b hb => ?_, q⟩
    have e : b = s1.heap.objs.size := by simpa using hb
    subst e
    exact I1.fpOk (Nat.le_refl _) (I1.hok.fresh (Nat.le_refl _))
  · subst e
    cases r1
    obtain ⟨its, rv, p, hz⟩ := I1.tuple hq
    refine wpAny_pyIter_tuple (show s1.heap.IsTuple a its.toArray from p) ?_
    refine ⟨s1.heap.objs.size, [s1.heap.objs.size], _, _, H1, rfl, I1.kept (t' := s1.toks) fun b o e => Heap.get?_push_of_some _ e, turn_tuple a _, ⟨_, Heap.get?_push_size _ rfl, rfl, rfl⟩, fun b hb => ?_, q⟩
    have e : b = s1.heap.objs.size := by simpa using hb
    subst e
    exact I1.fpOk (Nat.le_refl _) (I1.hok.fresh (Nat.le_refl _))
  · subst e
    obtain ⟨t, rfl⟩ := r1
    cases ha : z.cps.all (· < 128)
    · exact wpAny_pyIter_wide ha (pi_one (tk := s1.toks) I1 _ (turn_str _ z t "str_iterator" (.inr rfl)) ⟨_, Heap.get?_push_size _ rfl, rfl, rfl⟩ q)
    · exact wpAny_pyIter_ascii ha (pi_one (tk := s1.toks) I1 _ (turn_str _ z t "str_ascii_iterator" (.inl rfl)) ⟨_, Heap.get?_push_size _ rfl, rfl, rfl⟩ q)
/-- the signs of a string -/
def strD (z : Str) : List D := z.cps.toList.map fun c => D.str ⟨#[c]⟩
theorem iter_str {F H : Hp} {z : Str} : IterOk Z F H (Its z) (strD z) := by
  have hl : (strD z).length = z.cps.size := by unfold strD; rw [List.length_map, Array.length_toList]
  refine ⟨fun _ => True, fun i H v H' => H' = H ∧ ∃ c, z.cps[i]? = some c ∧ v = .str ⟨#[c]⟩, by rw [hl]; exact walk_str, fun _ _ _ _ => trivial, fun i H1 x H1' F1 x1 x2 y => ?_⟩
  obtain ⟨rfl, c, hc, rfl⟩ := y
  exact ⟨.str ⟨#[c]⟩, F1, by unfold strD; rw [List.getElem?_map, Array.getElem?_toList, hc]; rfl, Gr.refl x2, .str _⟩
/-- the items of a list or tuple -/
def iItems (m : M D) : M (List D) := fun e => (m e).bind fun d e1 => match d with
  | .lst ds => .ok ds e1
  | .tup ds => .ok ds e1
  | .str z => .ok (strD z) e1
  | _ => .no
theorem evi_seq {te : TE} {m : M D} (ev : EvE Z te W m) : EvI Z (iSeq Z.K te) W (iItems m) := fun σ F H e w R hp =>
  ev.bind w hp fun d v F1 H1 e1 s rd hp1 => by
    cases rd with
    | lst h r => exact .inl ⟨_, rfl, ⟨_, Or.inl (Or.inl (s.wf.sub _ _ h))⟩, Post.here s.wf hp1 _ (iter_list (Or.inl (Or.inl h)) r)⟩
    | tup h r => exact .inr (.inl ⟨_, rfl, ⟨_, ex_t s.wf.sub h⟩, Post.here s.wf hp1 _ (iter_tup h r)⟩)
    | str z => exact .inr (.inr ⟨z, rfl, Post.here s.wf hp1 _ iter_str⟩)
    | _ => exact hp1.elim
def arInts : List Ar → Option (List Int)
  | [] => some []
  | .d (.int n) :: as => (arInts as).map (n :: ·)
  | _ => none
theorem arInts_ok : ∀ {vs : List V} {as : List Ar} {ns : List Int}, ArOk Z F σ vs as → arInts as = some ns → vs = ns.map V.int
  | _, _, _, .nil, h => by cases h; rfl
  | _, _, _, .v _ _, h => by simp [arInts] at h
  | _, _, _, .d (x := x) (as := as) hd t, h => by
    cases hd with
    | int n =>
      simp only [arInts] at h
      cases q : arInts as with
      | none => rw [q] at h; cases h
      | some ms => rw [q] at h; cases h; rw [arInts_ok t q]; rfl
    | _ => simp [arInts] at h
def iRange1 (m : M (List Ar)) : M (List D) := fun e => (m e).bind fun as e1 => match arInts as with
  | some [n] => if -(2 ^ 62) ≤ n ∧ n < 2 ^ 62 then .ok (rgD 0 n.toNat) e1 else .no
  | _ => .no
def iRange2 (m : M (List Ar)) : M (List D) := fun e => (m e).bind fun as e1 => match arInts as with
  | some [a, b] => if -(2 ^ 62) ≤ a ∧ a < 2 ^ 62 ∧ -(2 ^ 62) ≤ b ∧ b < 2 ^ 62 then .ok (rgD a (b - a).toNat) e1 else .no
  | _ => .no
theorem evi_range1 {ta : TA} {m : M (List Ar)} (ev : EvA Z ta W m) : EvI Z (iRng1 ta) W (iRange1 m) := fun σ F H e w R hp =>
  ev.bind w hp fun as vs F1 H1 e1 s ra hp1 => by
    cases q : arInts as with
    | none => rw [q] at hp1; exact hp1.elim
    | some ns =>
      rw [q] at hp1
      have ev := arInts_ok ra q
      match ns, hp1, ev with
      | [n], hp1, ev =>
        by_cases hc : -(2 ^ 62) ≤ n ∧ n < 2 ^ 62
        · simp only [hc, and_self, if_true] at hp1
          exact ⟨n, ev, hc.1, hc.2, Post.here s.wf hp1 _ iter_range⟩
        · simp only [hc, if_false] at hp1
          exact hp1.elim
      | [], hp1, _ => exact hp1.elim
      | _ :: _ :: _, hp1, _ => exact hp1.elim
theorem evi_range2 {ta : TA} {m : M (List Ar)} (ev : EvA Z ta W m) : EvI Z (iRng2 ta) W (iRange2 m) := fun σ F H e w R hp =>
  ev.bind w hp fun as vs F1 H1 e1 s ra hp1 => by
    cases q : arInts as with
    | none => rw [q] at hp1; exact hp1.elim
    | some ns =>
      rw [q] at hp1
      have ev := arInts_ok ra q
      match ns, hp1, ev with
      | [a, b], hp1, ev =>
        by_cases hc : -(2 ^ 62) ≤ a ∧ a < 2 ^ 62 ∧ -(2 ^ 62) ≤ b ∧ b < 2 ^ 62
        · simp only [hc, and_self, if_true] at hp1
          exact ⟨a, b, ev, hc, Post.here s.wf hp1 _ iter_range⟩
        · simp only [hc, if_false] at hp1
          exact hp1.elim
      | [], hp1, _ => exact hp1.elim
      | [_], hp1, _ => exact hp1.elim
      | _ :: _ :: _ :: _, hp1, _ => exact hp1.elim
def MI (Z : Wd) (X : Cx) (W : WX) (tg : Expr) (x : Expr) (m : M (List D)) : Prop := ∃ wi, PI X tg x wi ∧ EvI Z wi W m
def MG (Z : Wd) (X : Cx) (tg : Expr) (t : Tg) (own : List Nat) : Prop := ∃ g, PG X tg g ∧ EvG Z g t own
def MGs (Z : Wd) (X : Cx) (tgs : List Expr) (ts : List Tg) (own : List Nat) : Prop := ∃ gs, PGs X tgs gs ∧ EvGs Z gs ts own
variable {tg a : Expr} {pos : Pos}
theorem mi_seq {m : M D} (hK : X.K = Z.K) (h : ME Z X W a m) : MI Z X W tg a (iItems m) := by
  obtain ⟨te, p, ev⟩ := h
  refine ⟨_, pi_seq p, ?_⟩
  rw [hK]
  exact evi_seq ev
theorem mi_range1 {p : Pos} {m : M (List Ar)} (h : MA Z X W [a] m) (hg : Gl X "range") (hm : X.mg "range" = none) (hs : starEach [a] X.env = [(false, eval a X.env)] := by rfl) : MI Z X W tg (.Call (.Name "range" p) [a] [] pos) (iRange1 m) := by
  obtain ⟨ta, q, ev, _⟩ := h
  exact ⟨_, pi_range1 hg hm q hs, evi_range1 ev⟩
theorem mi_range2 {b : Expr} {p : Pos} {m : M (List Ar)} (h : MA Z X W [a, b] m) (hg : Gl X "range") (hm : X.mg "range" = none) (hs : starEach [a, b] X.env = [(false, eval a X.env), (false, eval b X.env)] := by rfl) (hs2 : starEach [b] X.env = [(false, eval b X.env)] := by rfl) : MI Z X W tg (.Call (.Name "range" p) [a, b] [] pos) (iRange2 m) := by
  obtain ⟨ta, q, ev, _⟩ := h
  exact ⟨_, pi_range2 hg hm q hs hs2, evi_range2 ev⟩
theorem mg_name {i : Nat} {x : Str} (hN : X.N.Nodup) (hi : X.N[i]? = some x) (hx : Loc X.env.scope x) (hf : X.fn x = true ∨ X.env.scope.names.lookup x = some .local := by first | exact .inl rfl | exact .inr rfl | assumption) : MG Z X (.Name x pos) (tName i) [i] := ⟨_, pg_name hN hi hx hf, evg_name⟩
theorem mgs_nil : MGs Z X [] [] [] := ⟨_, pgs_nil, evgs_nil⟩
theorem mgs_cons {g : Expr} {gs : List Expr} {t : Tg} {ts : List Tg} {o1 o2 : List Nat} (h1 : MG Z X g t o1) (h2 : MGs Z X gs ts o2) (hs : (assignEach (g :: gs) X.env).map (·.2) = assign g X.env :: (assignEach gs X.env).map (·.2) := by rfl) : MGs Z X (g :: gs) (t :: ts) (o1 ++ o2) := by
  obtain ⟨g1, p1, v1⟩ := h1
  obtain ⟨g2, p2, v2⟩ := h2
  exact ⟨_, pgs_cons p1 p2 hs, evgs_cons v1 v2⟩
theorem mg_tup {gs : List Expr} {ts : List Tg} {own : List Nat} {k} (hK : X.K = Z.K) (hc : X.calm = true) (h : MGs Z X gs ts own) (hn : (assignEach gs X.env).length = ts.length := by rfl) (hst : (assignEach gs X.env).findIdx? (·.1) = none := by rfl) : MG Z X (.Tuple gs k pos) (tTuple ts) own := by
  obtain ⟨g, p, v⟩ := h
  refine ⟨_, ⟨fun pins s σ H v u Q I r (hw : gSeq X.K ts.length g v σ H Q) => Or.elim hw ((pg_tup hc p hn hst).run pins s σ H v u Q I r) ((pg_lst hc p hn hst).run pins s σ H v u Q I r)⟩, ?_⟩
  rw [hK]
  exact evg_tup v rfl
/-! ### for -/
def forGo (t : Tg) (b : MS) : List D → En → O
  | [], e => .nx e
  | d :: ds, e => match t d e with
    | none => .no
    | some e1 => match b e1 with
      | .nx e2 => forGo t b ds e2
      | .ct e2 => forGo t b ds e2
      | .bk e2 => .nx e2
      | .no => .no
      | .rt d e2 => .rt d e2
      | .ex c fs e2 => .ex c fs e2
def sFor (src : M (List D)) (t : Tg) (b : MS) : MS := fun e => (src e).toO fun ds e1 => forGo t b ds e1
theorem exs_for {wi : TI} {g : TG} {tb : TS} {src : M (List D)} {t : Tg} {b : MS} {own : List Nat} (hi : EvI Z wi W src) (hg : EvG Z g t own) (hb : ExS Z tb W b) : ExS Z (tFor wi g tb) W (sFor src t b) := fun σ F H e w N hp => by
  refine hi σ F H e w _ ?_
  unfold sFor at hp
  cases hm : src e with
  | no => rw [hm] at hp; exact hp.elim
  | ex c fs e1 => rw [hm] at hp; exact fun d' F' H' s xf => hp d' σ F' H' s.toSq xf
  | ok ds e1 =>
    rw [hm] at hp
    intro F1 H1 s J it
    obtain ⟨G, Y, wk, hG, hY⟩ := it
    have hp1 : PostS Z W σ F1 H1 e1 (forGo t b ds e1) N := PostS.rebase s.toSq hp
    refine for_it wk (fun i σ' H' => ∃ F' e', Sq Z σ F1 H1 e1 σ' F' H' e' ∧ PostS Z W σ' F' H' e' (forGo t b (ds.drop i) e') N) ⟨F1, e1, Sq.refl s.wf, hp1⟩ ?_ ?_ ?_
    · rintro i σ' H' _ ⟨F', e', s', _⟩
      exact hG F' H' s'.ext s'.wf.sub
    · rintro i x σ' H' H2 hi ⟨F', e', s', hp'⟩ y
      obtain ⟨d, F2, h1, g2, r2⟩ := hY i H' x H2 F' s'.ext s'.wf.sub y
      have e0 : ds.drop i = d :: ds.drop (i + 1) := by
        rw [List.drop_eq_getElem_cons hi]
        congr 1
        rw [List.getElem?_eq_getElem hi] at h1
        exact Option.some.inj h1
      rw [e0] at hp'
      unfold forGo at hp'
      cases ht : t d e' with
      | none => rw [ht] at hp'; exact hp'.elim
      | some e2 =>
        rw [ht] at hp'
        dsimp only at hp'
        have sg := Gr.sq s'.wf g2
        refine hg.2 σ' F2 H2 e' e2 x d sg.wf r2 ht _ fun σ3 F3 H3 s3 _ => ?_
        have s03 := (s'.trans sg).trans s3
        have hp3 := PostS.rebase (sg.trans s3) hp'
        refine hb σ3 F3 H3 e2 s3.wf _ ?_
        cases ho : b e2 with
        | no => rw [ho] at hp3; exact hp3
        | nx e4 => rw [ho] at hp3; exact fun σ4 F4 H4 s4 => ⟨F4, e4, s03.trans s4, PostS.rebase s4 hp3⟩
        | ct e4 => rw [ho] at hp3; exact fun σ4 F4 H4 s4 => ⟨F4, e4, s03.trans s4, PostS.rebase s4 hp3⟩
        | bk e4 => rw [ho] at hp3; exact fun σ4 F4 H4 s4 => hp3 σ4 F4 H4 s4
        | rt d4 e4 => rw [ho] at hp3; exact hp3
        | ex c fs e4 => rw [ho] at hp3; exact hp3
    · rintro σ' H' ⟨F', e', s', hp'⟩
      rw [List.drop_length] at hp'
      exact hp' σ' F' H' (Sq.refl s'.wf)
/-! ### while -/
def whileGo (c : M Bool) (b : MS) : Nat → En → O
  | 0, _ => .no
  | n + 1, e => (c e).toO fun x e1 => if x = true then (match b e1 with
      | .nx e2 => whileGo c b n e2
      | .ct e2 => whileGo c b n e2
      | .bk e2 => .nx e2
      | .no => .no
      | .rt d e2 => .rt d e2
      | .ex c fs e2 => .ex c fs e2) else .nx e1
def sWhile (n : Nat) (c : M Bool) (b : MS) : MS := fun e => whileGo c b n e
theorem exs_while {tc : TT} {tb : TS} {c : M Bool} {b : MS} {n : Nat} (hc : EvT Z tc W c) (hb : ExS Z tb W b) : ExS Z (tWhile tc tb) W (sWhile n c b) := fun σ F H e w N hp => by
  refine ⟨fun m σ' H' => ∃ F' e', Sq Z σ F H e σ' F' H' e' ∧ PostS Z W σ' F' H' e' (whileGo c b m e') N, ⟨n, F, e, Sq.refl w, hp⟩, ?_⟩
  rintro m σ' H' ⟨F', e', s', hp'⟩
  cases m with
  | zero => exact hp'.elim
  | succ m =>
    unfold whileGo at hp'
    refine hc.bindS s'.wf hp' fun x F1 H1 e1 s1 hp1 => ?_
    cases x with
    | false => exact hp1 σ' F1 H1 (Sq.refl s1.wf)
    | true =>
      refine ⟨fun σ2 H2 => ∃ F2 e2, Sq Z σ F H e σ2 F2 H2 e2 ∧ PostS Z W σ2 F2 H2 e2 (whileGo c b m e2) N, fun σ2 H2 q => ⟨m, Nat.lt_succ_self m, q⟩, ?_⟩
      have hp2 : PostS Z W σ' F1 H1 e1 (match b e1 with
        | .nx e2 => whileGo c b m e2
        | .ct e2 => whileGo c b m e2
        | .bk e2 => .nx e2
        | .no => .no
        | .rt d e2 => .rt d e2
        | .ex c fs e2 => .ex c fs e2) N := hp1
      refine hb σ' F1 H1 e1 s1.wf _ ?_
      have s01 := s'.trans s1.toSq
      cases ho : b e1 with
      | no => rw [ho] at hp2; exact hp2
      | nx e4 => rw [ho] at hp2; exact fun σ4 F4 H4 s4 => ⟨F4, e4, s01.trans s4, PostS.rebase s4 hp2⟩
      | ct e4 => rw [ho] at hp2; exact fun σ4 F4 H4 s4 => ⟨F4, e4, s01.trans s4, PostS.rebase s4 hp2⟩
      | bk e4 => rw [ho] at hp2; exact fun σ4 F4 H4 s4 => hp2 σ4 F4 H4 s4
      | rt d4 e4 => rw [ho] at hp2; exact hp2
      | ex c fs e4 => rw [ho] at hp2; exact hp2
variable {body : List Stmt} {it : Expr}
theorem ml_for {src : M (List D)} {t : Tg} {b : MS} {own : List Nat} (hi : MI Z X W tg it src) (hg : MG Z X tg t own) (hb : MLs Z X W body b) (hp : PassesOwn (model X.prog X.w) X.A X.env X.xe) (hc : X.calm = true := by rfl) (hs : ∀ x, foldedSetIterable it X.env x = pure x := by intro _; rfl) : ML Z X W (.For tg it body [] pos) (sFor src t b) := by
  obtain ⟨wi, p1, v1⟩ := hi
  obtain ⟨g, p2, v2⟩ := hg
  obtain ⟨tb, p3, v3⟩ := hb
  exact ⟨_, ps_for hp hc p1 p2 p3 hs, exs_for v1 v2 v3⟩
theorem ml_while {c : Expr} {mc : M Bool} {b : MS} {n : Nat} (hc : MT Z X W c mc) (hb : MLs Z X W body b) (hp : PassesOwn (model X.prog X.w) X.A X.env X.xe) : ML Z X W (.While c body [] pos) (sWhile n mc b) := by
  obtain ⟨tc, p1, v1⟩ := hc
  obtain ⟨tb, p3, v3⟩ := hb
  exact ⟨_, ps_while hp p1 p3, exs_while v1 v3⟩
end
end Md

/-! Md5: comprehensions. -/
namespace Md
open PySem PySem.Spec PyProof.Rows L2
def wipeE : En → List Nat → En
  | e, [] => e
  | e, v :: vs => (wipeE e vs).set v .unk
/-- the slots vs as they were in e0 -/
def restE (e0 : En) : En → List Nat → En
  | e, [] => e
  | e, v :: vs => match e0[v]? with
    | some s => (restE e0 e vs).set v s
    | none => restE e0 e vs
def lcGo (own : List Nat) (t : Tg) (c : M Bool) (x : M D) : List D → En → List D → R (List D)
  | [], e, acc => .ok acc e
  | d :: ds, e, acc => match t d e with
    | none => .no
    | some e1 => (c e1).bind fun b e2 => if b = true then (x e2).bind fun y e3 => if acc.length < sizeLine then lcGo own t c x ds (wipeE e3 own) (acc ++ [y]) else .no else lcGo own t c x ds (wipeE e2 own) acc
/-- a comprehension; an error in it is not told -/
def cLc (src : M (List D)) (own : List Nat) (t : Tg) (c : M Bool) (x : M D) : M (List D) := fun e => (src e).bind fun ds e1 => match lcGo own t c x ds (wipeE e1 own) [] with
  | .ok ys e2 => if own.all (fun i => match e1[i]? with
      | some s => s.obj.isNone
      | none => true) = true then .ok ys (restE e1 e2 own) else .no
  | _ => .no
def noW : WX := fun _ _ _ _ => False
section
variable {Z : Wd} {W : WX} {X : Cx} {σ : L2.St} {F H F' H' : Hp} {e : En}
theorem wipe_get {e : En} {i : Nat} : ∀ {vs : List Nat}, i ∉ vs → (wipeE e vs)[i]? = e[i]?
  | [], _ => rfl
  | v :: vs, h => by
    unfold wipeE
    rw [List.getElem?_set_ne (fun z => h (by rw [z]; exact List.mem_cons_self))]
    exact wipe_get fun z => h (List.mem_cons_of_mem _ z)
theorem wipeE_length {e : En} : ∀ {vs : List Nat}, (wipeE e vs).length = e.length
  | [] => rfl
  | v :: vs => by unfold wipeE; rw [List.length_set, wipeE_length]
theorem wipe_in {e : En} {i : Nat} : ∀ {vs : List Nat} {s : Slot}, i ∈ vs → (wipeE e vs)[i]? = some s → s = .unk
  | [], _, h, _ => by cases h
  | v :: vs, s, h, q => by
    unfold wipeE at q
    by_cases hv : v = i
    · subst hv
      by_cases hl : v < (wipeE e vs).length
      · rw [List.getElem?_set_self hl] at q; exact (Option.some.inj q).symm
      · rw [List.getElem?_eq_none (by simpa using hl)] at q; cases q
    · rw [List.getElem?_set_ne hv] at q
      rcases List.mem_cons.mp h with z | z
      · exact absurd z.symm hv
      · exact wipe_in z q
theorem wipeσ_get {i : Nat} : ∀ {vs : List Nat}, i ∉ vs → (wipe σ vs)[i]? = σ[i]?
  | [], _ => rfl
  | v :: vs, h => by
    unfold wipe
    rw [List.getElem?_set_ne (fun z => h (by rw [z]; exact List.mem_cons_self))]
    exact wipeσ_get fun z => h (List.mem_cons_of_mem _ z)
theorem rest_get {e0 e : En} {i : Nat} : ∀ {vs : List Nat}, i ∉ vs → (restE e0 e vs)[i]? = e[i]?
  | [], _ => rfl
  | v :: vs, h => by
    unfold restE
    split
    · rw [List.getElem?_set_ne (fun z => h (by rw [z]; exact List.mem_cons_self))]
      exact rest_get fun z => h (List.mem_cons_of_mem _ z)
    · exact rest_get fun z => h (List.mem_cons_of_mem _ z)
theorem restE_length {e0 e : En} : ∀ {vs : List Nat}, (restE e0 e vs).length = e.length
  | [] => rfl
  | v :: vs => by
    unfold restE
    split
    · rw [List.length_set, restE_length]
    · rw [restE_length]
theorem rest_in {e0 e : En} (hl : e.length = e0.length) {i : Nat} : ∀ {vs : List Nat}, i ∈ vs → (restE e0 e vs)[i]? = e0[i]?
  | [], h => by cases h
  | v :: vs, h => by
    unfold restE
    split
    · rename_i s hs
      by_cases hv : v = i
      · subst hv
        have : v < (restE e0 e vs).length := by rw [restE_length, hl]; exact (List.getElem?_eq_some_iff.mp hs).1
        rw [List.getElem?_set_self this, hs]
      · rw [List.getElem?_set_ne hv]
        rcases List.mem_cons.mp h with z | z
        · exact absurd z.symm hv
        · exact rest_in hl z
    · rename_i hs
      rcases List.mem_cons.mp h with z | z
      · subst z
        rw [hs, List.getElem?_eq_none]
        rw [restE_length, hl]
        exact List.getElem?_eq_none_iff.mp hs
      · exact rest_in hl z
/-- the wiped state -/
theorem WF.wiped (w : WF Z F H σ e) (vs : List Nat) : WF Z F H (wipe σ vs) (wipeE e vs) where
  sub := w.sub
  len := by rw [wipe_length, wipeE_length]; exact w.len
  slot := fun i s o h1 h2 => by
    by_cases hi : i ∈ vs
    · rw [wipe_in hi h1]; trivial
    · rw [wipe_get hi] at h1
      rw [wipeσ_get hi] at h2
      exact w.slot i s o h1 h2
  sep := fun i j a s t h1 h2 h3 h4 h5 h6 => by
    by_cases hi : i ∈ vs
    · rw [wipe_in hi h1] at h3; cases h3
    · by_cases hj : j ∈ vs
      · rw [wipe_in hj h2] at h4; cases h4
      · rw [wipe_get hi] at h1
        rw [wipe_get hj] at h2
        rw [wipeσ_get hi] at h5
        rw [wipeσ_get hj] at h6
        exact w.sep i j a s t h1 h2 h3 h4 h5 h6
  tabs := w.tabs
theorem owns_wiped {vs : List Nat} {a : Addr} (h : Owns (wipe σ vs) (wipeE e vs) a) : Owns σ e a := by
  obtain ⟨i, s, h1, h2, h3⟩ := h
  by_cases hi : i ∈ vs
  · rw [wipe_in hi h1] at h2; cases h2
  · rw [wipe_get hi] at h1
    rw [wipeσ_get hi] at h3
    exact ⟨i, s, h1, h2, h3⟩
/-- any slots' values that keep the wiped ones -/
theorem Sq.rewipe {σ2 : L2.St} {e2 : En} {vs : List Nat} (s : Sq Z (wipe σ vs) F H (wipeE e vs) σ2 F' H' e2) (hw : wipe σ2 vs = wipe σ vs) : Sq Z (wipe σ vs) F H (wipeE e vs) (wipe σ vs) F' H' (wipeE e2 vs) := by
  refine ⟨by rw [← hw]; exact s.wf.wiped vs, s.ext, s.frame, s.keep, s.new, fun a h => ?_, fun i q h => ?_⟩
  · rw [← hw] at h
    exact s.own a (owns_wiped h)
  · have hi : i ∉ vs := fun z => by have q1 := wipe_in z h; cases q1
    obtain ⟨h1, h2⟩ := s.io i q h
    exact ⟨by rw [wipe_get hi]; exact h1, rfl⟩
/-- the wiped kinds -/
def KdW (vs : List Nat) (e e' : En) : Prop := ∀ i : Nat, i ∉ vs → (e'[i]?).map (fun s => s.obj.isSome) = (e[i]?).map (fun s => s.obj.isSome)
theorem wipeσ_in {i : Nat} : ∀ {vs : List Nat}, i ∈ vs → (wipe σ vs)[i]? = if i < σ.length then some none else none
  | [], h => by cases h
  | v :: vs, h => by
    unfold wipe
    by_cases hv : v = i
    · subst hv
      by_cases hl : v < σ.length
      · rw [if_pos hl, List.getElem?_set_self (by rw [wipe_length]; exact hl)]
      · rw [if_neg hl, List.getElem?_eq_none (by rw [List.length_set, wipe_length]; omega)]
    · rw [List.getElem?_set_ne hv]
      rcases List.mem_cons.mp h with z | z
      · exact absurd z.symm hv
      · exact wipeσ_in z
theorem wipe_own {σ' : L2.St} {own vs : List Nat} (h : StOwn own (wipe σ vs) σ') (hs : ∀ i ∈ own, i ∈ vs) : wipe σ' vs = wipe σ vs := by
  have hl : σ'.length = σ.length := by rw [h.1, wipe_length]
  apply List.ext_getElem?
  intro i
  by_cases hi : i ∈ vs
  · rw [wipeσ_in hi, wipeσ_in hi, hl]
  · rw [wipeσ_get hi, h.2 i fun z => hi (hs i z)]
/-- what a block's slots are -/
structure Blk (vs : List Nat) (σ : L2.St) (e : En) (σ' : L2.St) (e' : En) : Prop where
  len : e'.length = e.length
  kd : ∀ i : Nat, i ∉ vs → (e'[i]?).map (fun s => s.obj.isSome) = (e[i]?).map (fun s => s.obj.isSome)
  own : ∀ (i : Nat) (s : Slot), i ∈ vs → e'[i]? = some s → s.obj.isSome = false
  st : ∀ i : Nat, i ∉ vs → σ'[i]? = σ[i]?
theorem Blk.noOwn {vs : List Nat} {σ' : L2.St} {e' : En} {p : Addr} (b : Blk vs σ e σ' e') (w : WF Z F H σ e) (hp : H p = none) : ¬ Owns σ' e' p := fun ⟨i, s, h1, h2, h3⟩ => by
  by_cases hi : i ∈ vs
  · rw [b.own i s hi h1] at h2; cases h2
  · have k := b.kd i hi
    rw [h1, Option.map_some, h2] at k
    cases q : e[i]? with
    | none => rw [q] at k; cases k
    | some t =>
      rw [q, Option.map_some] at k
      obtain ⟨a, _, _, h5, _, h6⟩ := w.own q (Option.some.inj k).symm
      rw [b.st i hi, h5] at h3
      cases h3
      obtain ⟨o, h7, _⟩ := h6.there
      rw [hp] at h7
      cases h7
theorem Blk.kds {vs : List Nat} {σ' : L2.St} {e' e2 : En} (b : Blk vs σ e σ' e') (k : Kd e' e2) (hl : e2.length = e'.length) : Blk vs σ e σ' e2 := ⟨hl.trans b.len, fun i hi => (k i).trans (b.kd i hi), fun i s hi h => by
  cases q : s.obj.isSome with
  | false => rfl
  | true =>
    obtain ⟨t, h1, h2⟩ := k.obj h q
    rw [b.own i t hi h1] at h2
    (cases h2), b.st⟩
/-- from the block's end to the comprehension's -/
theorem Sq.unblock {vs : List Nat} {F1 H1 : Hp} {e2 : En} (w : WF Z F H σ e) (hv : ∀ (i : Nat) (s : Slot), i ∈ vs → e[i]? = some s → s.obj.isSome = false) (s : Sq Z (wipe σ vs) F H (wipeE e vs) (wipe σ vs) F1 H1 e2) (b : Blk vs σ e (wipe σ vs) e2) : Sx Z σ F H e F1 H1 (restE e e2 vs) := by
  have rin : ∀ {i : Nat}, i ∈ vs → (restE e e2 vs)[i]? = e[i]? := fun hi => rest_in b.len hi
  have rout : ∀ {i : Nat}, i ∉ vs → (restE e e2 vs)[i]? = e2[i]? := fun hi => rest_get hi
  have ow : ∀ a, Owns σ (restE e e2 vs) a → Owns (wipe σ vs) e2 a := fun a ⟨i, t, h1, h2, h3⟩ => by
    by_cases hi : i ∈ vs
    · rw [rin hi] at h1
      rw [hv i t hi h1] at h2
      cases h2
    · rw [rout hi] at h1
      exact ⟨i, t, h1, h2, by rw [wipeσ_get hi]; exact h3⟩
  refine ⟨⟨⟨s.wf.sub, by rw [restE_length, b.len]; exact w.len, fun i t o h1 h2 => ?_, fun i j a t u h1 h2 h3 h4 h5 h6 => ?_, s.wf.tabs⟩, s.ext, fun a o h nt n => s.frame a o h nt fun z => n (owns_wiped z), s.keep, fun a n m no => s.new a n m fun z => no (owns_wiped z), fun a z => ?_, fun i q h => ?_⟩, fun i => ?_⟩
  · by_cases hi : i ∈ vs
    · rw [rin hi] at h1
      have q := w.slot i t o h1 h2
      have z := hv i t hi h1
      cases t with
      | unk => trivial
      | dat d => obtain ⟨v, h3, h4⟩ := q; exact ⟨v, h3, h4.mono s.ext⟩
      | own q => cases z
      | io q => cases z
    · rw [rout hi] at h1
      exact s.wf.slot i t o h1 (by rw [wipeσ_get hi]; exact h2)
  · by_cases hi : i ∈ vs
    · rw [rin hi] at h1; rw [hv i t hi h1] at h3; cases h3
    · by_cases hj : j ∈ vs
      · rw [rin hj] at h2; rw [hv j u hj h2] at h4; cases h4
      · rw [rout hi] at h1
        rw [rout hj] at h2
        exact s.wf.sep i j a t u h1 h2 h3 h4 (by rw [wipeσ_get hi]; exact h5) (by rw [wipeσ_get hj]; exact h6)
  · rcases s.own a (ow a z) with z | z
    · exact .inl (owns_wiped z)
    · exact .inr z
  · have hi : i ∉ vs := fun z => by have := hv i _ z h; cases this
    obtain ⟨⟨q', h1⟩, _⟩ := s.io i q (by rw [wipe_get hi]; exact h)
    exact ⟨⟨q', by rw [rout hi]; exact h1⟩, rfl⟩
  · by_cases hi : i ∈ vs
    · rw [rin hi]
    · rw [rout hi, b.kd i hi]
/-- a list that is no slot's and is no data yet is changed -/
theorem Sq.poke {σ' : L2.St} {e' : En} {p : Addr} {vs ws : List V} (s : Sq Z σ F H e σ' F' H' e') (h : H p = none) (hf : F' p = none) (hp : H' p = some (.lst vs)) (no : ¬ Owns σ' e' p) : Sq Z σ F H e σ' F' (upd H' p (.lst ws)) e' := by
  have ne : ∀ {a : Addr} {o : HO}, H a = some o → a ≠ p := fun q z => by rw [z, h] at q; cases q
  have up : ∀ {a : Addr} {o : HO}, a ≠ p → H' a = some o → upd H' p (.lst ws) a = some o := fun n q => by rw [upd_ne n]; exact q
  refine ⟨⟨fun a o q => up (fun z => by rw [z, hf] at q; cases q) (s.wf.sub a o q), s.wf.len, fun i t o q1 q2 => ?_, s.wf.sep, ⟨fun q hq => ?_, s.wf.tabs.2.1, fun ta tc tF tq te => ?_⟩⟩, s.ext, fun a o q nt n => up (ne q) (s.frame a o q nt n), fun a q => ?_, s.new, s.own, s.io⟩
  · have q := s.wf.slot i t o q1 q2
    cases t with
    | unk => trivial
    | dat d => exact q
    | own r =>
      obtain ⟨a, h3, h4, h5⟩ := q
      exact ⟨a, h3, h4, h5.mono (Ex.refl F') fun u z => up (fun y => no ⟨i, _, q1, rfl, by rw [q2, h3, y]⟩) z⟩
    | io r =>
      obtain ⟨a, h3, h4, h5⟩ := q
      exact ⟨a, h3, h4, h5.mono (Ex.refl F') fun u z => up (fun y => no ⟨i, _, q1, rfl, by rw [q2, h3, y]⟩) z⟩
  · obtain ⟨ps, t1, t2, t3⟩ := s.wf.tabs.1 q hq
    refine ⟨ps, up (fun z => by rw [z, hp] at t1; cases t1) t1, t2, fun pos cv r => ?_⟩
    obtain ⟨c, r1, r2⟩ := t3 pos cv r
    refine ⟨c, r1, up (fun z => ?_) r2⟩
    rw [z, hp] at r2
    have r3 := Option.some.inj r2
    have z' : HO.lst vs = HO.ext _ := r3
    cases z'
  · have r2 := s.wf.tabs.2.2 ta tc tF tq te
    refine up (fun z => ?_) r2
    rw [z, hp] at r2
    have z' : HO.lst vs = HO.ext _ := Option.some.inj r2
    cases z'
  · by_cases z : a = p
    · rw [z, upd_same]; simp
    · rw [upd_ne z]; exact s.keep a q
theorem eve_lc {wi : TI} {g : TG} {tt : TT} {te : TE} {vs own : List Nat} {src : M (List D)} {t : Tg} {c : M Bool} {x : M D} (hi : EvI Z wi W src) (hg : EvG Z g t own) (hs : ∀ i ∈ own, i ∈ vs) (hc : EvT Z tt noW c) (hx : EvE Z te noW x) :
    EvN Z (tLc wi g tt te vs) W (cLc src vs t c x) := fun σ F H e w Q hp => by
  refine hi σ F H e w _ ?_
  unfold cLc at hp
  cases hm : src e with
  | no => rw [hm] at hp; exact hp.elim
  | ex c' fs e1 => rw [hm] at hp; exact hp
  | ok ds e1 =>
    rw [hm] at hp
    intro F1 H1 s J it Dl hD
    obtain ⟨G, Y, wk, hG, hY⟩ := it
    change Post Z W σ F H e (match lcGo vs t c x ds (wipeE e1 vs) [] with
      | .ok ys e2 => if vs.all (fun i => match e1[i]? with
          | some s => s.obj.isNone
          | none => true) = true then .ok ys (restE e1 e2 vs) else .no
      | _ => .no) _ at hp
    cases hr : lcGo vs t c x ds (wipeE e1 vs) [] with
    | no => rw [hr] at hp; exact hp.elim
    | ex c' fs e2 => rw [hr] at hp; exact hp.elim
    | ok ys e2 =>
      rw [hr] at hp
      dsimp only at hp
      by_cases hall : vs.all (fun i => match e1[i]? with
          | some s => s.obj.isNone
          | none => true) = true
      · rw [if_pos hall] at hp
        have hv : ∀ (i : Nat) (s : Slot), i ∈ vs → e1[i]? = some s → s.obj.isSome = false := fun i s hi he => by
          have q := List.all_eq_true.mp hall i hi
          rw [he] at q
          cases z : s.obj with
          | none => rfl
          | some _ => simp [z] at q
        have w1 := s.wf
        have w0 := w1.wiped vs
        have hFD : F1 Dl = none := fr_of w1.sub hD
        refine lc_it wk (fun i H' => ∃ F' e' avs acc, Sq Z (wipe σ vs) F1 H1 (wipeE e1 vs) (wipe σ vs) F' H' e' ∧ Blk vs σ e1 (wipe σ vs) e' ∧ H' Dl = some (.lst avs) ∧ F' Dl = none ∧ RDs Z F' avs acc ∧ lcGo vs t c x (ds.drop i) e' acc = .ok ys e2)
          ⟨F1, wipeE e1 vs, [], [], (Gr.new0 w0.sub hD).sq w0, ⟨wipeE_length, fun i hi => by rw [wipe_get hi], fun i s hi h => by rw [wipe_in hi h]; rfl, fun i hi => wipeσ_get hi⟩, upd_same, hFD, .nil, hr⟩ ?_ ?_ ?_
        · rintro i H' _ ⟨F', e', _, _, s', _⟩
          exact hG F' H' s'.ext s'.wf.sub
        · rintro i v H' H2 hi' ⟨F', e', avs, acc, s', bk, hd1, hd2, ra, hgo⟩ y
          obtain ⟨d, F2, h1, g2, r2⟩ := hY i H' v H2 F' s'.ext s'.wf.sub y
          have e0 : ds.drop i = d :: ds.drop (i + 1) := by
            rw [List.drop_eq_getElem_cons hi']
            congr 1
            rw [List.getElem?_eq_getElem hi'] at h1
            exact Option.some.inj h1
          rw [e0] at hgo
          unfold lcGo at hgo
          cases ht : t d e' with
          | none => rw [ht] at hgo; cases hgo
          | some e3 =>
            rw [ht] at hgo
            dsimp only at hgo
            have sg := Gr.sq s'.wf g2
            have k2 : H2 Dl = some (.lst avs) := g2.grow _ _ hd1
            have f2 : F2 Dl = none := g2.new Dl hd2 (by rw [hd1]; simp)
            refine hg.2 (wipe σ vs) F2 H2 e' e3 v d sg.wf r2 ht _ fun σ3 F3 H3 s3 so => ?_
            have hw3 := wipe_own so hs
            refine ⟨hw3, ?_⟩
            obtain ⟨tl, to⟩ := hg.1 d e' e3 ht
            have bk3 : Blk vs σ e1 σ3 e3 := ⟨tl.trans bk.len, fun i hi => by
                rw [(to i).1 fun z => hi (hs i z)]
                exact bk.kd i hi, fun i s hi h => by
                by_cases hio : i ∈ own
                · rcases (to i).2 hio with z | ⟨x, z⟩
                  · rw [z] at h; exact bk.own i s hi h
                  · rw [z] at h; cases h; rfl
                · rw [(to i).1 hio] at h; exact bk.own i s hi h, fun i hi => by rw [so.2 i fun z => hi (hs i z)]; exact wipeσ_get hi⟩
            have nt : NT (.lst avs) := fun _ z => by cases z
            have n2 := bk.noOwn w1 hD
            have k3 : H3 Dl = some (.lst avs) := s3.frame Dl _ k2 nt n2
            have f3 : F3 Dl = none := s3.new Dl f2 (by rw [k2]; simp) n2
            have s03 := (s'.trans sg).trans s3
            refine hc σ3 F3 H3 e3 s3.wf _ ?_
            cases hb : c e3 with
            | no => rw [hb] at hgo; cases hgo
            | ex c' fs e4 => rw [hb] at hgo; cases hgo
            | ok b e4 =>
              rw [hb] at hgo
              intro F4 H4 s4
              have bk4 := bk3.kds s4.kd (by have a1 := s4.wf.len; have a2 := s3.wf.len; omega)
              have n3 := bk3.noOwn w1 hD
              have k4 : H4 Dl = some (.lst avs) := s4.frame Dl _ k3 nt n3
              have f4 : F4 Dl = none := s4.new Dl f3 (by rw [k3]; simp) n3
              have s04 := s03.trans s4.toSq
              have x4 : Ex F' F4 := (sg.ext.trans s3.ext).trans s4.ext
              cases b with
              | false =>
                change lcGo vs t c x (ds.drop (i + 1)) (wipeE e4 vs) acc = .ok ys e2 at hgo
                refine ⟨F4, wipeE e4 vs, avs, acc, s04.rewipe hw3, ⟨by rw [wipeE_length]; exact bk4.len, fun i hi => by rw [wipe_get hi]; exact bk4.kd i hi, fun i s hi h => by rw [wipe_in hi h]; rfl, fun i hi => wipeσ_get hi⟩, k4, f4, ra.mono x4, hgo⟩
              | true =>
                change (x e4).bind (fun y e3 => if acc.length < sizeLine then lcGo vs t c x (ds.drop (i + 1)) (wipeE e3 vs) (acc ++ [y]) else .no) = .ok ys e2 at hgo
                show te σ3 H4 _
                refine hx σ3 F4 H4 e4 s4.wf _ ?_
                cases hy : x e4 with
                | no => rw [hy] at hgo; cases hgo
                | ex c' fs e5 => rw [hy] at hgo; cases hgo
                | ok yd e5 =>
                  rw [hy] at hgo
                  intro F5 H5 s5 yv ry
                  have bk5 := bk4.kds s5.kd (by have a1 := s5.wf.len; have a2 := s4.wf.len; omega)
                  have n4 := bk4.noOwn w1 hD
                  have k5 : H5 Dl = some (.lst avs) := s5.frame Dl _ k4 nt n4
                  have f5 : F5 Dl = none := s5.new Dl f4 (by rw [k4]; simp) n4
                  have s05 := s04.trans s5.toSq
                  change (if acc.length < sizeLine then lcGo vs t c x (ds.drop (i + 1)) (wipeE e5 vs) (acc ++ [yd]) else .no) = .ok ys e2 at hgo
                  by_cases hlen : acc.length < sizeLine
                  · rw [if_pos hlen] at hgo
                    have ra5 := ra.mono (x4.trans s5.ext)
                    refine ⟨avs, k5, by rw [ra.length]; exact hlen, F5, wipeE e5 vs, avs ++ [yv], acc ++ [yd], ?_, ⟨by rw [wipeE_length]; exact bk5.len, fun i hi => by rw [wipe_get hi]; exact bk5.kd i hi, fun i s hi h => by rw [wipe_in hi h]; rfl, fun i hi => wipeσ_get hi⟩, upd_same, f5, ra5.append (.cons ry .nil), hgo⟩
                    have sw := s05.rewipe hw3
                    have nW : ¬ Owns (wipe σ vs) (wipeE e5 vs) Dl := fun z => (bk5.noOwn w1 hD) (by
                      obtain ⟨i, s, h1, h2, h3⟩ := z
                      by_cases hi : i ∈ vs
                      · rw [wipe_in hi h1] at h2; cases h2
                      · rw [wipe_get hi] at h1
                        refine ⟨i, s, h1, h2, ?_⟩
                        rw [bk5.st i hi, ← wipeσ_get hi]
                        exact h3)
                    exact sw.poke hD f5 k5 nW
                  · rw [if_neg hlen] at hgo; cases hgo
        · rintro H' ⟨F', e', avs, acc, s', bk, hd1, hd2, ra, hgo⟩
          rw [List.drop_length] at hgo
          unfold lcGo at hgo
          cases hgo
          have sx := Sq.unblock w1 hv s' bk
          exact hp F' H' (s.trans sx) Dl avs (s.toSq.free hD) hd2 hd1 ra
      · rw [if_neg hall] at hp; exact hp.elim
end
end Md

/-! Md6: defs and calls where no repr is under way; the law's end. -/
namespace Md
open PySem PySem.Spec PyProof.Rows L2
section
variable {Z : Wd} {W : WX} {X : Cx} {σ : L2.St} {F H F' H' : Hp} {e : En} {a x : Expr} {pos p : Pos}
/-- as FnOk, called where no guard of a repr is on the stack -/
structure FnG (P : Program) (w : World) (K : PySem.W.Frag) (mg : Str → Option Value) (base : Heap) (k : Nat) (f : Addr) (fd : FuncData) (ps : List Str) (sp : Sp) : Prop where
  len : ∀ vs H Q E, sp vs H Q E → vs.length = ps.length
  run : ∀ (A : Around) (outer : List Env) (s : Shared) (H : Hp) (args : Args) (us : List Value) (vs : List V) (Q : VK) (E : XK), Room k A → A.guards = some [] → Env0 P w K mg base A outer s H → BindsTo s fd args (ps.zip us) → Vals vs us → sp vs H Q E →
    codeAny (model P w) A (.call (.ref f) args) (CR (L2.CX P w) outer P w H s Q E) s
theorem FnG.never {P : Program} {w : World} {K : PySem.W.Frag} {mg : Str → Option Value} {base : Heap} {k n : Nat} {f : Addr} {fd : FuncData} {ps : List Str} : FnG P w K mg base k f fd ps (spF Z n fun _ => .no) :=
  ⟨fun vs H Q E h => by obtain ⟨_, _, _, _, _, z⟩ := h; exact z.elim, fun A outer s H args us vs Q E _ _ _ _ _ h => by obtain ⟨_, _, _, _, _, z⟩ := h; exact z.elim⟩
theorem fng_sound {P : Program} {w : World} {K : PySem.W.Frag} {mg : Str → Option Value} {base : Heap} {x qual : Str} {st : Stmt} {f : Addr} {fd : FuncData} {N ps : List Str} {k m : Nat} {body : MS} (Fn : Fun K x qual st f fd) (S : FnScope N ps (defScope st)) (hm : N.length = ps.length + m)
    (hb : ∀ (cdv : Value) (A : Around) (outer : List Env) (s : Shared) (H : Hp) (E : XK), Room k (A.deeper (envOfC qual (defScope st) s.heap.objs.size f cdv)) → A.guards = some [] →
      MLs Z (cxOf (L2.CX P w) P w K mg base N qual (defScope st) f cdv A outer s H E) (fun c d _ H' => E c d H') (defBody st) body) :
    FnG P w K mg base (k + 1) f fd ps (spF Z ps.length (runFn m body)) := by
  have len : ∀ vs H Q E, spF Z ps.length (runFn m body) vs H Q E → vs.length = ps.length := fun vs H Q E h => by
    obtain ⟨F, sl, h1, _, h3, _⟩ := h
    have := h3.len
    rw [List.length_map] at this
    omega
  obtain ⟨oc, od, kV, doc, pm, an, cdv, ct, osl, rfl, lk, hcd⟩ := Fn.ex
  refine ⟨len, fun A outer s H args us vs Q E hr hg e0 hbd r h => LamX.run_ofS lk hcd S hr e0 hbd r (len _ _ _ _ h) fun hr' => ?_⟩
  obtain ⟨F, sl, h1, h2, h3, h4⟩ := h
  have hl : vs.length = sl.length := by
    have := h3.len
    rw [List.length_map] at this
    exact this
  obtain ⟨ts, pd, ev⟩ := hb cdv A outer s H E hr' hg
  refine ⟨ts, pd, ?_⟩
  have es : L2.start N vs = vs.map some ++ List.replicate m none := by
    unfold L2.start
    rw [show N.length - vs.length = m by omega]
  rw [es]
  refine ev _ F H _ (h3.start (m := m)) _ ?_
  unfold runFn at h4
  cases ho : body (sl ++ List.replicate m .unk) with
  | no => rw [ho] at h4; exact h4.elim
  | nx e' => rw [ho] at h4; exact fun σ' F' H' s' => h4 F' H' (s'.finish hl h2 h3) _ .non
  | rt d e' => rw [ho] at h4; exact fun v σ' F' H' s' rd => h4 F' H' (s'.finish hl h2 h3) v rd
  | bk e' => rw [ho] at h4; exact h4.elim
  | ct e' => rw [ho] at h4; exact h4.elim
  | ex c fs e' => rw [ho] at h4; exact fun d' σ' F' H' s' xf => h4 d' F' H' (s'.finish hl h2 h3) xf
/-- the callee runs -/
theorem fng_run {f : Addr} {fd : FuncData} {ps : List Str} {ds us : List Value} {dvs vs : List V} {k : Nat} {sp : Sp} {pins : List (Addr × Obj)} {s : Shared} {Q : VK} (Fn : FnG X.prog X.w X.K X.mg X.base k f fd ps sp) (hr : Room k X.A) (hgd : X.A.guards = some [])
    (hb : Binds X.K fd ps ds) (hd : Vals dvs ds) (tk : Takes X W) (I : Inv X pins σ H s) (r : Vals vs us) (h : sp (vs ++ dvs) H Q (WE W σ)) : wpAny (model X.prog X.w) X.A (call (.ref f) us) (EP X pins σ Q) X.xe s := by
  have rr := r.append hd
  have hz : (us ++ ds).length = ps.length := rr.length.symm.trans (Fn.len _ _ _ _ h)
  have run := Fn.run X.A X.stack s H ⟨us, []⟩ _ _ Q (WE W σ) hr hgd I.env0 (hb s us I.kIn hz) rr h
  refine wpAny_call (codeAny_mono run fun q s' hq => ?_)
  match q, hq with
  | .error er, hq => exact passAt tk σ pins H s er s' I hq
  | .ok (.ret u), hq => exact I.after hq
  | .ok .next, hq => exact hq.elim
  | .ok .brk, hq => exact hq.elim
  | .ok .cont, hq => exact hq.elim
theorem me_callG {n : Str} {f : Addr} {fd : FuncData} {ps : List Str} {ds : List Value} {dvs : List V} {dds : List D} {k : Nat} {g : Sem} {es : List Expr} {m : M (List Ar)} (Fn : FnG X.prog X.w X.K X.mg X.base k f fd ps (spF Z ps.length g)) (hr : Room k X.A) (hgd : X.A.guards = some []) (hg : Gl X n) (hm : X.mg n = some (.ref f))
    (hk : PySem.W.keepIn X.K (.ref f) = true) (hb : Binds X.K fd ps ds) (hd : Vals dvs ds) (rd : ∀ F, RDs Z F dvs dds) (tk : Takes X W) (ha : MA Z X W (a :: es) m) (hl : (a :: es).length + dds.length = ps.length)
    (hdb : (n == ("__debug__" : Str)) = false := by decide) (he : starEach (a :: es) X.env = (false, eval a X.env) :: starEach es X.env := by rfl) (hpl : (backTo pos (starEach es X.env)).any (·.1) = false := by rfl) :
    ME Z X W (.Call (.Name n p) (a :: es) [] pos) (cCall g dds m) := by
  obtain ⟨ta, pa, ea, la⟩ := ha
  refine ⟨tCallSD (spF Z ps.length g) dvs (WE W) ta, ⟨fun pins s σ H Q I h => ?_⟩, fun σ F H e w Q hp => ?_⟩
  · refine wpAny_Call_Name_kw (ld_glob I hg hm (PySem.W.callWith_K (h₀ := X.base) I.ok.mod.kin hk (thn (pa.run pos pins s σ H _ I h) fun us s1 hh => ?_) he hpl) hdb)
    obtain ⟨vs, H1, I1, r, q⟩ := hh
    exact ⟨I1.kIn, fng_run Fn hr hgd hb hd tk I1 r q⟩
  · refine ea σ F H e w _ ?_
    cases hm' : m e with
    | no => unfold cCall at hp; rw [hm'] at hp; exact hp.elim
    | ok as e1 =>
      unfold cCall at hp
      rw [hm'] at hp
      exact fun F1 H1 s vs ra => post_call s.wf ra (rd F1) (by rw [la e as e1 hm']; exact hl) (Post.rebase s hp)
    | ex c fs e1 => unfold cCall at hp; rw [hm'] at hp; exact hp
theorem me_callG0 {n : Str} {f : Addr} {fd : FuncData} {ps : List Str} {ds : List Value} {dvs : List V} {dds : List D} {k : Nat} {g : Sem} (Fn : FnG X.prog X.w X.K X.mg X.base k f fd ps (spF Z ps.length g)) (hr : Room k X.A) (hgd : X.A.guards = some []) (hg : Gl X n) (hm : X.mg n = some (.ref f))
    (hk : PySem.W.keepIn X.K (.ref f) = true) (hb : Binds X.K fd ps ds) (hd : Vals dvs ds) (rd : ∀ F, RDs Z F dvs dds) (tk : Takes X W) (hl : dds.length = ps.length) (hdb : (n == ("__debug__" : Str)) = false := by decide) :
    ME Z X W (.Call (.Name n p) [] [] pos) (cCall g dds cANil) := by
  refine ⟨tCallSD (spF Z ps.length g) dvs (WE W) tNil, ⟨fun pins s σ H Q I h => ?_⟩, fun σ F H e w Q hp => ?_⟩
  · exact wpAny_Call_Name_kw (ld_glob I hg hm (PySem.W.callWith_K0 I.kIn hk (fng_run (us := []) Fn hr hgd hb hd tk I .nil h)) hdb)
  · exact post_call w .nil (rd F) (by simpa using hl) hp
/-! ### new lists as data -/
def cOfNew (m : M (List D)) : M D := fun e => (m e).bind fun ds e1 => .ok (.lst ds) e1
theorem Sx.addF {F1 H1 : Hp} {e1 : En} {q : Addr} {vs : List V} (w : WF Z F H σ e) (s : Sx Z σ F H e F1 H1 e1) (n1 : H q = none) (n2 : F1 q = none) (n3 : H1 q = some (.lst vs)) : Sx Z σ F H e (upd F1 q (.lst vs)) H1 e1 := by
  have no : ¬ Owns σ e1 q := fun ⟨i, t, h1, h2, h3⟩ => by
    obtain ⟨t', h4, h5⟩ := s.kd.obj h1 h2
    obtain ⟨b, _, _, h6, _, h7⟩ := w.own h4 h5
    rw [h3] at h6
    cases h6
    obtain ⟨o, h8, _⟩ := h7.there
    rw [n1] at h8
    cases h8
  have x1 : Ex F1 (upd F1 q (.lst vs)) := Ex.new n2
  refine ⟨⟨⟨fun b o h => ?_, s.wf.len, fun i t o h1 h2 => ?_, s.wf.sep, ⟨s.wf.tabs.1, fun p hp => by
    obtain ⟨ps, t1, _⟩ := w.tabs.1 p hp
    rw [upd_ne (fun z => by rw [z, n1] at t1; cases t1)]
    exact s.wf.tabs.2.1 p hp, s.wf.tabs.2.2⟩⟩, s.ext.trans x1, s.frame, s.keep, fun b h1 h2 h3 => ?_, s.own, s.io⟩, s.kd⟩
  · by_cases hb : b = q
    · subst hb; rw [upd_same] at h; cases h; exact n3
    · rw [upd_ne hb] at h; exact s.wf.sub b o h
  · have z := s.wf.slot i t o h1 h2
    cases t with
    | unk => trivial
    | dat d => obtain ⟨v, h3, h4⟩ := z; exact ⟨v, h3, h4.mono x1⟩
    | own r =>
      obtain ⟨b, h3, h4, h5⟩ := z
      exact ⟨b, h3, by rw [upd_ne (fun y => no ⟨i, _, h1, rfl, by rw [h2, h3, y]⟩)]; exact h4, h5.mono x1 fun _ y => y⟩
    | io r =>
      obtain ⟨b, h3, h4, h5⟩ := z
      exact ⟨b, h3, by rw [upd_ne (fun y => no ⟨i, _, h1, rfl, by rw [h2, h3, y]⟩)]; exact h4, h5.mono x1 fun _ y => y⟩
  · have hb : b ≠ q := fun y => h2 (by rw [y]; exact n1)
    rw [upd_ne hb]
    exact s.new b h1 h2 h3
theorem eve_ofNew {te : TE} {m : M (List D)} (ev : EvN Z te W m) : EvE Z te W (cOfNew m) := fun σ F H e w Q hp => by
  refine ev σ F H e w _ ?_
  unfold cOfNew at hp
  cases hm : m e with
  | no => rw [hm] at hp; exact hp.elim
  | ex c fs e1 => rw [hm] at hp; exact hp
  | ok ds e1 =>
    rw [hm] at hp
    exact fun F1 H1 s q vs n1 n2 n3 rs => hp _ H1 (s.addF w n1 n2 n3) _ (.lst upd_same (rs.mono (Ex.new n2)))
theorem me_ofNew {m : M (List D)} (h : MN Z X W x m) : ME Z X W x (cOfNew m) := by
  obtain ⟨te, p, ev⟩ := h
  exact ⟨te, p, eve_ofNew ev⟩
/-! ### comprehensions -/
def MTs (Z : Wd) (X : Cx) (W : WX) (xs : List Expr) (m : M Bool) : Prop := ∃ tt, PTs X xs tt ∧ EvT Z tt W m
def cYes : M Bool := fun e => .ok true e
/-- the weakest reading that does m -/
def tM (Z : Wd) (W : WX) (m : M D) : TE := fun σ H Q => ∃ F e, WF Z F H σ e ∧ Post Z W σ F H e (m e) (fun d F' H' => ∀ v, RD Z F' v d → Q v H')
theorem pe_tM {m : M D} (h : ME Z X W x m) : PE X x (tM Z W m) := by
  obtain ⟨te, p, ev⟩ := h
  exact ⟨fun pins s σ H Q I hq => by
    obtain ⟨F, e, w, q⟩ := hq
    exact p.run pins s σ H Q I (ev σ F H e w Q q)⟩
theorem eve_tM {m : M D} : EvE Z (tM Z W m) W m := fun σ F H e w Q hp => ⟨F, e, w, hp⟩
def tMT (Z : Wd) (W : WX) (m : M Bool) : TT := fun σ H Q => ∃ F e, WF Z F H σ e ∧ Post Z W σ F H e (m e) (fun b _ H' => Q b H')
theorem pts_tM {xs : List Expr} {m : M Bool} (h : MTs Z X W xs m) : PTs X xs (tMT Z W m) := by
  obtain ⟨tt, p, ev⟩ := h
  exact ⟨fun pins s σ H Q I hq => by
    obtain ⟨F, e, w, q⟩ := hq
    exact p.run pins s σ H Q I (ev σ F H e w Q q)⟩
theorem evt_tM {m : M Bool} : EvT Z (tMT Z W m) W m := fun σ F H e w Q hp => ⟨F, e, w, hp⟩
def gM (Z : Wd) (t : Tg) (own : List Nat) : TG := fun v σ H Q => ∃ F e d e', WF Z F H σ e ∧ RD Z F v d ∧ t d e = some e' ∧ ∀ σ' F' H', Sq Z σ F H e σ' F' H' e' → StOwn own σ σ' → Q σ' H'
theorem pg_M {t : Tg} {own : List Nat} (h : MG Z X x t own) : PG X x (gM Z t own) := by
  obtain ⟨g, p, ev⟩ := h
  exact ⟨fun pins s σ H v u Q I r hq => by
    obtain ⟨F, e, d, e', w, rd, ht, q⟩ := hq
    exact p.run pins s σ H v u Q I r (ev.2 σ F H e e' v d w rd ht Q q)⟩
theorem evg_M {t : Tg} {own : List Nat} (h : TgOwn own t) : EvG Z (gM Z t own) t own := ⟨h, fun σ F H e e' v d w r ht Q q => ⟨F, e, d, e', w, r, ht, q⟩⟩
theorem mn_lc {elt tg iter : Expr} {ifs : List Expr} {scope : Scope} {own : List (Str × Nat)} {src : M (List D)} {t : Tg} {c : M Bool} {y : M D} {o1 : List Nat} (hN : X.N.Nodup) (hi : MI Z X W tg iter src) (ok : BlkOk X.N X.env.scope scope own) (to : TgOwn o1 t)
    (hg : ∀ (s : Shared) (H : Hp) (C : Addr) (cl : List (Str × Addr)) (fp : List Addr), MG Z (X.blk s H scope (compEnvC scope cl C X.env) fp) tg t o1)
    (ht : ∀ (s : Shared) (H : Hp) (C : Addr) (cl : List (Str × Addr)) (fp : List Addr), MTs Z (X.blk s H scope (compEnvC scope cl C X.env) fp) noW ifs c)
    (he : ∀ (s : Shared) (H : Hp) (C : Addr) (cl : List (Str × Addr)) (fp : List Addr), ME Z (X.blk s H scope (compEnvC scope cl C X.env) fp) noW elt y)
    (ho : ∀ i ∈ o1, i ∈ own.map (·.2)) (hc : X.calm = true := by rfl) (hs : ∀ x, foldedSetIterable iter X.env x = pure x := by intro _; rfl) : MN Z X W (.ListComp elt [⟨tg, iter, ifs, 0⟩] scope pos) (cLc src (own.map (·.2)) t c y) := by
  obtain ⟨wi, p1, v1⟩ := hi
  exact ⟨_, pe_lc hc hN p1 ok (fun s H C cl fp => pg_M (hg s H C cl fp)) (fun s H C cl fp => pts_tM (ht s H C cl fp)) (fun s H C cl fp => pe_tM (he s H C cl fp)) hs, eve_lc v1 (evg_M to) ho evt_tM eve_tM⟩
theorem mts_nil : MTs Z X W [] cYes := ⟨_, pts_nil, fun σ F H e w Q h => Post.here w h⟩
theorem mts_one {m : M Bool} (h : MT Z X W x m) : MTs Z X W [x] m := by
  obtain ⟨tt, p, ev⟩ := h
  exact ⟨_, pts_one p, ev⟩
end
end Md

/-! Md7: operators and built-ins on data. -/
namespace Md
open PySem PySem.Spec PyProof.Rows L2
/-! ### data as the library's data -/
mutual
def D.py : D → Option PyData
  | .non => some .none
  | .bl b => some (.bool b)
  | .int i => some (.int i)
  | .str x => some (.str x)
  | .tup ds => (pyAll ds).map PyData.tuple
  | .lst ds => (pyAll ds).map PyData.list
  | _ => none
def pyAll : List D → Option (List PyData)
  | [] => some []
  | d :: ds => d.py.bind fun p => (pyAll ds).map (p :: ·)
end
section
variable {Z : Wd} {F H : Hp}
mutual
theorem RD.dp (x : Ex F H) : ∀ {v : V} {d : D} {p : PyData}, RD Z F v d → d.py = some p → Dp Z.K H v p
  | _, _, _, .non, h => by cases h; exact .non
  | _, _, _, .bl b, h => by cases h; exact .bl b
  | _, _, _, .int i, h => by cases h; exact .int i
  | _, _, _, .str y, h => by cases h; exact .str y
  | _, _, _, .tup (ds := ds) hs r, h => by
    rw [D.py] at h
    cases q : pyAll ds with
    | none => rw [q] at h; cases h
    | some ps => rw [q] at h; cases h; exact .tup (ex_t x hs) (r.dp x q)
  | _, _, _, .lst (ds := ds) hs r, h => by
    rw [D.py] at h
    cases q : pyAll ds with
    | none => rw [q] at h; cases h
    | some ps => rw [q] at h; cases h; exact .lst (Or.inl (Or.inl (x _ _ hs))) (r.dp x q)
  | _, _, _, .scr _, h => by simp [D.py] at h
  | _, _, _, .ins _ _, h => by simp [D.py] at h
  | _, _, _, .exc _ _ _, h => by simp [D.py] at h
  | _, _, _, .exc0 _, h => by simp [D.py] at h
  | _, _, _, .dk _ _, h => by simp [D.py] at h
theorem RDs.dp (x : Ex F H) : ∀ {vs : List V} {ds : List D} {ps : List PyData}, RDs Z F vs ds → pyAll ds = some ps → DpAll Z.K H vs ps
  | _, _, _, .nil, h => by cases h; exact .nil
  | _, _, _, .cons (d := d) (ds := ds) hd t, h => by
    rw [pyAll] at h
    cases q : d.py with
    | none => rw [q] at h; cases h
    | some p =>
      rw [q, Option.bind_some] at h
      cases q2 : pyAll ds with
      | none => rw [q2] at h; cases h
      | some ps => rw [q2] at h; cases h; exact .cons (hd.dp x q) (t.dp x q2)
end
end
/-! ### operators -/
def dAdd : D → D → Option D
  | .int i, .int j => some (.int (i + j))
  | .str x, .str y => if x.length + y.length ≤ sizeLine then some (.str (x ++ y)) else none
  | .lst x, .lst y => if x.length + y.length ≤ sizeLine then some (.lst (x ++ y)) else none
  | .tup x, .tup y => if x.length + y.length ≤ sizeLine then some (.tup (x ++ y)) else none
  | _, _ => none
def dSub : D → D → Option D
  | .int i, .int j => some (.int (i - j))
  | _, _ => none
instance (i j : Int) : Decidable (CMulW i j) := by unfold CMulW; exact inferInstance
instance (i j : Int) : Decidable (CMul i j) := by unfold CMul; exact inferInstance
instance (i j : Int) : Decidable (CDivW i j) := by unfold CDivW; exact inferInstance
instance (i j : Int) : Decidable (CPow i j) := by unfold CPow; exact inferInstance
/-- x * k, k ≥ 2 -/
def repS (x : Str) (k : Int) : Str := ⟨(List.replicate k.toNat x.cps).foldl (· ++ ·) #[]⟩
def dMul : D → D → Option D
  | .int i, .int j => if CMulW i j ∨ CMul i j then some (.int (i * j)) else none
  | .str x, .int k => if 2 ≤ k ∧ k ≤ 1000 ∧ 1 ≤ x.length ∧ x.length ≤ 1000 then some (.str (repS x k)) else none
  | .lst x, .int k => if -(2 ^ 63) ≤ k ∧ k < 2 ^ 63 ∧ x.length * k.toNat ≤ sizeLine then some (.lst (List.replicate k.toNat x).flatten) else none
  | _, _ => none
def dFloorDiv : D → D → Option D
  | .int i, .int j => if CDivW i j then some (.int (i / j)) else none
  | _, _ => none
def dMod : D → D → Option D
  | .int i, .int j => if 0 < j then some (.int (i % j)) else none
  | _, _ => none
def dPow : D → D → Option D
  | .int i, .int j => if CPow i j then some (.int (i ^ j.toNat)) else none
  | _, _ => none
def dLt : D → D → Option D
  | .int i, .int j => some (.bl (decide (i < j)))
  | .str i, .str j => some (.bl (decide (i.cps.toList < j.cps.toList)))
  | _, _ => none
def dLe : D → D → Option D
  | .int i, .int j => some (.bl (decide (i ≤ j)))
  | .str i, .str j => some (.bl (!decide (j.cps.toList < i.cps.toList)))
  | _, _ => none
def dGt : D → D → Option D
  | .int i, .int j => some (.bl (decide (j < i)))
  | .str i, .str j => some (.bl (decide (j.cps.toList < i.cps.toList)))
  | _, _ => none
def dGe : D → D → Option D
  | .int i, .int j => some (.bl (decide (j ≤ i)))
  | .str i, .str j => some (.bl (!decide (i.cps.toList < j.cps.toList)))
  | _, _ => none
def dEqP (x y : D) : Option Bool := x.py.bind fun p => y.py.bind fun q => if SeqAt.shaped p = true ∧ SeqAt.shaped q = true then some (PyData.eqv p q) else none
def dEqB : D → D → Option Bool
  | .str x, .str y => some (decide (x = y))
  | x, y => dEqP x y
def dEq (x y : D) : Option D := (dEqB x y).map D.bl
def dNe (x y : D) : Option D := (dEqB x y).map fun b => D.bl (!b)
def D.isNon : D → Bool
  | .non => true
  | _ => false
def dIs (x y : D) : Option D := match y with
  | .non => some (.bl x.isNon)
  | _ => none
def dIsNot (x y : D) : Option D := match y with
  | .non => some (.bl (!x.isNon))
  | _ => none
def dNeg : D → Option D
  | .int i => some (.int (-i))
  | _ => none
section
variable {Z : Wd} {X : Cx}
theorem Gr.here {F H : Hp} (x : Ex F H) : Gr F H F H := Gr.refl x
/-! lists and tuples put together -/
def rAddA (K : PySem.W.Frag) : R2 := fun x y H Q => (∃ i j, x = .int i ∧ y = .int j ∧ Q (.int (i + j)) H) ∨ (∃ i j, x = .str i ∧ y = .str j ∧ i.length + j.length ≤ sizeLine ∧ Q (.str (i ++ j)) H) ∨ rCat x y H Q ∨ rCatA K x y H Q
theorem op_addA : OpR X (binaryOp .Add) (rAddA X.K) := op_add.or (op_add_str.or (op_cat.or op_catA))
theorem o2_add : Op2 Z (rAddA Z.K) dAdd := fun F H x y dx dy dz e r1 r2 h Q q => by
  cases r1 with
  | int i => cases r2 with
    | int j => cases h; exact .inl ⟨i, j, rfl, rfl, q _ F H (Gr.refl e) (.int _)⟩
    | _ => cases h
  | str i => cases r2 with
    | str j =>
      simp only [dAdd] at h
      by_cases hl : i.length + j.length ≤ sizeLine
      · rw [if_pos hl] at h; cases h; exact .inr (.inl ⟨i, j, rfl, rfl, hl, q _ F H (Gr.refl e) (.str _)⟩)
      · rw [if_neg hl] at h; cases h
    | _ => cases h
  | lst h1 a1 => cases r2 with
    | lst h2 a2 =>
      simp only [dAdd] at h
      split at h
      · rename_i hl
        cases h
        exact .inr (.inr (.inl ⟨_, _, _, _, rfl, rfl, e _ _ h1, e _ _ h2, by rw [a1.length, a2.length]; exact hl, fun p hp => q _ _ _ (Gr.new1 e hp) (.lst upd_same ((a1.append a2).mono (Ex.new (fr_of e hp))))⟩))
      · cases h
    | _ => cases h
  | tup h1 a1 => cases r2 with
    | tup h2 a2 =>
      simp only [dAdd] at h
      split at h
      · rename_i hl
        cases h
        refine .inr (.inr (.inr ⟨_, _, _, _, rfl, rfl, ex_t e h1, ex_t e h2, by rw [a1.length, a2.length]; exact hl, fun z => ?_, fun _ z => ?_, fun _ _ p hp => ?_⟩))
        · subst z
          cases a1
          exact q _ F H (Gr.refl e) (.tup h2 a2)
        · subst z
          cases a2
          rw [List.append_nil] at q
          exact q _ F H (Gr.refl e) (.tup h1 a1)
        · exact q _ _ _ (Gr.new1 e hp) (.tup (Or.inl (Or.inl upd_same)) ((a1.append a2).mono (Ex.new (fr_of e hp))))
      · cases h
    | _ => cases h
  | _ => cases h
theorem o2_sub : Op2 Z (rI0 fun i j => .int (i - j)) dSub := fun F H x y dx dy dz e r1 r2 h Q q => by
  cases r1 with
  | int i => cases r2 with
    | int j => cases h; exact ⟨i, j, rfl, rfl, q _ F H (Gr.refl e) (.int _)⟩
    | _ => cases h
  | _ => cases h
theorem rep_size (a : Array Nat) : ∀ n : Nat, ((List.replicate n a).foldl (· ++ ·) #[]).size = n * a.size := fun n => by
  have h : ∀ (n : Nat) (b : Array Nat), ((List.replicate n a).foldl (· ++ ·) b).size = b.size + n * a.size := fun n => by
    induction n with
    | zero => intro b; simp
    | succ n ih => intro b; rw [List.replicate_succ, List.foldl_cons, ih, Array.size_append, Nat.succ_mul]; omega
  rw [h]; simp
def rMulS : R2 := fun x y H Q => ∃ (z : Str) (k : Int), x = .str z ∧ y = .int k ∧ 2 ≤ k ∧ k ≤ 1000 ∧ 1 ≤ z.length ∧ z.length ≤ 1000 ∧ Q (.str (repS z k)) H
theorem op_mulS : OpR X (binaryOp .Mult) rMulS := by
  intro pins s σ H x y v u Q I rx ry h
  obtain ⟨z, k, rfl, rfl, h1, h2, h3, h4, q⟩ := h
  obtain ⟨t, rfl⟩ := rx
  obtain ⟨t', rfl⟩ := ry
  have hk : (k.toNat : Int) = k := Int.toNat_of_nonneg (by omega)
  have hm : z.length * k.toNat ≤ 1000 * 1000 := Nat.mul_le_mul h4 (by omega)
  have hc : (k == 1 || z.length == 0) = false := by
    rw [Bool.or_eq_false_iff]
    exact ⟨beq_eq_false_iff_ne.mpr (by omega), beq_eq_false_iff_ne.mpr (by omega)⟩
  refine PySem.P.mul_str ?_ (fun _ _ => ?_) (fun _ _ => ?_) ?_
  · rw [decide_eq_false (by omega), decide_eq_false (by omega)]; rfl
  · have : (z.length : Int) * k ≤ 2 ^ 63 - 1 := by
      have e : (z.length : Int) * k = ((z.length * k.toNat : Nat) : Int) := by rw [Int.natCast_mul, hk]
      rw [e]; omega
    have := Int.le_ediv_of_mul_le (show 0 < k by omega) this
    omega
  · unfold PySem.Builtin.Str.tooLong
    exact decide_eq_false (by unfold sizeLine; omega)
  · rw [if_neg (by omega), if_neg (by rw [hc]; exact Bool.false_ne_true)]
    unfold PySem.Made.post
    refine ⟨?_, ⟨.str (repS z k), H, I.tok _, ⟨_, rfl⟩, q⟩⟩
    change ((List.replicate k.toNat z.cps).foldl (· ++ ·) #[]).size ≤ sizeLine
    rw [rep_size]
    have : k.toNat * z.cps.size = z.length * k.toNat := Nat.mul_comm _ _
    rw [this]
    unfold sizeLine
    omega
def rMulA : R2 := fun x y H Q => rI CMulW (fun i j => .int (i * j)) x y H Q ∨ rI CMul (fun i j => .int (i * j)) x y H Q ∨ rRep x y H Q ∨ rMulS x y H Q
theorem op_mulA : OpR X (binaryOp .Mult) rMulA := op_mulW.or (op_mul.or (op_rep.or op_mulS))
theorem RDs.flat {F : Hp} {vs : List V} {ds : List D} (r : RDs Z F vs ds) : ∀ n : Nat, RDs Z F (List.replicate n vs).flatten (List.replicate n ds).flatten
  | 0 => .nil
  | n + 1 => by
    rw [List.replicate_succ, List.replicate_succ, List.flatten_cons, List.flatten_cons]
    exact r.append (r.flat n)
theorem o2_mul : Op2 Z rMulA dMul := fun F H x y dx dy dz e r1 r2 h Q q => by
  cases r1 with
  | str z => cases r2 with
    | int k =>
      simp only [dMul] at h
      split at h
      · rename_i hl
        cases h
        exact .inr (.inr (.inr ⟨z, k, rfl, rfl, hl.1, hl.2.1, hl.2.2.1, hl.2.2.2, q _ F H (Gr.refl e) (.str _)⟩))
      · cases h
    | _ => cases h
  | int i => cases r2 with
    | int j =>
      simp only [dMul] at h
      by_cases hl : CMulW i j ∨ CMul i j
      · rw [if_pos hl] at h
        cases h
        rcases hl with hl | hl
        · exact .inl ⟨i, j, rfl, rfl, hl, q _ F H (Gr.refl e) (.int _)⟩
        · exact .inr (.inl ⟨i, j, rfl, rfl, hl, q _ F H (Gr.refl e) (.int _)⟩)
      · rw [if_neg hl] at h; cases h
    | _ => cases h
  | lst h1 a1 => cases r2 with
    | int k =>
      simp only [dMul] at h
      split at h
      · rename_i hl
        cases h
        exact .inr (.inr (.inl ⟨_, k, _, rfl, rfl, e _ _ h1, hl.1, hl.2.1, by rw [a1.length]; exact hl.2.2, fun p hp => q _ _ _ (Gr.new1 e hp) (.lst upd_same ((a1.flat _).mono (Ex.new (fr_of e hp))))⟩))
      · cases h
    | _ => cases h
  | _ => cases h
theorem o2_floordiv : Op2 Z (rI CDivW fun i j => .int (i / j)) dFloorDiv := fun F H x y dx dy dz e r1 r2 h Q q => by
  cases r1 with
  | int i => cases r2 with
    | int j =>
      simp only [dFloorDiv] at h
      by_cases hl : CDivW i j
      · rw [if_pos hl] at h; cases h; exact ⟨i, j, rfl, rfl, hl, q _ F H (Gr.refl e) (.int _)⟩
      · rw [if_neg hl] at h; cases h
    | _ => cases h
  | _ => cases h
theorem o2_mod : Op2 Z (rI (fun _ j => 0 < j) fun i j => .int (i % j)) dMod := fun F H x y dx dy dz e r1 r2 h Q q => by
  cases r1 with
  | int i => cases r2 with
    | int j =>
      simp only [dMod] at h
      by_cases hl : 0 < j
      · rw [if_pos hl] at h; cases h; exact ⟨i, j, rfl, rfl, hl, q _ F H (Gr.refl e) (.int _)⟩
      · rw [if_neg hl] at h; cases h
    | _ => cases h
  | _ => cases h
theorem o2_pow : Op2 Z (rI CPow fun i j => .int (i ^ j.toNat)) dPow := fun F H x y dx dy dz e r1 r2 h Q q => by
  cases r1 with
  | int i => cases r2 with
    | int j =>
      simp only [dPow] at h
      by_cases hl : CPow i j
      · rw [if_pos hl] at h; cases h; exact ⟨i, j, rfl, rfl, hl, q _ F H (Gr.refl e) (.int _)⟩
      · rw [if_neg hl] at h; cases h
    | _ => cases h
  | _ => cases h
def rltA : R2 := fun x y H Q => rI0 (fun i j => .bl (decide (i < j))) x y H Q ∨ ∃ i j, x = .str i ∧ y = .str j ∧ Q (.bl (decide (i.cps.toList < j.cps.toList))) H
theorem opA_lt : OpR X (compareOp .Lt) rltA := op_lt.or op_lt_str
theorem o2_lt : Op2 Z rltA dLt := fun F H x y dx dy dz e r1 r2 h Q q => by
  cases r1 with
  | int i => cases r2 with
    | int j => cases h; exact .inl ⟨i, j, rfl, rfl, q _ F H (Gr.refl e) (.bl _)⟩
    | _ => cases h
  | str i => cases r2 with
    | str j => cases h; exact .inr ⟨i, j, rfl, rfl, q _ F H (Gr.refl e) (.bl _)⟩
    | _ => cases h
  | _ => cases h
def rleA : R2 := fun x y H Q => rI0 (fun i j => .bl (decide (i ≤ j))) x y H Q ∨ ∃ i j, x = .str i ∧ y = .str j ∧ Q (.bl (!decide (j.cps.toList < i.cps.toList))) H
theorem opA_le : OpR X (compareOp .LtE) rleA := op_le.or op_le_str
theorem o2_le : Op2 Z rleA dLe := fun F H x y dx dy dz e r1 r2 h Q q => by
  cases r1 with
  | int i => cases r2 with
    | int j => cases h; exact .inl ⟨i, j, rfl, rfl, q _ F H (Gr.refl e) (.bl _)⟩
    | _ => cases h
  | str i => cases r2 with
    | str j => cases h; exact .inr ⟨i, j, rfl, rfl, q _ F H (Gr.refl e) (.bl _)⟩
    | _ => cases h
  | _ => cases h
def rgtA : R2 := fun x y H Q => rI0 (fun i j => .bl (decide (j < i))) x y H Q ∨ ∃ i j, x = .str i ∧ y = .str j ∧ Q (.bl (decide (j.cps.toList < i.cps.toList))) H
theorem opA_gt : OpR X (compareOp .Gt) rgtA := op_gt.or op_gt_str
theorem o2_gt : Op2 Z rgtA dGt := fun F H x y dx dy dz e r1 r2 h Q q => by
  cases r1 with
  | int i => cases r2 with
    | int j => cases h; exact .inl ⟨i, j, rfl, rfl, q _ F H (Gr.refl e) (.bl _)⟩
    | _ => cases h
  | str i => cases r2 with
    | str j => cases h; exact .inr ⟨i, j, rfl, rfl, q _ F H (Gr.refl e) (.bl _)⟩
    | _ => cases h
  | _ => cases h
def rgeA : R2 := fun x y H Q => rI0 (fun i j => .bl (decide (j ≤ i))) x y H Q ∨ ∃ i j, x = .str i ∧ y = .str j ∧ Q (.bl (!decide (i.cps.toList < j.cps.toList))) H
theorem opA_ge : OpR X (compareOp .GtE) rgeA := op_ge.or op_ge_str
theorem o2_ge : Op2 Z rgeA dGe := fun F H x y dx dy dz e r1 r2 h Q q => by
  cases r1 with
  | int i => cases r2 with
    | int j => cases h; exact .inl ⟨i, j, rfl, rfl, q _ F H (Gr.refl e) (.bl _)⟩
    | _ => cases h
  | str i => cases r2 with
    | str j => cases h; exact .inr ⟨i, j, rfl, rfl, q _ F H (Gr.refl e) (.bl _)⟩
    | _ => cases h
  | _ => cases h
theorem dEqP_some {x y : D} {b : Bool} (h : dEqP x y = some b) : ∃ p q, x.py = some p ∧ y.py = some q ∧ SeqAt.shaped p = true ∧ SeqAt.shaped q = true ∧ PyData.eqv p q = b := by
  simp only [dEqP] at h
  cases q1 : x.py with
  | none => rw [q1] at h; cases h
  | some p =>
    cases q2 : y.py with
    | none => rw [q1, q2] at h; cases h
    | some q =>
      rw [q1, q2, Option.bind_some, Option.bind_some] at h
      by_cases hs : SeqAt.shaped p = true ∧ SeqAt.shaped q = true
      · rw [if_pos hs] at h; cases h; exact ⟨p, q, rfl, rfl, hs.1, hs.2, rfl⟩
      · rw [if_neg hs] at h; cases h
theorem dEqB_some {x y : D} {b : Bool} (h : dEqB x y = some b) : (∃ a c, x = .str a ∧ y = .str c ∧ decide (a = c) = b) ∨ dEqP x y = some b := by
  unfold dEqB at h
  split at h
  · cases h; exact .inl ⟨_, _, rfl, rfl, rfl⟩
  · exact .inr h
theorem o2_eq : Op2 Z (fun x y H Q => rEq x y H Q ∨ rEqD Z.K x y H Q) dEq := fun F H x y dx dy dz e r1 r2 h Q q => by
  simp only [dEq] at h
  cases hb : dEqB dx dy with
  | none => rw [hb] at h; cases h
  | some b =>
    rw [hb] at h
    cases h
    rcases dEqB_some hb with ⟨a, c, rfl, rfl, h5⟩ | hb
    · cases r1
      cases r2
      refine .inl ⟨rfl, ?_⟩
      have : decide (V.str a = V.str c) = b := by
        rw [← h5]
        by_cases z : a = c
        · subst z; simp
        · have z2 : V.str a ≠ V.str c := fun y => z (V.str.inj y)
          rw [decide_eq_false z, decide_eq_false z2]
      rw [this]
      exact q _ F H (Gr.refl e) (.bl b)
    · obtain ⟨p, p', h1, h2, h3, h4, h5⟩ := dEqP_some hb
      exact .inr ⟨p, p', r1.dp e h1, r2.dp e h2, h3, h4, by rw [h5]; exact q _ F H (Gr.refl e) (.bl b)⟩
theorem o2_ne : Op2 Z (fun x y H Q => rNe x y H Q ∨ rNeD Z.K x y H Q) dNe := fun F H x y dx dy dz e r1 r2 h Q q => by
  simp only [dNe] at h
  cases hb : dEqB dx dy with
  | none => rw [hb] at h; cases h
  | some b =>
    rw [hb] at h
    cases h
    rcases dEqB_some hb with ⟨a, c, rfl, rfl, h5⟩ | hb
    · cases r1
      cases r2
      refine .inl ⟨rfl, ?_⟩
      have : (!decide (V.str a = V.str c)) = !b := by
        rw [← h5]
        by_cases z : a = c
        · subst z; simp
        · have z2 : V.str a ≠ V.str c := fun y => z (V.str.inj y)
          rw [decide_eq_false z, decide_eq_false z2]
      rw [this]
      exact q _ F H (Gr.refl e) (.bl (!b))
    · obtain ⟨p, p', h1, h2, h3, h4, h5⟩ := dEqP_some hb
      exact .inr ⟨p, p', r1.dp e h1, r2.dp e h2, h3, h4, by rw [h5]; exact q _ F H (Gr.refl e) (.bl (!b))⟩
theorem RD.isNon {F : Hp} {v : V} {d : D} (r : RD Z F v d) : decide (v = .non) = d.isNon := by
  cases r <;> rfl
theorem o2_is : Op2 Z (fun x y H Q => y = .non ∧ Q (.bl (decide (x = .non))) H) dIs := fun F H x y dx dy dz e r1 r2 h Q q => by
  cases r2 with
  | non => cases h; exact ⟨rfl, by rw [r1.isNon]; exact q _ F H (Gr.refl e) (.bl _)⟩
  | _ => cases h
theorem o2_isNot : Op2 Z (fun x y H Q => y = .non ∧ Q (.bl (!decide (x = .non))) H) dIsNot := fun F H x y dx dy dz e r1 r2 h Q q => by
  cases r2 with
  | non => cases h; exact ⟨rfl, by rw [r1.isNon]; exact q _ F H (Gr.refl e) (.bl _)⟩
  | _ => cases h
theorem o1_neg : Op1 Z (rU fun i => .int (-i)) dNeg := fun F H x dx dz e r1 h Q q => by
  cases r1 with
  | int i => cases h; exact ⟨i, rfl, q _ F H (Gr.refl e) (.int _)⟩
  | _ => cases h
/-! ### subscripts -/
def dIx : D → D → Option D
  | .lst ds, .int i => atI ds i
  | .tup ds, .int i => atI ds i
  | .str z, .int i => if z.length ≤ sizeLine then (atI z.cps.toList i).map fun c => .str ⟨#[c]⟩ else none
  | _, _ => none
theorem atI_rel {F : Hp} {vs : List V} {ds : List D} {i : Int} {d : D} (r : RDs Z F vs ds) (h : atI ds i = some d) : ∃ v, atI vs i = some v ∧ RD Z F v d := by
  unfold atI at h ⊢
  rw [r.length]
  cases q : ixN ds.length i with
  | none => rw [q] at h; cases h
  | some j => rw [q, Option.bind_some] at h; exact r.getD h
theorem o2_ix : Op2 Z (rIx Z.K) dIx := fun F H x y dx dy dz e r1 r2 h Q q => by
  cases r1 with
  | lst h1 a1 => cases r2 with
    | int i =>
      obtain ⟨v, h2, h3⟩ := atI_rel a1 h
      exact .inl ⟨_, _, i, v, rfl, rfl, Or.inl (Or.inl (e _ _ h1)), h2, q v F H (Gr.refl e) h3⟩
    | _ => cases h
  | tup h1 a1 => cases r2 with
    | int i =>
      obtain ⟨v, h2, h3⟩ := atI_rel a1 h
      exact .inr (.inl ⟨_, _, i, v, rfl, rfl, ex_t e h1, h2, q v F H (Gr.refl e) h3⟩)
    | _ => cases h
  | str z => cases r2 with
    | int i =>
      simp only [dIx] at h
      split at h
      · rename_i hz
        cases hc : atI z.cps.toList i with
        | none => rw [hc] at h; cases h
        | some c => rw [hc] at h; cases h; exact .inr (.inr ⟨z, i, c, rfl, rfl, hz, hc, q _ F H (Gr.refl e) (.str _)⟩)
      · cases h
    | _ => cases h
  | _ => cases h
variable {W : WX} {a b : Expr} {ma mb : M D} {pos : Pos}
theorem me_ix (hK : X.K = Z.K) (ha : ME Z X W a ma) (hb : ME Z X W b mb) (hs : PlainIx b := by exact fun _ _ => rfl) : ME Z X W (.Subscript a b pos) (cOp2 dIx ma mb) := by
  obtain ⟨ta, pa, ea⟩ := ha
  obtain ⟨tb, pb, eb⟩ := hb
  refine ⟨_, pe_ix ix_seq pa pb hs, ?_⟩
  rw [hK]
  exact eve_op2 o2_ix ea eb
/-! ### built-ins -/
def bInt : List D → Option D
  | [.int i] => some (.int i)
  | [.bl k] => some (.int (if k then 1 else 0))
  | _ => none
def bAbs : List D → Option D
  | [.int i] => some (.int (if i < 0 then -i else i))
  | _ => none
def bLen : List D → Option D
  | [.lst ds] => some (.int ds.length)
  | [.tup ds] => some (.int ds.length)
  | [.str x] => if x.length ≤ sizeLine then some (.int x.length) else none
  | _ => none
def bMax : List D → Option D
  | [.int i, .int j] => some (.int (if j > i then j else i))
  | _ => none
def bMin : List D → Option D
  | [.int i, .int j] => some (.int (if j < i then j else i))
  | _ => none
def bGcd : List D → Option D
  | [.int i, .int j] => some (.int ((Nat.gcd i.natAbs j.natAbs : Nat) : Int))
  | _ => none
def bStr : List D → Option D
  | [.int i] => if i.natAbs.log2 < 1920 then some (.str (toString i)) else none
  | [.str x] => some (.str x)
  | _ => none
def blAll : List D → Option (List Bool)
  | [] => some []
  | .bl b :: ds => (blAll ds).map (b :: ·)
  | _ => none
def intAll : List D → Option (List Int)
  | [] => some []
  | .int b :: ds => (intAll ds).map (b :: ·)
  | _ => none
def bAll : List D → Option D
  | [.lst ds] => (blAll ds).map fun bs => .bl (bs.all id)
  | _ => none
def bAny : List D → Option D
  | [.lst ds] => (blAll ds).map fun bs => .bl (bs.any id)
  | _ => none
def bSum : List D → Option D
  | [.lst ds] => (intAll ds).map fun ns => .int ns.sum
  | _ => none
theorem blAll_ok {F : Hp} : ∀ {vs : List V} {ds : List D} {bs : List Bool}, RDs Z F vs ds → blAll ds = some bs → vs = bs.map V.bl
  | _, _, _, .nil, h => by cases h; rfl
  | _, _, _, .cons (ds := ds) hd t, h => by
    cases hd with
    | bl b =>
      simp only [blAll] at h
      cases q : blAll ds with
      | none => rw [q] at h; cases h
      | some bs => rw [q] at h; cases h; rw [blAll_ok t q]; rfl
    | _ => simp [blAll] at h
theorem intAll_ok {F : Hp} : ∀ {vs : List V} {ds : List D} {bs : List Int}, RDs Z F vs ds → intAll ds = some bs → vs = bs.map V.int
  | _, _, _, .nil, h => by cases h; rfl
  | _, _, _, .cons (ds := ds) hd t, h => by
    cases hd with
    | int b =>
      simp only [intAll] at h
      cases q : intAll ds with
      | none => rw [q] at h; cases h
      | some bs => rw [q] at h; cases h; rw [intAll_ok t q]; rfl
    | _ => simp [intAll] at h
theorem on_int : OpN Z (fun xs H Q => (∃ i, xs = [.int i] ∧ Q (.int i) H) ∨ ∃ k, xs = [.bl k] ∧ Q (.int (if k then 1 else 0)) H) bInt := fun F H xs ds dz e r h Q q => by
  cases r with
  | nil => cases h
  | cons r1 t => cases t with
    | cons _ _ => cases r1 <;> cases h
    | nil => cases r1 with
      | int i => cases h; exact .inl ⟨i, rfl, q _ F H (Gr.refl e) (.int _)⟩
      | bl k => cases h; exact .inr ⟨k, rfl, q _ F H (Gr.refl e) (.int _)⟩
      | _ => cases h
theorem on_abs : OpN Z (fun xs H Q => ∃ i, xs = [.int i] ∧ Q (.int (if i < 0 then -i else i)) H) bAbs := fun F H xs ds dz e r h Q q => by
  cases r with
  | nil => cases h
  | cons r1 t => cases t with
    | cons _ _ => cases r1 <;> cases h
    | nil => cases r1 with
      | int i => cases h; exact ⟨i, rfl, q _ F H (Gr.refl e) (.int _)⟩
      | _ => cases h
def rLenA (K : PySem.W.Frag) : List V → Hp → VK → Prop := fun xs H Q => (∃ p ys, xs = [.ref p] ∧ (SqL K H p ys ∨ SqT K H p ys) ∧ Q (.int ys.length) H) ∨ ∃ z, xs = [.str z] ∧ z.length ≤ sizeLine ∧ Q (.int z.length) H
theorem call_lenA : CallR X (.builtin "len") (rLenA X.K) := call_len_seq.or call_len_str
theorem on_len : OpN Z (rLenA Z.K) bLen := fun F H xs ds dz e r h Q q => by
  cases r with
  | nil => cases h
  | cons r1 t => cases t with
    | cons _ _ => cases r1 <;> cases h
    | nil => cases r1 with
      | lst h1 a1 => cases h; exact .inl ⟨_, _, rfl, .inl (Or.inl (Or.inl (e _ _ h1))), by rw [a1.length]; exact q _ F H (Gr.refl e) (.int _)⟩
      | tup h1 a1 => cases h; exact .inl ⟨_, _, rfl, .inr (ex_t e h1), by rw [a1.length]; exact q _ F H (Gr.refl e) (.int _)⟩
      | str x =>
        simp only [bLen] at h
        by_cases hl : x.length ≤ sizeLine
        · rw [if_pos hl] at h; cases h; exact .inr ⟨x, rfl, hl, q _ F H (Gr.refl e) (.int _)⟩
        · rw [if_neg hl] at h; cases h
      | _ => cases h
theorem on_max : OpN Z (fun xs H Q => ∃ i j, xs = [.int i, .int j] ∧ Q (.int (if j > i then j else i)) H) bMax := fun F H xs ds dz e r h Q q => by
  cases r with
  | nil => cases h
  | cons r1 t => cases t with
    | nil => cases r1 <;> cases h
    | cons r2 t => cases t with
      | cons _ _ => cases r1 <;> cases r2 <;> cases h
      | nil => cases r1 with
        | int i => cases r2 with
          | int j => cases h; exact ⟨i, j, rfl, q _ F H (Gr.refl e) (.int _)⟩
          | _ => cases h
        | _ => cases h
theorem on_min : OpN Z (fun xs H Q => ∃ i j, xs = [.int i, .int j] ∧ Q (.int (if j < i then j else i)) H) bMin := fun F H xs ds dz e r h Q q => by
  cases r with
  | nil => cases h
  | cons r1 t => cases t with
    | nil => cases r1 <;> cases h
    | cons r2 t => cases t with
      | cons _ _ => cases r1 <;> cases r2 <;> cases h
      | nil => cases r1 with
        | int i => cases r2 with
          | int j => cases h; exact ⟨i, j, rfl, q _ F H (Gr.refl e) (.int _)⟩
          | _ => cases h
        | _ => cases h
theorem on_gcd : OpN Z rGcd bGcd := fun F H xs ds dz e r h Q q => by
  cases r with
  | nil => cases h
  | cons r1 t => cases t with
    | nil => cases r1 <;> cases h
    | cons r2 t => cases t with
      | cons _ _ => cases r1 <;> cases r2 <;> cases h
      | nil => cases r1 with
        | int i => cases r2 with
          | int j => cases h; exact ⟨i, j, rfl, q _ F H (Gr.refl e) (.int _)⟩
          | _ => cases h
        | _ => cases h
def rStrA : List V → Hp → VK → Prop := fun xs H Q => (∃ i, xs = [.int i] ∧ i.natAbs.log2 < 1920 ∧ Q (.str (toString i)) H) ∨ ∃ a, xs = [.str a] ∧ Q (.str a) H
theorem call_strA : CallR X (.type "str") rStrA := call_str_int.or SkE.call_str_str
theorem on_str : OpN Z rStrA bStr := fun F H xs ds dz e r h Q q => by
  cases r with
  | nil => cases h
  | cons r1 t => cases t with
    | cons _ _ => cases r1 <;> cases h
    | nil => cases r1 with
      | int i =>
        simp only [bStr] at h
        by_cases hl : i.natAbs.log2 < 1920
        · rw [if_pos hl] at h; cases h; exact .inl ⟨i, rfl, hl, q _ F H (Gr.refl e) (.str _)⟩
        · rw [if_neg hl] at h; cases h
      | str x => cases h; exact .inr ⟨x, rfl, q _ F H (Gr.refl e) (.str _)⟩
      | _ => cases h
theorem on_all : OpN Z (rAll Z.K) bAll := fun F H xs ds dz e r h Q q => by
  cases r with
  | nil => cases h
  | cons r1 t => cases t with
    | cons _ _ => cases r1 <;> cases h
    | nil => cases r1 with
      | lst h1 a1 =>
        rename_i ds
        simp only [bAll] at h
        cases q2 : blAll ds with
        | none => rw [q2] at h; cases h
        | some bs =>
          rw [q2] at h
          cases h
          have := blAll_ok a1 q2
          subst this
          exact ⟨_, bs, rfl, Or.inl (Or.inl (e _ _ h1)), q _ F H (Gr.refl e) (.bl _)⟩
      | _ => cases h
theorem on_any : OpN Z (rAny Z.K) bAny := fun F H xs ds dz e r h Q q => by
  cases r with
  | nil => cases h
  | cons r1 t => cases t with
    | cons _ _ => cases r1 <;> cases h
    | nil => cases r1 with
      | lst h1 a1 =>
        rename_i ds
        simp only [bAny] at h
        cases q2 : blAll ds with
        | none => rw [q2] at h; cases h
        | some bs =>
          rw [q2] at h
          cases h
          have := blAll_ok a1 q2
          subst this
          exact ⟨_, bs, rfl, Or.inl (Or.inl (e _ _ h1)), q _ F H (Gr.refl e) (.bl _)⟩
      | _ => cases h
theorem on_sum : OpN Z (rSum Z.K) bSum := fun F H xs ds dz e r h Q q => by
  cases r with
  | nil => cases h
  | cons r1 t => cases t with
    | cons _ _ => cases r1 <;> cases h
    | nil => cases r1 with
      | lst h1 a1 =>
        rename_i ds
        simp only [bSum] at h
        cases q2 : intAll ds with
        | none => rw [q2] at h; cases h
        | some bs =>
          rw [q2] at h
          cases h
          have := intAll_ok a1 q2
          subst this
          exact ⟨_, bs, rfl, Or.inl (Or.inl (e _ _ h1)), q _ F H (Gr.refl e) (.int _)⟩
      | _ => cases h
/-! repr -/
def bRepr : List D → Option D
  | [d] => d.py.bind fun p => if PyData.showable p = true ∧ p.shown.length ≤ sizeLine ∧ SeqAt.shaped p = true then some (.str p.shown) else none
  | _ => none
def rReprD (K : PySem.W.Frag) : List V → Hp → VK → Prop := fun xs H Q => ∃ x p, xs = [x] ∧ Dp K H x p ∧ PyData.showable p = true ∧ p.shown.length ≤ sizeLine ∧ SeqAt.shaped p = true ∧ Q (.str p.shown) H
theorem call_reprD (hu : X.A.units + 80 < cLine) (hg : X.A.guards = some []) : CallR X (.builtin "repr") (rReprD X.K) := by
  intro pins s σ H xs us Q I r h
  obtain ⟨x, p, rfl, hd, h1, h2, h3, q⟩ := h
  cases r with
  | cons r1 r2 =>
    cases r2
    obtain ⟨as, rd⟩ := Dp.reads I p x _ hd r1
    have fin : ∀ (s2 : Shared) (t : Tok), Inv X pins σ H s2 → EP X pins σ Q (.str p.shown t) s2 := fun s2 t I2 => ⟨.str _, H, I2, ⟨t, rfl⟩, q⟩
    cases rd with
    | none => exact PySem.P.repr_of_none (fin _ _ (I.tok _))
    | bool b => exact PySem.P.repr_of_bool (fin _ _ (I.tok _))
    | int i t => exact PySem.P.repr_of_int (by simpa [PyData.showable] using h1) (fin _ _ (I.tok _))
    | str y t => exact PySem.P.repr_of_str (fin _ _ (I.tok _)) (hsz := by simpa [PyData.shown] using h2)
    | list a b c d => exact repr_of_reads' (.list a b c d) h1 (PyData.noDict_hsm (PyData.hasDict_of_canLay _ (SeqAt.canLay_of_shaped h3))) hg (by have := SeqAt.depth_of_shaped h3; omega) (fun _ _ e => e) (fun h' u tk hk => fin _ _ (I.kept hk)) h2
    | tuple a b c d => exact repr_of_reads' (.tuple a b c d) h1 (PyData.noDict_hsm (PyData.hasDict_of_canLay _ (SeqAt.canLay_of_shaped h3))) hg (by have := SeqAt.depth_of_shaped h3; omega) (fun _ _ e => e) (fun h' u tk hk => fin _ _ (I.kept hk)) h2
    | dict a b c d e => simp [SeqAt.shaped, PyData.canLay0] at h3
theorem on_repr : OpN Z (rReprD Z.K) bRepr := fun F H xs ds dz e r h Q q => by
  cases r with
  | nil => cases h
  | cons r1 t => cases t with
    | cons _ _ => cases h
    | nil =>
      rename_i d
      simp only [bRepr] at h
      cases q2 : d.py with
      | none => rw [q2] at h; cases h
      | some p =>
        rw [q2, Option.bind_some] at h
        split at h
        · rename_i hl
          cases h
          exact ⟨_, p, rfl, r1.dp e q2, hl.1, hl.2.1, hl.2.2, q _ F H (Gr.refl e) (.str _)⟩
        · cases h
end
end Md

/-! Md8: and, or, chains; isinstance; own lists looked into; parts of lists. -/
namespace Md
open PySem PySem.Spec PyProof.Rows L2
section
variable {Z : Wd} {W : WX} {X : Cx} {σ : L2.St} {F H F' H' : Hp} {e : En} {a b c x : Expr} {rest : List Expr} {ma mb mc : M D} {mt mu : M Bool} {pos p : Pos}
/-! ### and, or -/
theorem mw_and1 (h : MT Z X W a mt) : MW Z X W (.BoolOp .And [a] pos) mt := by
  obtain ⟨t, p, v⟩ := h
  exact ⟨t, pw_and1 p, v⟩
theorem mw_or1 (h : MT Z X W a mt) : MW Z X W (.BoolOp .Or [a] pos) mt := by
  obtain ⟨t, p, v⟩ := h
  exact ⟨t, pw_or1 p, v⟩
theorem mw_and (h : MT Z X W a mt) (hu : MW Z X W (.BoolOp .And (b :: rest) pos) mu) : MW Z X W (.BoolOp .And (a :: b :: rest) pos) (cAnd mt mu) := by
  obtain ⟨t, p, v⟩ := h
  obtain ⟨u, q, w⟩ := hu
  exact ⟨_, pw_and p q, evt_and v w⟩
theorem mw_or (h : MT Z X W a mt) (hu : MW Z X W (.BoolOp .Or (b :: rest) pos) mu) : MW Z X W (.BoolOp .Or (a :: b :: rest) pos) (cOr mt mu) := by
  obtain ⟨t, p, v⟩ := h
  obtain ⟨u, q, w⟩ := hu
  exact ⟨_, pw_or p q, evt_or v w⟩
theorem mt_ofW (h : MW Z X W a mt) : MT Z X W a mt := mt_w h fun _ p => p.pt
theorem me_one {op} (h : ME Z X W a ma) : ME Z X W (.BoolOp op [a] pos) ma := by
  obtain ⟨t, p, v⟩ := h
  exact ⟨t, pe_one p, v⟩
theorem me_and (h : ME Z X W a ma) (hu : ME Z X W (.BoolOp .And (b :: rest) pos) mb) : ME Z X W (.BoolOp .And (a :: b :: rest) pos) (cAndV ma mb) := by
  obtain ⟨t, p, v⟩ := h
  obtain ⟨u, q, w⟩ := hu
  exact ⟨_, pe_and p q, eve_and v w⟩
theorem me_or (h : ME Z X W a ma) (hu : ME Z X W (.BoolOp .Or (b :: rest) pos) mb) : ME Z X W (.BoolOp .Or (a :: b :: rest) pos) (cOrV ma mb) := by
  obtain ⟨t, p, v⟩ := h
  obtain ⟨u, q, w⟩ := hu
  exact ⟨_, pe_or p q, eve_or v w⟩
theorem me_not (h : ME Z X W a ma) : ME Z X W (.UnaryOp .Not a pos) (cNotV ma) := by
  obtain ⟨t, p, v⟩ := h
  exact ⟨_, pe_not p, eve_not v⟩
theorem me_neg (h : ME Z X W a ma) : ME Z X W (.UnaryOp .USub a pos) (cOp1 dNeg ma) := me_un un_neg o1_neg (fun _ p => pe_un un_neg p) h
/-! ### chains -/
def cChain (o1 o2 : D → D → Option D) (ma mb mc : M D) : M D := fun e => (ma e).bind fun x e1 => (mb e1).bind fun y e2 => match o1 x y with
  | some (.bl k) => if k = true then (mc e2).bind fun z e3 => (match o2 y z with
    | some d => .ok d e3
    | none => .no) else .ok (.bl false) e2
  | _ => .no
theorem eve_chain {r1 r2 : R2} {o1 o2 : D → D → Option D} {ta tb tc : TE} (h1 : Op2 Z r1 o1) (h2 : Op2 Z r2 o2) (ha : EvE Z ta W ma) (hb : EvE Z tb W mb) (hc : EvE Z tc W mc) : EvE Z (tChain r1 r2 ta tb tc) W (cChain o1 o2 ma mb mc) := fun σ F H e w Q hp =>
  ha.bind w hp fun dx x F1 H1 e1 s1 rx hp1 => hb.bind s1.wf hp1 fun dy y F2 H2 e2 s2 ry hp2 => by
    cases q : o1 dx dy with
    | none => rw [q] at hp2; exact hp2.elim
    | some dz =>
      rw [q] at hp2
      refine h1 F2 H2 x y dx dy dz s2.wf.sub (rx.mono s2.ext) ry q _ fun v F3 H3 g rd => ?_
      cases rd with
      | bl k =>
        refine ⟨k, rfl, ?_⟩
        cases k with
        | false => exact Post.gr s2.wf hp2 g _ (.bl false)
        | true =>
          have w3 := s2.wf.grow g
          simp only [if_true] at hp2 ⊢
          exact hc.bind w3 (Post.rebase (g.sx s2.wf) hp2) fun dw v4 F4 H4 e4 s4 r4 hp4 => by
            cases q4 : o2 dy dw with
            | none => rw [q4] at hp4; exact hp4.elim
            | some d5 =>
              rw [q4] at hp4
              exact h2 F4 H4 y v4 dy dw d5 s4.wf.sub (ry.mono (g.ext.trans s4.ext)) r4 q4 Q fun v F' H' g rd => Post.gr s4.wf hp4 g v rd
      | _ => exact hp2.elim
theorem me_chain {r1 r2 : R2} {p1 p2 : D → D → Option D} {o1 o2 : CmpOp} (ho : OpR X (compareOp o1) r1) (ho2 : OpR X (compareOp o2) r2) (h1 : Op2 Z r1 p1) (h2 : Op2 Z r2 p2) (hm : lastMarks [o1, o2] [b, c] = false) (ha : ME Z X W a ma) (hb : ME Z X W b mb) (hc : ME Z X W c mc) :
    ME Z X W (.Compare a [o1, o2] [b, c] pos) (cChain p1 p2 ma mb mc) := by
  obtain ⟨ta, pa, ea⟩ := ha
  obtain ⟨tb, pb, eb⟩ := hb
  obtain ⟨tc, pc, ec⟩ := hc
  exact ⟨_, pe_chain ho ho2 pa pb pc hm, eve_chain h1 h2 ea eb ec⟩
theorem mt_chain {r1 r2 : R2} {p1 p2 : D → D → Option D} {o1 o2 : CmpOp} (ho : OpR X (compareOp o1) r1) (ho2 : OpR X (compareOp o2) r2) (h1 : Op2 Z r1 p1) (h2 : Op2 Z r2 p2) (hm : lastMarks [o1, o2] [b, c] = false) (ha : ME Z X W a ma) (hb : ME Z X W b mb) (hc : ME Z X W c mc) :
    MT Z X W (.Compare a [o1, o2] [b, c] pos) (cBool (cChain p1 p2 ma mb mc)) := by
  obtain ⟨ta, pa, ea⟩ := ha
  obtain ⟨tb, pb, eb⟩ := hb
  obtain ⟨tc, pc, ec⟩ := hc
  exact ⟨_, pt_chain ho ho2 pa pb pc hm, evt_test (eve_chain h1 h2 ea eb ec)⟩
/-! ### isinstance -/
inductive Tk where
  | b (n : String) | c (i : Nat) | x (i : Nat)
  deriving DecidableEq
def D.tk : D → Option Tk
  | .non => some (.b "NoneType")
  | .bl _ => some (.b "bool")
  | .int _ => some (.b "int")
  | .str _ => some (.b "str")
  | .tup _ => some (.b "tuple")
  | .lst _ => some (.b "list")
  | .ins c _ => some (.c c)
  | .exc c _ => some (.x c)
  | .dk _ => some (.b "dict")
  | .scr _ => none
  | .fn => none
def Tk.val (Z : Wd) : Tk → Value
  | .b n => .type n
  | .c i => .ref (Z.CL i)
  | .x i => .ref (Z.CL i)
def Tk.Ok (Z : Wd) : Tk → Prop
  | .b _ => True
  | .c i => C8.InsC Z.K (Z.CL i)
  | .x i => ExcC Z.K (Z.CL i)
inductive TyD (K : PySem.W.Frag) (H : Hp) : V → Value → Prop where
  | base {x : V} {t : Value} (h : TyX K H x t) : TyD K H x t
  | exc {a C : Addr} {d : Option Addr} (h : H a = some (ExcO (.ref C) d a)) (hd : ∀ dx, d = some dx → ∃ fs, H dx = some (.xd fs)) (k : ExcC K C) : TyD K H (.ref a) (.ref C)
theorem rd_ty {v : V} {d : D} {t : Tk} (r : RD Z H v d) (h : d.tk = some t) (k : t.Ok Z) : TyD Z.K H v (t.val Z) := by
  cases r with
  | non => cases h; exact .base (.base .non)
  | bl y => cases h; exact .base (.base (.bl y))
  | int y => cases h; exact .base (.base (.int y))
  | str y => cases h; exact .base (.base (.str y))
  | tup ha r =>
    cases h
    rcases ha with (ha | ⟨o, ha⟩) | ⟨o, its, n, ha, hc, _⟩
    · exact .base (.base (.tup ha))
    · exact .base (.fTuple ha)
    · exact .base (.kTuple ha hc)
  | lst ha r => cases h; exact .base (.base (.lst ha))
  | scr ha => cases h
  | ins ha r => cases h; exact .base (.base (.ins ha k.cl k.ha k.hn k.htk k.hm))
  | exc ha hd r => cases h; exact .exc ha (fun dx z => by cases z; exact ⟨_, hd⟩) k
  | exc0 ha => cases h; exact .exc ha (fun dx z => by cases z) k
  | dk ha r => cases h; exact .base (.base (.dK ha))
  | fn _ _ => cases h
theorem kit_ofD {pins : List (Addr × Obj)} {s : Shared} {v : V} {u t : Value} (I : Inv X pins σ H s) (rx : RelV v u) (ty : TyD X.K H v t) : ∃ P : Heap → Prop, PySem.W.KitX X.K u t P ∧ P s.heap ∧ u ≠ .builtin "__main__.__loader__#opaque" := by
  cases ty with
  | base h => exact kit_of I rx h
  | @exc a C d h hdx k =>
    cases (show u = Value.ref a from rx)
    obtain ⟨⟨oe, vs, h1, h2, h3⟩, _, _⟩ := (show ObjOk X.prog X.w H s.heap a (ExcO (.ref C) d a) from I.hok a _ h)
    obtain ⟨oc, od, oda, osl⟩ := oe
    obtain ⟨h4, h5⟩ := h2
    dsimp only at h4 h5 h3
    subst h4 h5 h3
    have hcl : (PySem.W.clsIn X.K C).isSome = true := by
      obtain ⟨cd, hc, _⟩ := PySem.W.any_some k.hd
      rw [hc]; rfl
    cases od with
    | none => exact ⟨_, PySem.W.kitx_exc (x := a) (ox := ⟨.ref C, none, .fields vs, osl⟩) (od := none) hcl k.hg k.hk k.hs k.ha k.hn k.ht k.hm, ⟨h1, rfl, rfl, by trivial⟩, fun z => nomatch z⟩
    | some dx =>
      obtain ⟨fs, hd⟩ := hdx dx rfl
      obtain ⟨m, hns, _⟩ := (show ObjOk X.prog X.w H s.heap dx (.xd fs) from I.hok dx _ hd)
      obtain ⟨oo, es, ep, g1, g2, _⟩ := hns
      exact ⟨_, PySem.W.kitx_exc (x := a) (ox := ⟨.ref C, some dx, .fields vs, osl⟩) (od := some oo) hcl k.hg k.hk k.hs k.ha k.hn k.ht k.hm, ⟨h1, rfl, rfl, g1⟩, fun z => nomatch z⟩
def rIsiD (K : PySem.W.Frag) : List V → Hp → VK → Prop := fun xs H Q => ∃ (x c : V) (t u : Value) (b : Bool), xs = [x, c] ∧ ClsV c u ∧ TyD K H x t ∧ PySem.W.kitOne K t u = some b ∧ Q (.bl b) H
def rIsiDT (K : PySem.W.Frag) : List V → Hp → VK → Prop := fun xs H Q => ∃ (x : V) (tp : Addr) (cs : List V) (t : Value) (us : List Value) (b : Bool), xs = [x, .ref tp] ∧ H tp = some (.tup cs) ∧ Paired ClsV cs us ∧ TyD K H x t ∧ PySem.W.kitAny K t us = some b ∧ Q (.bl b) H
theorem call_isiD : CallR X (.builtin "isinstance") (rIsiD X.K) := by
  intro pins s σ H xs us Q I r h
  obtain ⟨x, c, t, u, b, rfl, k, ty, e, q⟩ := h
  obtain ⟨u1, u2, rfl, r1, r2⟩ := vals2 r
  have e2 := k.eq r2
  subst e2
  obtain ⟨P, Z, p, hx⟩ := kit_ofD I r1 ty
  exact PySem.W.kia_one Z I.kIn p e hx fun tk => ⟨.bl b, H, I.tok tk, rfl, q⟩
theorem call_isiDT : CallR X (.builtin "isinstance") (rIsiDT X.K) := by
  intro pins s σ H xs us Q I r h
  obtain ⟨x, tp, cs, t, ws, b, rfl, hT, k, ty, e, q⟩ := h
  obtain ⟨u1, u2, rfl, r1, r2⟩ := vals2 r
  cases (show u2 = Value.ref tp from r2)
  obtain ⟨P, Z, p, hx⟩ := kit_ofD I r1 ty
  obtain ⟨_, its, rv, o, h1, h2, n, h3⟩ := (show ObjOk X.prog X.w H s.heap tp (.tup cs) from I.hok tp _ hT)
  have e3 := ClsV.all k rv
  subst e3
  obtain ⟨oc, od, dt, sl⟩ := o
  simp only at h2 h3
  subst h2 h3
  exact PySem.W.kia_tup Z I.kIn p h1 e hx fun tk => ⟨.bl b, H, I.tok tk, rfl, q⟩
def IsOk (Z : Wd) (u : Value) : List (Tk × Bool) → Prop
  | [] => True
  | p :: r => (p.1.Ok Z ∧ PySem.W.kitOne Z.K (p.1.val Z) u = some p.2) ∧ IsOk Z u r
def IsOkT (Z : Wd) (us : List Value) : List (Tk × Bool) → Prop
  | [] => True
  | p :: r => (p.1.Ok Z ∧ PySem.W.kitAny Z.K (p.1.val Z) us = some p.2) ∧ IsOkT Z us r
theorem IsOk.get {u : Value} : ∀ {tab : List (Tk × Bool)} {t : Tk} {b : Bool}, IsOk Z u tab → tab.lookup t = some b → t.Ok Z ∧ PySem.W.kitOne Z.K (t.val Z) u = some b
  | [], _, _, _, h => by simp at h
  | (t', b') :: r, t, b, ⟨h1, h2⟩, h => by
    cases q : t == t' with
    | true =>
      rw [List.lookup_cons, q] at h
      cases h
      have := eq_of_beq q
      subst this
      exact h1
    | false =>
      rw [List.lookup_cons, q] at h
      exact h2.get h
theorem IsOkT.get {u : List Value} : ∀ {tab : List (Tk × Bool)} {t : Tk} {b : Bool}, IsOkT Z u tab → tab.lookup t = some b → t.Ok Z ∧ PySem.W.kitAny Z.K (t.val Z) u = some b
  | [], _, _, _, h => by simp at h
  | (t', b') :: r, t, b, ⟨h1, h2⟩, h => by
    cases q : t == t' with
    | true =>
      rw [List.lookup_cons, q] at h
      cases h
      have := eq_of_beq q
      subst this
      exact h1
    | false =>
      rw [List.lookup_cons, q] at h
      exact h2.get h
def dIsi (tab : List (Tk × Bool)) (d : D) : Option D := (d.tk.bind fun t => tab.lookup t).map D.bl
theorem dIsi_some {tab : List (Tk × Bool)} {d z : D} (h : dIsi tab d = some z) : ∃ t b, d.tk = some t ∧ tab.lookup t = some b ∧ z = .bl b := by
  unfold dIsi at h
  cases q : d.tk with
  | none => rw [q] at h; cases h
  | some t =>
    rw [q] at h
    simp only [Option.bind_some] at h
    cases q2 : tab.lookup t with
    | none => rw [q2] at h; cases h
    | some b => rw [q2] at h; cases h; exact ⟨t, b, rfl, q2, rfl⟩
/-- a class by its name -/
def MCls (X : Cx) (x : Expr) (u : Value) : Prop := ∃ cv, PE X x (tC cv) ∧ ClsV cv u
theorem mcls_ty {n : Str} {T : String} (hg : Gl X n) (hm : X.mg n = none) (hv : bootBuiltins n = some (.type T)) (hn : n ≠ "__name__" := by decide) (hdb : (n == ("__debug__" : Str)) = false := by decide) : MCls X (.Name n pos) (.type T) := ⟨_, pe_bltn hg hm hv (v := .ty T) rfl hn hdb, .ty T⟩
theorem mcls_own {n : Str} {C : Addr} (hg : Gl X n) (hm : X.mg n = some (.ref C)) (hdb : (n == ("__debug__" : Str)) = false := by decide) : MCls X (.Name n pos) (.ref C) := ⟨_, pe_glob hg hm (v := .ref C) rfl hdb, .own C⟩
def MClss (X : Cx) (xs : List Expr) (us : List Value) : Prop := ∃ cvs ta, PA X xs ta ∧ Paired ClsV cvs us ∧ (∀ σ H Q, Q cvs H → ta σ H Q) ∧ cvs.length = xs.length
theorem mclss_nil : MClss X [] [] := ⟨[], _, pa_nil, .nil, fun _ _ _ h => h, rfl⟩
theorem mclss_cons {u : Value} {us : List Value} (h : MCls X a u) (t : MClss X rest us) (hs : starEach (a :: rest) X.env = (false, eval a X.env) :: starEach rest X.env := by rfl) : MClss X (a :: rest) (u :: us) := by
  obtain ⟨cv, p1, k1⟩ := h
  obtain ⟨cvs, ta, p2, k2, h2, hl⟩ := t
  exact ⟨cv :: cvs, _, pa_cons p1 p2 hs, .cons k1 k2, fun σ H Q h => h2 σ H _ h, by rw [List.length_cons, List.length_cons, hl]⟩
theorem me_isi {u : Value} {tab : List (Tk × Bool)} (hK : X.K = Z.K) (ha : ME Z X W a ma) (hc : MCls X c u) (ht : IsOk Z u tab) (hg : Gl X "isinstance") (hm : X.mg "isinstance" = none) (hv : bootBuiltins "isinstance" = some (.builtin "isinstance"))
    (h1 : starEach [a, c] X.env = (false, eval a X.env) :: starEach [c] X.env := by rfl) (h2 : starEach [c] X.env = (false, eval c X.env) :: starEach [] X.env := by rfl) (hpl : (backTo pos (starEach [c] X.env)).any (·.1) = false := by rfl) :
    ME Z X W (.Call (.Name "isinstance" p) [a, c] [] pos) (cOp1 (dIsi tab) ma) := by
  obtain ⟨ta, pa, ea⟩ := ha
  obtain ⟨cv, pc, k⟩ := hc
  refine ⟨_, pe_callB call_isiD hg hm hv (pa_cons pa (pa_cons pc pa_nil h2) h1) (by decide) (by decide) h1 hpl, fun σ F H e w Q hp => ?_⟩
  refine ea.bind w hp fun d v F1 H1 e1 s1 rd hp1 => ?_
  cases q : dIsi tab d with
  | none => rw [q] at hp1; exact hp1.elim
  | some z =>
    rw [q] at hp1
    obtain ⟨t, b, q1, q2, rfl⟩ := dIsi_some q
    obtain ⟨q3, q4⟩ := ht.get q2
    rw [hK]
    exact ⟨v, cv, _, u, b, rfl, k, rd_ty (rd.mono s1.wf.sub) q1 q3, q4, Post.here s1.wf hp1 _ (.bl b)⟩
theorem paired_len {α β : Type} {R : α → β → Prop} {xs : List α} {ys : List β} (h : Paired R xs ys) : xs.length = ys.length := Paired.length h
theorem me_isiT {us : List Value} {tab : List (Tk × Bool)} {es : List Expr} {j : Nat} {tp : Pos} (hK : X.K = Z.K) (ha : ME Z X W a ma) (hc : MClss X es us) (ht : IsOkT Z us tab) (hl : es.length ≤ 1000) (hg : Gl X "isinstance") (hm : X.mg "isinstance" = none) (hv : bootBuiltins "isinstance" = some (.builtin "isinstance"))
    (h1 : starEach [a, .Tuple es j tp] X.env = (false, eval a X.env) :: starEach [.Tuple es j tp] X.env := by rfl) (h2 : starEach [.Tuple es j tp] X.env = (false, eval (.Tuple es j tp) X.env) :: starEach [] X.env := by rfl) (hpl : (backTo pos (starEach [.Tuple es j tp] X.env)).any (·.1) = false := by rfl) :
    ME Z X W (.Call (.Name "isinstance" p) [a, .Tuple es j tp] [] pos) (cOp1 (dIsi tab) ma) := by
  obtain ⟨ta, pa, ea⟩ := ha
  obtain ⟨cvs, tc, pc, k, hq, hlen⟩ := hc
  refine ⟨_, pe_callB call_isiDT hg hm hv (pa_cons pa (pa_cons (pe_tup pc) pa_nil h2) h1) (by decide) (by decide) h1 hpl, fun σ F H e w Q hp => ?_⟩
  refine ea.bind w hp fun d v F1 H1 e1 s1 rd hp1 => ?_
  cases q : dIsi tab d with
  | none => rw [q] at hp1; exact hp1.elim
  | some z =>
    rw [q] at hp1
    obtain ⟨t, b, q1, q2, rfl⟩ := dIsi_some q
    obtain ⟨q3, q4⟩ := ht.get q2
    refine hq _ _ _ ⟨by rw [hlen, sizeLine_eq]; omega, fun l hn => ?_⟩
    have g : Gr F1 H1 F1 (upd H1 l (.tup cvs)) := Gr.new0 s1.wf.sub hn
    rw [hK]
    exact ⟨v, l, cvs, _, us, b, rfl, upd_same, k, rd_ty (rd.mono g.sub) q1 q3, q4, Post.gr s1.wf hp1 g _ (.bl b)⟩
/-! ### own lists, looked into -/
def cIxO (i : Nat) (m : M D) : M D := fun e => if (lstAt e i).isSome = true then (m e).bind fun d e1 => (match lstAt e1 i, d with
  | some (_, xs), .int k => (match atI xs k with
    | some z => .ok z e1
    | none => .no)
  | _, _ => .no) else .no
def cLenO (i : Nat) : M D := fun e => match lstAt e i with
  | some (_, xs) => .ok (.int xs.length) e
  | none => .no
theorem me_ixO {i : Nat} {n : Str} (hK : X.K = Z.K) (hN : X.N[i]? = some n) (hv : Vis X.env.scope n) (hb : ME Z X W b mb) (hs : PlainIx b := by exact fun _ _ => rfl) (hd : (n == ("__debug__" : Str)) = false := by decide) (hcd : (n == ("__classdict__" : Str)) = false := by decide) :
    ME Z X W (.Subscript (.Name n p) b pos) (cIxO i mb) := by
  obtain ⟨tb, pb, eb⟩ := hb
  refine ⟨_, pe_ix ix_seq (pe_var hN hv hd hcd) pb hs, fun σ F H e w Q hp => ?_⟩
  unfold cIxO at hp
  cases h0 : lstAt e i with
  | none => rw [h0] at hp; exact hp.elim
  | some q =>
    obtain ⟨s0, xs0⟩ := q
    rw [h0] at hp
    simp only [Option.isSome_some, if_true] at hp
    obtain ⟨a, vs, h1, h2, h3, h4, h5, h6⟩ := lstAt_some w h0
    refine ⟨_, h3, eb.bind w hp fun d v F1 H1 e1 s1 rd hp1 => ?_⟩
    cases h7 : lstAt e1 i with
    | none => rw [h7] at hp1; exact hp1.elim
    | some q =>
      obtain ⟨s, xs⟩ := q
      rw [h7] at hp1
      cases rd with
      | int k =>
        dsimp only at hp1
        obtain ⟨a', vs1, g1, g2, g3, g4, g5, g6⟩ := lstAt_some s1.wf h7
        rw [h3] at g3
        cases g3
        cases h8 : atI xs k with
        | none => rw [h8] at hp1; exact hp1.elim
        | some z =>
          rw [h8] at hp1
          obtain ⟨v2, h9, h10⟩ := atI_rel g6 h8
          rw [hK]
          exact .inl ⟨_, _, k, v2, rfl, rfl, Or.inl (Or.inl g5), h9, Post.here s1.wf hp1 _ h10⟩
      | _ => exact hp1.elim
theorem me_lenO {i : Nat} {n : Str} (hN : X.N[i]? = some n) (hv : Vis X.env.scope n) (hg : Gl X "len") (hm : X.mg "len" = none) (hvv : bootBuiltins "len" = some (.builtin "len")) (hd : (n == ("__debug__" : Str)) = false := by decide) (hcd : (n == ("__classdict__" : Str)) = false := by decide)
    (h1 : starEach [.Name n p] X.env = (false, eval (.Name n p) X.env) :: starEach [] X.env := by rfl) (hpl : (backTo pos (starEach [] X.env)).any (·.1) = false := by rfl) {p2 : Pos} :
    ME Z X W (.Call (.Name "len" p2) [.Name n p] [] pos) (cLenO i) := by
  refine ⟨_, pe_callB call_lenA hg hm hvv (pa_cons (pe_var hN hv hd hcd) pa_nil h1) (by decide) (by decide) h1 hpl, fun σ F H e w Q hp => ?_⟩
  unfold cLenO at hp
  cases h0 : lstAt e i with
  | none => rw [h0] at hp; exact hp.elim
  | some q =>
    obtain ⟨s0, xs0⟩ := q
    rw [h0] at hp
    obtain ⟨a, vs, h1, h2, h3, h4, h5, h6⟩ := lstAt_some w h0
    exact ⟨_, h3, .inl ⟨a, vs, rfl, .inl (Or.inl (Or.inl h5)), by rw [h6.length]; exact Post.here w hp _ (.int _)⟩⟩
/-- x[i] = v, x slot i's own list -/
def sPut (i : Nat) (mi mv : M D) : MS := fun e => (mv e).toO fun v e1 => if (lstAt e1 i).isSome = true then (mi e1).toO fun d e2 => (match lstAt e2 i, d with
  | some (s, xs), .int k => (match ixN xs.length k with
    | some j => .nx (e2.set i (s.put (.lst (xs.set j v))))
    | none => .no)
  | _, _ => .no) else .no
theorem ml_put {i : Nat} {n : Str} {tp : Pos} (hN : X.N[i]? = some n) (hv : Vis X.env.scope n) (ha : ME Z X W a ma) (hb : ME Z X W b mb) (hs : ∀ te ti, PE X a te → PE X b ti → PS X (.Assign [.Subscript (.Name n p) b tp] a pos) (tAsg te (gSub (tVar i) ti rSetL))) :
    ML Z X W (.Assign [.Subscript (.Name n p) b tp] a pos) (sPut i mb ma) := by
  obtain ⟨ta, pa, ea⟩ := ha
  obtain ⟨tb, pb, eb⟩ := hb
  refine ⟨_, hs _ _ pa pb, fun σ F H e w N hp => ?_⟩
  refine ea.bindS w hp fun dv v F1 H1 e1 s1 rv hp1 => ?_
  cases h0 : lstAt e1 i with
  | none => rw [h0] at hp1; exact hp1.elim
  | some q =>
    obtain ⟨s0, xs0⟩ := q
    rw [h0] at hp1
    simp only [Option.isSome_some, if_true] at hp1
    obtain ⟨a, vs, h1, h2, h3, h4, h5, h6⟩ := lstAt_some s1.wf h0
    refine ⟨_, h3, eb.bindS s1.wf hp1 fun d v2 F2 H2 e2 s2 rd hp2 => ?_⟩
    cases h7 : lstAt e2 i with
    | none => rw [h7] at hp2; exact hp2.elim
    | some q =>
      obtain ⟨s, xs⟩ := q
      rw [h7] at hp2
      cases rd with
      | int k =>
        dsimp only at hp2
        obtain ⟨a', vs1, g1, g2, g3, g4, g5, g6⟩ := lstAt_some s2.wf h7
        rw [h3] at g3
        cases g3
        cases h8 : ixN xs.length k with
        | none => rw [h8] at hp2; exact hp2.elim
        | some j =>
          rw [h8] at hp2
          dsimp only at hp2
          refine ⟨a, vs1, k, j, rfl, rfl, g5, by rw [g6.length]; exact h8, ?_⟩
          exact hp2 σ F2 _ (Sq.change (q := .lst (xs.set j dv)) s2.wf g1 (by rw [g2]; rfl) h3 ⟨_, upd_same, RDs.set (rv.mono s2.ext) j g6⟩).toSq
      | _ => exact hp2.elim
/-! ### parts, copies -/
def cutG {α : Type} (xs : List α) (lo hi : Option Int) : List α := (xs.drop (HT.sIx xs.length 0 lo)).take (HT.sIx xs.length xs.length hi - HT.sIx xs.length 0 lo)
theorem RDs.cut {vs : List V} {ds : List D} (r : RDs Z F vs ds) (lo hi : Option Int) : RDs Z F (cutV vs lo hi) (cutG ds lo hi) := by
  unfold cutV cutG
  rw [r.length]
  exact (r.drop _).take _
theorem rds_ints : ∀ ns : List Int, RDs Z F (ns.map V.int) (ns.map D.int)
  | [] => .nil
  | n :: ns => .cons (.int n) (rds_ints ns)
abbrev MO := M (Option Int)
def cNoPart : MO := fun e => .ok none e
def cPart (m : M D) : MO := fun e => (m e).bind fun d e1 => match d with
  | .int i => .ok (some i) e1
  | _ => .no
def EvO (Z : Wd) (t : TO) (W : WX) (m : MO) : Prop := ∀ (σ : L2.St) (F H : Hp) (e : En), WF Z F H σ e → ∀ Q : Option Int → Hp → Prop, Post Z W σ F H e (m e) (fun b _ H' => Q b H') → t σ H Q
theorem EvO.bind {t : TO} {m : MO} (h : EvO Z t W m) (w : WF Z F H σ e) {β : Type} {k : Option Int → En → R β} {B : β → Hp → Hp → Prop} (hp : Post Z W σ F H e ((m e).bind k) B) {Q : Option Int → Hp → Prop}
    (c : ∀ d F1 H1 e1, Sx Z σ F H e F1 H1 e1 → Post Z W σ F1 H1 e1 (k d e1) B → Q d H1) : t σ H Q := by
  refine h σ F H e w Q ?_
  cases hm : m e with
  | no => rw [hm] at hp; exact hp.elim
  | ok d e1 =>
    rw [hm] at hp
    exact fun F1 H1 s => c d F1 H1 e1 s (Post.rebase s hp)
  | ex c' fs e1 => rw [hm] at hp; exact hp
def MPo (Z : Wd) (X : Cx) (W : WX) (x : Option Expr) (m : MO) : Prop := ∃ t, PO X x t ∧ EvO Z t W m
theorem mo_none : MPo Z X W none cNoPart := ⟨_, po_none, fun σ F H e w Q hp => Post.here w hp⟩
theorem mo_some (h : ME Z X W a ma) : MPo Z X W (some a) (cPart ma) := by
  obtain ⟨t, p, ev⟩ := h
  refine ⟨_, po_some p, fun σ F H e w Q hp => ev.bind w hp fun d v F1 H1 e1 s rd hp1 => ?_⟩
  cases rd with
  | int i => exact ⟨i, rfl, Post.here s.wf hp1⟩
  | _ => exact hp1.elim
def dCut (d : D) (lo hi : Option Int) : Option D := match d with
  | .lst ds => some (.lst (cutG ds lo hi))
  | .scr ns => some (.lst ((cutG ns lo hi).map D.int))
  | .tup ds => if ¬ (HT.sIx ds.length 0 lo = 0 ∧ HT.sIx ds.length ds.length hi = ds.length) then some (.tup (cutG ds lo hi)) else none
  | .str z => if z.length ≤ sizeLine then some (.str (cutS z lo hi)) else none
  | _ => none
def cCut (m : M D) (lo hi : MO) : M D := fun e => (m e).bind fun d e1 => (lo e1).bind fun l e2 => (hi e2).bind fun h e3 => match dCut d l h with
  | some z => .ok z e3
  | none => .no
def rSlA (K : PySem.W.Frag) : V → Option Int → Option Int → Hp → VK → Prop := fun x lo hi H Q => rSlL K x lo hi H Q ∨ rSlT K x lo hi H Q ∨ rSlS x lo hi H Q
theorem cutG_map {α β : Type} (f : α → β) (xs : List α) (lo hi : Option Int) : cutG (xs.map f) lo hi = (cutG xs lo hi).map f := by
  unfold cutG
  rw [List.length_map, List.map_take, List.map_drop]
theorem me_slice {p2 : Pos} {lo hi : Option Expr} {ml mh : MO} (hK : X.K = Z.K) (ha : ME Z X W a ma) (hl : MPo Z X W lo ml) (hh : MPo Z X W hi mh) : ME Z X W (.Subscript a (.Slice lo hi none p2) pos) (cCut ma ml mh) := by
  obtain ⟨ta, pa, ea⟩ := ha
  obtain ⟨tl, pl, el⟩ := hl
  obtain ⟨th, ph, eh⟩ := hh
  refine ⟨tSl (rSlA X.K) ta tl th, pe_slice (sl_list.or (sl_tup.or sl_str)) pa pl ph, fun σ F H e w Q hp => ?_⟩
  refine ea.bind w hp fun d v F1 H1 e1 s1 rd hp1 => el.bind s1.wf hp1 fun l F2 H2 e2 s2 hp2 => eh.bind s2.wf hp2 fun h F3 H3 e3 s3 hp3 => ?_
  have x3 := s2.ext.trans s3.ext
  cases q : dCut d l h with
  | none => rw [q] at hp3; exact hp3.elim
  | some z =>
    rw [q] at hp3
    rw [hK]
    cases rd with
    | lst ha r =>
      cases q
      exact .inl ⟨_, _, rfl, Or.inl (Or.inl (s3.wf.sub _ _ (x3 _ _ ha))), fun l hn => Post.gr s3.wf hp3 (Gr.new1 s3.wf.sub hn) _ (.lst upd_same (((r.mono x3).cut _ _).mono (Ex.new (fr_of s3.wf.sub hn))))⟩
    | @scr a ns ha =>
      cases q
      exact .inl ⟨_, _, rfl, ex_l s3.wf.sub (ex_l x3 ha), fun l' hn => Post.gr s3.wf hp3 (Gr.new1 s3.wf.sub hn) _ (.lst upd_same (by
        have e1 : cutV (ns.map V.int) l h = (cutG ns l h).map V.int := cutG_map V.int ns l h
        rw [e1]
        exact rds_ints _))⟩
    | tup ha r =>
      simp only [dCut] at q
      split at q
      · rename_i hc
        cases q
        exact .inr (.inl ⟨_, _, rfl, ex_t s3.wf.sub (ex_t x3 ha), by rw [r.length]; exact hc, fun l hn => Post.gr s3.wf hp3 (Gr.new1 s3.wf.sub hn) _ (.tup (Or.inl (Or.inl upd_same)) (((r.mono x3).cut _ _).mono (Ex.new (fr_of s3.wf.sub hn))))⟩)
      · cases q
    | str z0 =>
      simp only [dCut] at q
      split at q
      · rename_i hc
        cases q
        exact .inr (.inr ⟨z0, rfl, hc, Post.here s3.wf hp3 _ (.str _)⟩)
      · cases q
    | _ => cases q
def bList : List D → Option D
  | [.lst ds] => some (.lst ds)
  | [.tup ds] => some (.lst ds)
  | [.scr ns] => some (.lst (ns.map D.int))
  | _ => none
def rListOf (K : PySem.W.Frag) : List V → Hp → VK → Prop := fun xs H Q => ∃ p ys, xs = [.ref p] ∧ (SqL K H p ys ∨ SqT K H p ys) ∧ ∀ l, H l = none → Q (.ref l) (upd H l (.lst ys))
theorem on_list : OpN Z (rListOf Z.K) bList := fun F H xs ds dz e r h Q q => by
  cases r with
  | nil => cases h
  | cons r1 t => cases t with
    | cons _ _ => cases r1 <;> cases h
    | nil => cases r1 with
      | lst h1 a1 => cases h; exact ⟨_, _, rfl, .inl (Or.inl (Or.inl (e _ _ h1))), fun l hn => q _ _ _ (Gr.new1 e hn) (.lst upd_same (a1.mono (Ex.new (fr_of e hn))))⟩
      | tup h1 a1 => cases h; exact ⟨_, _, rfl, .inr (ex_t e h1), fun l hn => q _ _ _ (Gr.new1 e hn) (.lst upd_same (a1.mono (Ex.new (fr_of e hn))))⟩
      | scr h1 => cases h; exact ⟨_, _, rfl, .inl (ex_l e h1), fun l hn => q _ _ _ (Gr.new1 e hn) (.lst upd_same (rds_ints _))⟩
      | _ => cases h
def bTuple : List D → Option D
  | [.lst ds] => some (.tup ds)
  | [.tup ds] => some (.tup ds)
  | _ => none
theorem on_tuple : OpN Z (fun xs H Q => ∃ p ys, xs = [.ref p] ∧ ((SqL Z.K H p ys ∧ ∀ l, H l = none → Q (.ref l) (upd H l (.tup ys))) ∨ (SqT Z.K H p ys ∧ Q (.ref p) H))) bTuple := fun F H xs ds dz e r h Q q => by
  cases r with
  | nil => cases h
  | cons r1 t => cases t with
    | cons _ _ => cases r1 <;> cases h
    | nil => cases r1 with
      | lst h1 a1 => cases h; exact ⟨_, _, rfl, .inl ⟨Or.inl (Or.inl (e _ _ h1)), fun l hn => q _ _ _ (Gr.new1 e hn) (.tup (Or.inl (Or.inl upd_same)) (a1.mono (Ex.new (fr_of e hn))))⟩⟩
      | tup h1 a1 => cases h; exact ⟨_, _, rfl, .inr ⟨ex_t e h1, q _ _ _ (Gr.refl e) (.tup h1 a1)⟩⟩
      | _ => cases h
end
end Md

/-! Md9: errors raised, caught and kept; fields read. -/
namespace Md
open PySem PySem.Spec PyProof.Rows L2
section
variable {Z : Wd} {W : WX} {X : Cx} {σ : L2.St} {F H F' H' : Hp} {e : En} {a b c x : Expr} {ma mb mc : M D} {mt mu : M Bool} {pos p : Pos}
theorem EvA.bindS {ta : TA} {m : M (List Ar)} (h : EvA Z ta W m) (w : WF Z F H σ e) {k : List Ar → En → O} {N : Ends} (hp : PostS Z W σ F H e ((m e).toO k) N) {Q : List V → Hp → Prop}
    (c : ∀ as vs F1 H1 e1, Sx Z σ F H e F1 H1 e1 → ArOk Z F1 σ vs as → PostS Z W σ F1 H1 e1 (k as e1) N → Q vs H1) : ta σ H Q := by
  refine h σ F H e w Q ?_
  cases hm : m e with
  | no => rw [hm] at hp; exact hp.elim
  | ok d e1 =>
    rw [hm] at hp
    exact fun F1 H1 s vs rd => c d vs F1 H1 e1 s rd (PostS.rebase s.toSq hp)
  | ex c' fs e1 => rw [hm] at hp; exact fun d' F' H' s xf => hp d' σ F' H' s.toSq xf
/-! ### fields of exceptions -/
structure ExcF (K : PySem.W.Frag) (C : Addr) (f : Str) : Prop where
  c : ExcC K C
  no : PySem.W.findIn K (.ref C) f = some none
def tAt (K : PySem.W.Frag) (ta : TE) (f : Str) : TE := fun σ H Q => ta σ H fun x H1 => (∃ a C dx fs v, x = .ref a ∧ H1 a = some (.ins C dx fs) ∧ Cls K C ∧ NoAttr K C f ∧ fs.lookup f = some v ∧ Q v H1) ∨
  ∃ a C dx fs v, x = .ref a ∧ H1 a = some (ExcO (.ref C) (some dx) a) ∧ H1 dx = some (.xd fs) ∧ ExcF K C f ∧ fs.lookup f = some v ∧ Q v H1
theorem pe_at {ta : TE} {f : Str} (he : PE X a ta) (hb : attributeBase a f X.env (eval a X.env) = eval a X.env := by rfl) : PE X (.Attribute a f pos) (tAt X.K ta f) := by
  refine ⟨fun pins s σ H Q I h => ?_⟩
  refine attr_of hb (thn (he.run pins s σ H _ I h) fun u s1 ⟨x, H1, I1, rx, hq⟩ => ?_)
  rcases hq with ⟨a, C, dx, fs, v, ex, ea, c, n, l, q⟩ | ⟨a, C, dx, fs, v, ex, ea, ed, T, l, q⟩
  · subst ex
    obtain rfl : u = Value.ref a := rx
    exact getattr_ok I1 ea c n l fun u' s2 I2 ru => ⟨v, H1, I2, ru, q⟩
  · subst ex
    obtain rfl : u = Value.ref a := rx
    obtain ⟨⟨oe, vs, h1, h2, h3⟩, _, _⟩ := (show ObjOk X.prog X.w H1 s1.heap a (ExcO (.ref C) (some dx) a) from I1.hok a _ ea)
    obtain ⟨mA, hns, hr⟩ := (show ObjOk X.prog X.w H1 s1.heap dx (.xd fs) from I1.hok dx _ ed)
    obtain ⟨od, ho, hl⟩ := lookIn_ns hns
    obtain ⟨u, hu, ru⟩ := RelO.some_of (v := v) (o := mA f) (by rw [← l]; exact hr f)
    have J : PySem.W.InstAt s1.heap a oe C (some od) := ⟨h1, h2.1, by unfold PySem.W.notCls; rw [h3] <;> rfl, by rw [h2.2]; exact ho⟩
    exact HandSPX.exc_get I1.kIn J T.c.hg T.c.hk T.c.hs (PySem.W.findObj_own T.c.hd T.no rfl (by rw [hl, hu])) (handed_of ru) ⟨v, H1, I1.tok _, ru, q⟩
def AtOk (Z : Wd) (f : Str) : List Tk → Prop
  | [] => True
  | .b _ :: r => AtOk Z f r
  | .c i :: r => (Cls Z.K (Z.CL i) ∧ NoAttr Z.K (Z.CL i) f) ∧ AtOk Z f r
  | .x i :: r => ExcF Z.K (Z.CL i) f ∧ AtOk Z f r
def dAt (tab : List Tk) (f : Str) : D → Option D
  | .ins c fs => if tab.contains (.c c) = true then fs.lookup f else none
  | .exc c fs => if tab.contains (.x c) = true then fs.lookup f else none
  | _ => none
theorem AtOk.gc {f : Str} : ∀ {tab : List Tk} {i : Nat}, AtOk Z f tab → Tk.c i ∈ tab → Cls Z.K (Z.CL i) ∧ NoAttr Z.K (Z.CL i) f
  | [], _, _, h => by cases h
  | .b _ :: r, i, k, h => by
    rcases List.mem_cons.mp h with z | z
    · cases z
    · exact AtOk.gc (tab := r) k z
  | .c j :: r, i, k, h => by
    rcases List.mem_cons.mp h with z | z
    · cases z; exact k.1
    · exact AtOk.gc (tab := r) k.2 z
  | .x j :: r, i, k, h => by
    rcases List.mem_cons.mp h with z | z
    · cases z
    · exact AtOk.gc (tab := r) k.2 z
theorem AtOk.gx {f : Str} : ∀ {tab : List Tk} {i : Nat}, AtOk Z f tab → Tk.x i ∈ tab → ExcF Z.K (Z.CL i) f
  | [], _, _, h => by cases h
  | .b _ :: r, i, k, h => by
    rcases List.mem_cons.mp h with z | z
    · cases z
    · exact AtOk.gx (tab := r) k z
  | .c j :: r, i, k, h => by
    rcases List.mem_cons.mp h with z | z
    · cases z
    · exact AtOk.gx (tab := r) k.2 z
  | .x j :: r, i, k, h => by
    rcases List.mem_cons.mp h with z | z
    · cases z; exact k.1
    · exact AtOk.gx (tab := r) k.2 z
theorem me_at {f : Str} {tab : List Tk} (hK : X.K = Z.K) (ha : ME Z X W a ma) (ht : AtOk Z f tab) (hb : attributeBase a f X.env (eval a X.env) = eval a X.env := by rfl) : ME Z X W (.Attribute a f pos) (cOp1 (dAt tab f) ma) := by
  obtain ⟨ta, pa, ea⟩ := ha
  refine ⟨_, pe_at pa hb, fun σ F H e w Q hp => ?_⟩
  refine ea.bind w hp fun d v F1 H1 e1 s1 rd hp1 => ?_
  cases q : dAt tab f d with
  | none => rw [q] at hp1; exact hp1.elim
  | some z =>
    rw [q] at hp1
    rw [hK]
    cases rd with
    | ins h r =>
      simp only [dAt] at q
      split at q
      · rename_i hc
        obtain ⟨v2, l, r2⟩ := r.lookup q
        have k := ht.gc (List.contains_iff_mem.mp hc)
        exact .inl ⟨_, _, _, _, v2, rfl, s1.wf.sub _ _ h, k.1, k.2, l, Post.here s1.wf hp1 _ r2⟩
      · cases q
    | exc h hd r =>
      simp only [dAt] at q
      split at q
      · rename_i hc
        obtain ⟨v2, l, r2⟩ := r.lookup q
        exact .inr ⟨_, _, _, _, v2, rfl, s1.wf.sub _ _ h, s1.wf.sub _ _ hd, ht.gx (List.contains_iff_mem.mp hc), l, Post.here s1.wf hp1 _ r2⟩
      · cases q
    | exc0 h => simp [dAt] at q
    | _ => simp [dAt] at q
/-! ### raise -/
/-- what an __init__ of one field does, of two fields -/
def iz1 (f : Str) (C : Addr) : Sp := fun vs H Q _ => ∃ a y, vs = [.ref a, y] ∧ H a = some (exo a C none) ∧ ∀ dx, H dx = none → dx ≠ a → Q .non (upd (upd H dx (exd dx [(f, y)])) a (exo a C (some dx)))
def iz2 (f g : Str) (C : Addr) : Sp := fun vs H Q _ => ∃ a y z, vs = [.ref a, y, z] ∧ H a = some (exo a C none) ∧ ∀ dx, H dx = none → dx ≠ a → Q .non (upd (upd (upd H dx (exd dx [(f, y)])) a (exo a C (some dx))) dx (exd dx [(g, z), (f, y)]))
theorem iz1_ok {P : Program} {w : World} {K : PySem.W.Frag} {mg : Str → Option Value} {base : Heap} {C : Addr} {f n qual pn ps' : Str} {st : Stmt} {fI : Addr} {fd : FuncData} {k : Nat} {p1 p2 p3 p4 : Pos} (Fn : Fun K n qual st fI fd) (S : FnScope [ps', pn] [ps', pn] (defScope st)) (T : OexC K C) (no : PySem.W.findIn K (.ref C) f = some none)
    (hb : defBody st = [.Assign [.Attribute (.Name ps' p1) f p2] (.Name pn p3) p4]) (v0 : Vis (defScope st) ps') (v1 : Vis (defScope st) pn) (d0 : (ps' == ("__debug__" : Str)) = false) (d1 : (pn == ("__debug__" : Str)) = false) (d2 : (ps' == ("__classdict__" : Str)) = false) (d3 : (pn == ("__classdict__" : Str)) = false) : FnOk P w K mg base (L2.CX P w) (k + 1) fI fd [ps', pn] (iz1 f C) := by
  refine Fn.okX S (fun vs H Q E h => by obtain ⟨a, y, rfl, _⟩ := h; rfl) (fun cdv A outer s H vs Q E hr h => ?_)
  obtain ⟨a, y, rfl, ha, q⟩ := h
  rw [hb]
  refine ⟨_, pss_cons (ps_ost (pe_var (i := 0) rfl v0 d0 d2) (pe_var (i := 1) rfl v1 d1 d3)) pss_nil, ?_⟩
  exact ⟨y, rfl, .ref a, rfl, a, C, rfl, T, no, .inl ⟨ha, fun dx n ne => q dx n ne⟩⟩
theorem iz2_ok {P : Program} {w : World} {K : PySem.W.Frag} {mg : Str → Option Value} {base : Heap} {C : Addr} {f g n qual pn pm ps' : Str} {st : Stmt} {fI : Addr} {fd : FuncData} {k : Nat} {p1 p2 p3 p4 q1 q2 q3 q4 : Pos} (Fn : Fun K n qual st fI fd) (S : FnScope [ps', pn, pm] [ps', pn, pm] (defScope st)) (T : OexC K C) (no : PySem.W.findIn K (.ref C) f = some none) (no2 : PySem.W.findIn K (.ref C) g = some none)
    (hb : defBody st = [.Assign [.Attribute (.Name ps' p1) f p2] (.Name pn p3) p4, .Assign [.Attribute (.Name ps' q1) g q2] (.Name pm q3) q4]) (v0 : Vis (defScope st) ps') (v1 : Vis (defScope st) pn) (v2 : Vis (defScope st) pm) (d0 : (ps' == ("__debug__" : Str)) = false) (d1 : (pn == ("__debug__" : Str)) = false) (d2 : (ps' == ("__classdict__" : Str)) = false) (d3 : (pn == ("__classdict__" : Str)) = false) (d4 : (pm == ("__debug__" : Str)) = false) (d5 : (pm == ("__classdict__" : Str)) = false) : FnOk P w K mg base (L2.CX P w) (k + 1) fI fd [ps', pn, pm] (iz2 f g C) := by
  refine Fn.okX S (fun vs H Q E h => by obtain ⟨a, y, z, rfl, _⟩ := h; rfl) (fun cdv A outer s H vs Q E hr h => ?_)
  obtain ⟨a, y, z, rfl, ha, q⟩ := h
  rw [hb]
  refine ⟨_, pss_cons (ps_ost (pe_var (i := 0) rfl v0 d0 d2) (pe_var (i := 1) rfl v1 d1 d3)) (pss_cons (ps_ost (pe_var (i := 0) rfl v0 d0 d2) (pe_var (i := 2) rfl v2 d4 d5)) pss_nil), ?_⟩
  refine ⟨y, rfl, .ref a, rfl, a, C, rfl, T, no, .inl ⟨ha, fun dx n ne => ⟨z, rfl, .ref a, rfl, a, C, rfl, T, no2, .inr ⟨dx, [(f, y)], upd_same, ?_, by simp, q dx n ne⟩⟩⟩⟩
  rw [upd_ne ne, upd_same]
structure Rz (P : Program) (w : World) (K : PySem.W.Frag) (mg : Str → Option Value) (base : Heap) (k : Nat) (C : Addr) (sp : Sp) : Prop where
  T : OexC K C
  ex : ∃ fI fd ps, PySem.W.findIn K (.ref C) "__init__" = some (some (.ref fI)) ∧ PySem.W.typeIn K (.ref fI) = some (.type "function") ∧ FnOk P w K mg base (L2.CX P w) k fI fd ps sp ∧ Binds K fd ps []
/-- what a raise does: class c, the fields of the arguments -/
def sRaise (c : Nat) (fl : List D → Option (List (Str × D))) (m : M (List Ar)) : MS := fun e => (m e).toO fun as e1 => match (datas as).bind fl with
  | some fs => .ex c fs e1
  | none => .no
def fl1 (f : Str) : List D → Option (List (Str × D))
  | [y] => some [(f, y)]
  | _ => none
def fl2 (f g : Str) : List D → Option (List (Str × D))
  | [y, z] => some [(g, z), (f, y)]
  | _ => none
theorem upd_exo {H1 : Hp} {a dx : Addr} {o1 o2 o3 : HO} (hn : H1 a = none) (ne : dx ≠ a) : upd (del (upd (upd (upd H1 a o1) dx o2) a o3) a) dx o2 = upd H1 dx o2 := by
  funext b
  by_cases h1 : b = dx
  · subst h1; rw [upd_same, upd_same]
  · rw [upd_ne h1, upd_ne h1]
    by_cases h2 : b = a
    · subst h2; rw [del_same, hn]
    · rw [del_ne h2, upd_ne h2, upd_ne h1, upd_ne h2]
theorem upd_fin {H0 H1 : Hp} {a dx : Addr} {o : HO} (hn : H1 a = none) (h0 : ∀ b, b ≠ dx → b ≠ a → H0 b = H1 b) : upd (del H0 a) dx o = upd H1 dx o := by
  funext b
  by_cases h1 : b = dx
  · subst h1; rw [upd_same, upd_same]
  · rw [upd_ne h1, upd_ne h1]
    by_cases h2 : b = a
    · subst h2; rw [del_same, hn]
    · rw [del_ne h2]; exact h0 b h1 h2
/-- the sp of an __init__ that does fl -/
def FlOk (sp : Sp) (C : Addr) (fl : List D → Option (List (Str × D))) : Prop := (∀ ds fs, fl ds = some fs → ds.length ≤ 1000) ∧ ∀ (Z : Wd) (F H : Hp) (a : Addr) (vs : List V) (ds : List D) (fs : List (Str × D)) (Q : XK), RDs Z F vs ds → fl ds = some fs → H a = none →
  (∀ dx fvs, H dx = none → RDf Z F fvs fs → Q (.ref C) (some dx) (upd H dx (.xd fvs))) →
  sp (.ref a :: (vs ++ [])) (upd H a (exo a C none)) (fun v H2 => v = .non ∧ ∃ (d : Addr) (fs : List (Str × V)), H2 a = some (exo a C (some d)) ∧ H2 d = some (exd d fs) ∧ H d = none ∧ Q (.ref C) (some d) (upd (del H2 a) d (.xd fs))) (fun _ _ _ => False)
theorem fl1_ok {f : Str} {C : Addr} : FlOk (iz1 f C) C (fl1 f) := ⟨fun ds fs h => by
  match ds, h with
  | [y], _ => simp, fun Z F H a vs ds fs Q r h hn q => by
  cases r with
  | nil => cases h
  | cons r1 t => cases t with
    | cons _ _ => cases h
    | nil =>
      cases h
      refine ⟨a, _, rfl, upd_same, fun dx n ne => ⟨rfl, dx, _, upd_same, by rw [upd_ne ne, upd_same], ?_, ?_⟩⟩
      · rw [upd_ne ne] at n; exact n
      · rw [upd_fin hn fun b h1 h2 => by rw [upd_ne h2, upd_ne h1, upd_ne h2]]
        exact q dx _ (by rw [upd_ne ne] at n; exact n) (.cons r1 .nil)⟩
theorem fl2_ok {f g : Str} {C : Addr} : FlOk (iz2 f g C) C (fl2 f g) := ⟨fun ds fs h => by
  match ds, h with
  | [y, z], _ => simp, fun Z F H a vs ds fs Q r h hn q => by
  cases r with
  | nil => cases h
  | cons r1 t => cases t with
    | nil => cases h
    | cons r2 t => cases t with
      | cons _ _ => cases h
      | nil =>
        cases h
        refine ⟨a, _, _, rfl, upd_same, fun dx n ne => ⟨rfl, dx, _, by rw [upd_ne (Ne.symm ne), upd_same], upd_same, ?_, ?_⟩⟩
        · rw [upd_ne ne] at n; exact n
        · rw [upd_fin hn fun b h1 h2 => by rw [upd_ne h1, upd_ne h2, upd_ne h1, upd_ne h2]]
          exact q dx _ (by rw [upd_ne ne] at n; exact n) (.cons r2 (.cons r1 .nil))⟩
theorem ml_raise {k c : Nat} {nm : Str} {es : List Expr} {m : M (List Ar)} {sp : Sp} {fl : List D → Option (List (Str × D))} {pos' : Pos} (R : Rz X.prog X.w X.K X.mg X.base k (Z.CL c) sp) (hf : FlOk sp (Z.CL c) fl) (hr : Room (k + 1) X.A) (tk : Takes X W) (hc : X.calm = true) (hg : Gl X nm) (hm : X.mg nm = some (.ref (Z.CL c))) (ha : MA Z X W (a :: es) m)
    (hdb : (nm == ("__debug__" : Str)) = false := by decide) (he : starEach (a :: es) X.env = (false, eval a X.env) :: starEach es X.env := by rfl) (hpl : (backTo pos (starEach es X.env)).any (·.1) = false := by rfl) :
    ML Z X W (.Raise (some (.Call (.Name nm p) (a :: es) [] pos)) none pos') (sRaise c fl m) := by
  obtain ⟨fI, fd, ps, h1, h2, h3, h4⟩ := R.ex
  obtain ⟨ta, pa, ea, _⟩ := ha
  refine ⟨_, ps_raise hc tk (pmk_oex (CX := L2.CX X.prog X.w) (dvs := []) R.T h1 h2 h3 hr h4 .nil (passes_call tk fun _ _ _ _ z => z.elim) hg hm pa hdb he hpl), fun σ F H e w N hp => ?_⟩
  refine ea.bindS w hp fun as vs F1 H1 e1 s1 ra hp1 => ?_
  cases q : datas as with
  | none => rw [q] at hp1; exact hp1.elim
  | some ds =>
    rw [q] at hp1
    simp only [Option.bind_some] at hp1
    cases q2 : fl ds with
    | none => rw [q2] at hp1; exact hp1.elim
    | some fs =>
      rw [q2] at hp1
      have rs := datas_ok ra q
      have fin : ∀ dx fvs, H1 dx = none → RDf Z F1 fvs fs → W (.ref (Z.CL c)) (some dx) σ (upd H1 dx (.xd fvs)) := fun dx fvs n rf => by
        have g := Gr.new1 (o := .xd fvs) s1.wf.sub n
        exact hp1 (some dx) σ _ _ (g.sq s1.wf) (.inr ⟨dx, fvs, rfl, upd_same, rf.mono g.ext⟩)
      exact ⟨by rw [rs.length]; exact hf.1 ds fs q2, fun a n => hf.2 Z F1 H1 a vs ds fs (fun cls d H' => W cls d σ H') rs q2 n fin⟩
/-! ### try, the error kept -/
def tSM (Z : Wd) (W : WX) (m : MS) : TS := fun N σ H => ∃ F e, WF Z F H σ e ∧ PostS Z W σ F H e (m e) N
theorem pss_tSM {sts : List Stmt} {m : MS} (h : MLs Z X W sts m) : PSs X sts (tSM Z W m) := by
  obtain ⟨ts, p, ev⟩ := h
  exact ⟨fun pins s σ H N I hq => by
    obtain ⟨F, e, w, q⟩ := hq
    exact p.run pins s σ H N I (ev σ F H e w N q)⟩
/-- an object that the state did not track is tracked from here on -/
theorem track {Y : Cx} {pins : List (Addr × Obj)} {s sI : Shared} {HI : Hp} {σI : L2.St} {v : Addr} {o : HO} (I : Inv Y pins σ H s) (J : Inv Y pins σI HI sI) (jn : sI.heap.get? v = none) (hn : H v = none) (hL : v ≠ Y.env.locals) (new : ObjOk Y.prog Y.w (upd H v o) s.heap v o) :
    Inv Y pins σ (upd H v o) s := by
  have n0 : ∀ b ob, Y.s_0.heap.get? b = some ob → b ∉ Y.ex → b ≠ v := fun b ob q hx z => by
    obtain ⟨o', q'⟩ := J.base.there b ob q hx
    rw [z, jn] at q'
    cases q'
  have bs : Un Y.fs Y.ex Y.H_0 (upd H v o) Y.s_0.heap s.heap := {
    keep := I.base.keep
    slot := I.base.slot
    free := fun b ob q n hx => by rw [upd_ne (n0 b ob q hx)]; exact I.base.free b ob q n hx
    there := I.base.there
    tups := fun b xs q => by rw [upd_ne (ne_of_none (I.base.tups b xs q) hn)]; exact I.base.tups b xs q
    frzs := fun b ob u q => by rw [upd_ne (ne_of_none (I.base.frzs b ob u q) hn)]; exact I.base.frzs b ob u q
    tbls := fun b ps q => by
      obtain ⟨more, q'⟩ := I.base.tbls b ps q
      exact ⟨more, by rw [upd_ne (ne_of_none q' hn)]; exact q'⟩ }
  refine ⟨I.ok, I.os, I.bare, bs, I.loc, I.cell, by rw [upd_ne (Ne.symm hL)]; exact I.free, fun y cc q => ?_, fun p hp => ?_, I.hok.laidN (fun _ _ q => q) hn new, I.len⟩
  · have : cc ≠ v := fun z => by
      obtain ⟨w', es, ed, _⟩ := J.cell y cc q
      rw [z, jn] at ed
      cases ed
    rw [upd_ne this]
    exact I.freeC y cc q
  · obtain ⟨q1, q2, q3, q4, q5⟩ := I.pin p hp
    have : p.1 ≠ v := fun z => by
      have := (J.pin p hp).1
      rw [z, jn] at this
      cases this
    exact ⟨q1, by rw [upd_ne this]; exact q2, q3, q4, q5⟩
/-- the wish of the clause: the error stands tracked behind it -/
def wKeep (K : PySem.W.Frag) (cv : Value) (i j : Nat) (Wo : WX) (N : Ends) : WX := fun cls d σ H =>
  ∃ k, PySem.W.exmOne K cls cv = some k ∧ (k = false → Wo cls d σ H) ∧ (k = true → ∀ v, H v = none → i < σ.length ∧ N.nx (((σ.set i (some (.ref v))).set j (some (.ref v))).set i none) (upd H v (ExcO cls d v)))
theorem ps_try_keep {n m nm : Str} {cv : Value} {i j : Nat} {body : List Stmt} {q1 q2 q3 q4 q5 q6 : Pos} {tb : WX → TS} {Wo : WX} (stk : X.stack = X.env :: X.outer) (frm : X.env.frame = some X.env.locals) (nd : X.N.Nodup) (hi : X.N[i]? = some n) (hj : X.N[j]? = some m) (ln : X.env.kindOf n = some .local) (lm : Loc X.env.scope m) (lm2 : X.fn m = true ∨ X.env.scope.names.lookup m = some .local) (vn : Vis X.env.scope n)
    (nn : Names X nm cv) (tk : Takes X Wo) (db : (n == ("__debug__" : Str)) = false) (cd : (n == ("__classdict__" : Str)) = false)
    (hb : ∀ (W' : WX) (pn : List (Addr × Obj)) (xe : Value → Shared → Prop), Takes (X.tr pn xe) W' → PassesOwn (model X.prog X.w) X.A X.env xe → PSs (X.tr pn xe) body (tb W'))
    (sw : ∀ (Y : Cx), Y.env = X.env → swapsWithSole [.Name m q3] (.Name n q4) q5.line Y.env = pure false) (sw2 : ∀ (Y : Cx), Y.env = X.env → swappedStores [.Name m q3] (.Name n q4) Y.env = pure none) :
    PS X (.Try body [.ExceptHandler (some (.Name nm q1)) (some n) [.Assign [.Name m q3] (.Name n q4) q5] q2] [] [] q6) (fun N σ H => tb (wKeep X.K cv i j Wo N) N σ H) := by
  refine ⟨fun pins s σ H N I hyp => ?_⟩
  have okX := I.ok
  have frs' : X.A.frames = some (X.env :: X.outer) := by rw [okX.frames, stk]
  have ndL : Loc X.env.scope n := .inl ln
  refine wpAny_Try_except ?_
  have walk := (hb (wKeep X.K cv i j Wo N) (X.pn ++ pins) (fun u z1 => wpAny (model X.prog X.w) X.A (noteFrame u X.env) (fun _ z2 => wpAny (model X.prog X.w) X.A (setFlight u none) (fun _ z3 =>
    wpAny (model X.prog X.w) X.A (handleBy u X.env [.ExceptHandler (some (.Name nm q1)) (some n) [.Assign [.Name m q3] (.Name n q4) q5] q2]) (SP X pins N) X.xe z3) X.xe z2) X.xe z1) (fun u z0 air => ?_) PassesOwn.looking).run [] s σ H N (I.toTry _) hyp
  · refine wpAny_mono walk (fun fl z1 hsp => ?_) fun _ _ z => z
    cases fl with
    | next =>
      obtain ⟨σ1, H1, J1, r1⟩ := hsp
      exact wpAny_execs_nil ⟨σ1, H1, J1.ofTry okX, r1⟩
    | brk => obtain ⟨σ1, H1, J1, r1⟩ := hsp; exact ⟨σ1, H1, J1.ofTry okX, r1⟩
    | cont => obtain ⟨σ1, H1, J1, r1⟩ := hsp; exact ⟨σ1, H1, J1.ofTry okX, r1⟩
    | ret u => obtain ⟨v1, σ1, H1, J1, rr, r1⟩ := hsp; exact ⟨v1, σ1, H1, J1.ofTry okX, rr, r1⟩
  · obtain ⟨v, B, zI, pns, σ1, H1, cls, dd, rfl, J0, ground, upto, sky0, nv, oss, bare, k, ek, kno, kyes⟩ := air
    have J : Inv X pins σ1 H1 zI := J0.ofTry okX
    have sky1 : Sky B (X.env :: X.outer) v (Zc cls dd) X.env.locals z0.heap := by rw [← stk]; exact sky0
    refine Sky.land Zc.steady frs' frm sky1 fun h3 fl3 up3 => ?_
    have J3 : Inv X pins σ1 H1 { z0 with heap := h3 } := J.landed ground fl3.1 (upto.trans up3) oss bare
    obtain ⟨o3, w3, get3, z3, dat3⟩ := fl3.there
    have outF : v ∉ frs (X.env :: X.outer) := fun hm => by
      obtain ⟨_, o', g', ntf⟩ := fl3.2.2.1.mem hm
      rw [get3] at g'
      cases g'
      exact ntf _ dat3
    have nL : v ≠ X.env.locals := fun z => outF (List.mem_filterMap.mpr ⟨X.env, List.mem_cons_self, by rw [frm, z]⟩)
    have nF : v ∉ X.fs := fun hm => by
      obtain ⟨e', he', q'⟩ := List.mem_filterMap.mp hm
      exact outF (List.mem_filterMap.mpr ⟨e', List.mem_cons_of_mem _ he', q'⟩)
    have vI : zI.heap.get? v = none := by
      cases q : zI.heap.get? v with
      | none => rfl
      | some o =>
        have g1 := ground v o q (by rw [stk]; exact outF)
        rw [fl3.2.1] at g1
        cases g1
    have T3 := J3.suite get3 dat3 nv nL nF
    refine wpAny_handleBy_cons (codeAny_handlers_test ?_) (by intro q; cases q)
    have tyv : PySem.W.Looks (model X.prog X.w) h3 (typeOf (.ref v)) cls := fun A' Q' E' s' kk q => wpAny_typeOf_ref (kk _ _ get3) (by rw [z3.1]; exact q)
    have matches' := PySem.W.exm_one (M := model X.prog X.w) J3.kIn tyv ek
    have look : ∀ {Q' : Value → Shared → Prop} {E' : Value → Shared → Prop}, Q' cv { z0 with heap := h3 } → wpAny (model X.prog X.w) (X.A.mark (some (.ref v))) (eval (.Name nm q1) X.env) Q' E' { z0 with heap := h3 } := fun {Q' E'} q => by
      obtain ⟨hg, hdbg, hm | ⟨hm, hv, hnn⟩⟩ := nn
      · exact ld_glob (X := X.suite v ((v, o3) :: (X.pn ++ pins))) T3 hg hm q hdbg
      · exact ld_blt (X := X.suite v ((v, o3) :: (X.pn ++ pins))) T3 hg hm hv q hnn hdbg
    refine look (matches'.here ?_)
    cases k with
    | true =>
      refine codeAny_handlers_suite_as ?_
      refine HandSPX.lands_againZ fl3 fun h4 fl4 up4 => ?_
      have J4 : Inv X pins σ1 H1 { z0 with heap := h4 } := J.landed ground fl4.1 ((upto.trans up3).trans up4) oss bare
      obtain ⟨o4, w4, get4, z4, dat4⟩ := fl4.there
      have T4 := J4.suite get4 dat4 nv nL nF
      refine store_ok (X := X.suite v ((v, o4) :: (X.pn ++ pins))) (v := .ref v) T4 nd hi ndL rfl (fun s5 T5 => ?_) (.inr ln)
      obtain ⟨hlt, fin⟩ := kyes rfl v nv
      have su : PSs (X.suite v ((v, o4) :: (X.pn ++ pins))) [.Assign [.Name m q3] (.Name n q4) q5] (tSeq (tAsg (tVar i) (gName j)) tNext) :=
        pss_cons (ps_asg (pe_var (X := X.suite v ((v, o4) :: (X.pn ++ pins))) hi vn db cd) (pg_name (X := X.suite v ((v, o4) :: (X.pn ++ pins))) nd hj lm lm2) (sw _ rfl) (sw2 _ rfl)) pss_nil
      have at_i : (σ1.set i (some (V.ref v)))[i]? = some (some (.ref v)) := List.getElem?_set_self hlt
      refine wpAny_mono (su.run [] s5 _ H1 { nx := fun σ6 H6 => σ6 = (σ1.set i (some (.ref v))).set j (some (.ref v)) ∧ H6 = H1, rt := fun _ _ => False } T5 ⟨.ref v, at_i, rfl, rfl⟩) (fun fl s6 hsp => ?_) (fun _ _ z => z.elim)
      cases fl with
      | next =>
        obtain ⟨σ6, H6, T6, rfl, rfl⟩ := hsp
        have U6 : Inv X ((v, o4) :: pins) ((σ1.set i (some (.ref v))).set j (some (.ref v))) H6 s6 := ⟨okX, T6.os, T6.bare, T6.base, T6.loc, T6.cell, T6.free, T6.freeC, fun p hp => T6.pin p (List.mem_append_left _ (by
          rcases List.mem_append.mp hp with h | h
          · exact List.mem_cons_of_mem _ (List.mem_append_left _ h)
          · rcases List.mem_cons.mp h with rfl | h
            · exact List.mem_cons_self
            · exact List.mem_cons_of_mem _ (List.mem_append_right _ h))), T6.hok, T6.len⟩
        refine gone_ok U6 nd hi ln fun s7 U7 => ?_
        obtain ⟨get7, _⟩ := U7.pin (v, o4) (List.mem_append_right _ List.mem_cons_self)
        have V7 : Inv X pins (((σ1.set i (some (.ref v))).set j (some (.ref v))).set i none) H6 s7 := U7.pins_of fun p hp => U7.pin p (List.mem_append_right _ (List.mem_cons_of_mem _ hp))
        exact ⟨_, _, track V7 J vI nv nL (excO_ok get7 z4 dat4), fin⟩
      | brk => obtain ⟨σ6, H6, T6, z⟩ := hsp; exact z.elim
      | cont => obtain ⟨σ6, H6, T6, z⟩ := hsp; exact z.elim
      | ret u => obtain ⟨v6, σ6, H6, T6, r6, z⟩ := hsp; exact z.elim
    | false =>
      show wpAny _ X.A (handleBy (.ref v) X.env []) _ _ _
      refine wpAny_handleBy_nil ?_
      obtain ⟨k1, k2, k3, oe, vs, T, oT, ts', he, hz, hd, h1, hr⟩ := id fl3
      unfold PySem.passOn
      refine wpAny_bind (wpAny_field he hd h1 ?_)
      have ne' : ¬ ((Value.ref T == Value.none) = true) := by simp
      rw [if_neg ne']
      have out : wpAny (model X.prog X.w) X.A (setFlight (.ref v) X.env.frame) (fun _ s4 => wpAny (model X.prog X.w) X.A (throw (.ref v) : PySem.Sem Flow) (SP X pins N) X.xe s4) X.xe { z0 with heap := h3 } := by
        rw [frm]
        refine HandSPX.setFlight_upZ fl3 fun h4 hh4 up4 => wpAny_throw (tk _ _ ?_)
        exact ⟨v, B, zI, pins, σ1, H1, cls, dd, rfl, J, ground, (upto.trans up3).trans up4, .inr (.inr (by rw [stk]; exact hh4)), nv, oss, bare, kno rfl⟩
      first
        | exact wpAny_bind (wpAny_pure (wpAny_bind out))
        | exact wpAny_bind out
/-- which classes the clause takes -/
def XmOk (Z : Wd) (cv : Value) : List (Nat × Bool) → Prop
  | [] => True
  | p :: r => PySem.W.exmOne Z.K (.ref (Z.CL p.1)) cv = some p.2 ∧ XmOk Z cv r
theorem XmOk.get {cv : Value} : ∀ {tab : List (Nat × Bool)} {t : Nat} {k : Bool}, XmOk Z cv tab → tab.lookup t = some k → PySem.W.exmOne Z.K (.ref (Z.CL t)) cv = some k
  | [], _, _, _, h => by simp at h
  | (t', b') :: r, t, k, ⟨h1, h2⟩, h => by
    cases q : t == t' with
    | true =>
      rw [List.lookup_cons, q] at h
      cases h
      have := eq_of_beq q
      subst this
      exact h1
    | false =>
      rw [List.lookup_cons, q] at h
      exact h2.get h
/-- try: body / except C as n (slot i): slot j = n -/
def sTryK (tab : List (Nat × Bool)) (i j : Nat) (b : MS) : MS := fun e => match b e with
  | .ex c fs e1 => (match tab.lookup c with
    | some true => (match setE i .unk e1 with
      | some e2 => (match setE j (.dat (.exc c fs)) e2 with
        | some e3 => .nx e3
        | none => .no)
      | none => .no)
    | some false => .ex c fs e1
    | none => .no)
  | o => o
theorem set_swap {v : V} {i j : Nat} (hij : i ≠ j) : ((σ.set i (some v)).set j (some v)).set i none = (σ.set i none).set j (some v) := by
  apply List.ext_getElem?
  intro k
  by_cases h1 : k = i
  · subst h1
    by_cases hl : k < σ.length
    · rw [List.getElem?_set_self (by simpa using hl), List.getElem?_set_ne (Ne.symm hij), List.getElem?_set_self hl]
    · rw [List.getElem?_eq_none (by simpa using hl), List.getElem?_eq_none (by simpa using hl)]
  · rw [List.getElem?_set_ne (Ne.symm h1)]
    by_cases h2 : k = j
    · subst h2
      by_cases hl : k < σ.length
      · rw [List.getElem?_set_self (by simpa using hl), List.getElem?_set_self (by simpa using hl)]
      · rw [List.getElem?_eq_none (by simpa using hl), List.getElem?_eq_none (by simpa using hl)]
    · rw [List.getElem?_set_ne (Ne.symm h2), List.getElem?_set_ne (Ne.symm h2), List.getElem?_set_ne (Ne.symm h1), List.getElem?_set_ne (Ne.symm h1)]
theorem ml_tryK {n m nm : Str} {cv : Value} {i j : Nat} {body : List Stmt} {q1 q2 q3 q4 q5 q6 : Pos} {tab : List (Nat × Bool)} {mb : MS} (hK : X.K = Z.K) (hij : i ≠ j) (stk : X.stack = X.env :: X.outer) (frm : X.env.frame = some X.env.locals) (nd : X.N.Nodup) (hi : X.N[i]? = some n) (hj : X.N[j]? = some m) (ln : X.env.kindOf n = some .local) (lm : Loc X.env.scope m) (lm2 : X.fn m = true ∨ X.env.scope.names.lookup m = some .local) (vn : Vis X.env.scope n)
    (nn : Names X nm cv) (tk : Takes X W) (tt : XmOk Z cv tab) (db : (n == ("__debug__" : Str)) = false) (cd : (n == ("__classdict__" : Str)) = false)
    (hb : ∀ (W' : WX) (pn : List (Addr × Obj)) (xe : Value → Shared → Prop), Takes (X.tr pn xe) W' → PassesOwn (model X.prog X.w) X.A X.env xe → MLs Z (X.tr pn xe) W' body mb)
    (sw : ∀ (Y : Cx), Y.env = X.env → swapsWithSole [.Name m q3] (.Name n q4) q5.line Y.env = pure false) (sw2 : ∀ (Y : Cx), Y.env = X.env → swappedStores [.Name m q3] (.Name n q4) Y.env = pure none) :
    ML Z X W (.Try body [.ExceptHandler (some (.Name nm q1)) (some n) [.Assign [.Name m q3] (.Name n q4) q5] q2] [] [] q6) (sTryK tab i j mb) := by
  refine ⟨_, ps_try_keep (tb := fun W' => tSM Z W' mb) stk frm nd hi hj ln lm lm2 vn nn tk db cd (fun W' pn xe h1 h2 => pss_tSM (hb W' pn xe h1 h2)) sw sw2, fun σ F H e w N hp => ⟨F, e, w, ?_⟩⟩
  unfold sTryK at hp
  cases hm : mb e with
  | no => rw [hm] at hp; exact hp.elim
  | nx e1 => rw [hm] at hp; exact hp
  | rt d e1 => rw [hm] at hp; exact hp
  | bk e1 => rw [hm] at hp; exact hp
  | ct e1 => rw [hm] at hp; exact hp
  | ex c fs e1 =>
    rw [hm] at hp
    dsimp only at hp
    intro d' σ1 F1 H1 s1 xf
    cases ht : tab.lookup c with
    | none => rw [ht] at hp; exact hp.elim
    | some k =>
      rw [ht] at hp
      refine ⟨k, by rw [hK]; exact tt.get ht, fun hk => ?_, fun hk v hv => ?_⟩
      · subst hk
        exact hp d' σ1 F1 H1 s1 xf
      · subst hk
        dsimp only at hp
        cases h2 : setE i .unk e1 with
        | none => rw [h2] at hp; exact hp.elim
        | some e2 =>
          rw [h2] at hp
          dsimp only at hp
          cases h3 : setE j (.dat (.exc c fs)) e2 with
          | none => rw [h3] at hp; exact hp.elim
          | some e3 =>
            rw [h3] at hp
            obtain ⟨rfl, t2, g2, g2'⟩ := setE_some h2
            obtain ⟨rfl, t3, g3, g3'⟩ := setE_some h3
            have hlt : i < σ1.length := by rw [s1.wf.len]; exact (List.getElem?_eq_some_iff.mp g2).1
            refine ⟨hlt, ?_⟩
            rw [set_swap hij]
            have a1 : Sq Z σ1 F1 H1 e1 (σ1.set i none) F1 H1 (e1.set i .unk) := Sq.setAny s1.wf g2 g2' trivial (.inl ⟨Gr.refl s1.wf.sub, rfl⟩) (fun q z => by cases z)
            have gr := Gr.new1 (o := ExcO (.ref (Z.CL c)) d' v) s1.wf.sub hv
            have rd : RD Z (upd F1 v (ExcO (.ref (Z.CL c)) d' v)) (.ref v) (.exc c fs) := by
              rcases xf with ⟨rfl, rfl⟩ | ⟨dx, fvs, rfl, hx, rf⟩
              · exact .exc0 upd_same
              · have : dx ≠ v := fun z => by
                  have := s1.wf.sub _ _ hx
                  rw [z, hv] at this
                  cases this
                exact .exc upd_same (by rw [upd_ne this]; exact hx) (rf.mono gr.ext)
            have a2 : Sq Z (σ1.set i none) F1 H1 (e1.set i .unk) ((σ1.set i none).set j (some (.ref v))) _ _ ((e1.set i .unk).set j (.dat (.exc c fs))) := Sq.setAny a1.wf g3 g3' ⟨_, rfl, rd⟩ (.inl ⟨gr, rfl⟩) (fun q z => by cases z)
            exact hp _ _ _ ((s1.trans a1).trans a2)
end
end Md

/-! Md10: defs with defaults, defs that give a new list, keywords, pairs stored; the law's end. -/
namespace Md
open PySem PySem.Spec PyProof.Rows L2
section
variable {Z : Wd} {W : WX} {X : Cx} {σ : L2.St} {F H F' H' : Hp} {e : En} {a b c x : Expr} {ma mb mc : M D} {pos p : Pos}
/-! ### defs, by FunD -/
theorem fng_soundD {P : Program} {w : World} {K : PySem.W.Frag} {mg : Str → Option Value} {base : Heap} {x qual : Str} {params : Arguments} {bd : List Stmt} {scope : Scope} {dvs : List V} {kws : List (Str × V)} {f : Addr} {fd : FuncData} {N ps : List Str} {k m : Nat} {body : MS} (Fn : FunD K x qual params bd scope dvs kws f fd) (S : FnScope N ps scope) (hm : N.length = ps.length + m)
    (hb : ∀ (cdv : Value) (A : Around) (outer : List Env) (s : Shared) (H : Hp) (E : XK), Room k (A.deeper (envOfC qual scope s.heap.objs.size f cdv)) → A.guards = some [] →
      MLs Z (cxOf (L2.CX P w) P w K mg base N qual scope f cdv A outer s H E) (fun c d _ H' => E c d H') bd body) :
    FnG P w K mg base (k + 1) f fd ps (spF Z ps.length (runFn m body)) := by
  have len : ∀ vs H Q E, spF Z ps.length (runFn m body) vs H Q E → vs.length = ps.length := fun vs H Q E ⟨F, sl, h1, _, h3, _⟩ => by
    have := h3.len
    rw [List.length_map] at this
    omega
  obtain ⟨oc, od, dV, kV, doc, pm, an, cdv, ct, osl, rfl, lk, hcd, _, _⟩ := Fn.ex
  refine ⟨len, fun A outer s H args us vs Q E hr hg e0 hbd r h => LamX.run_ofS lk hcd S hr e0 hbd r (len _ _ _ _ h) fun hr' => ?_⟩
  obtain ⟨F, sl, h1, h2, h3, h4⟩ := h
  have hl : vs.length = sl.length := by
    have := h3.len
    rw [List.length_map] at this
    exact this
  obtain ⟨ts, pd, ev⟩ := hb cdv A outer s H E hr' hg
  refine ⟨ts, pd, ?_⟩
  have es : L2.start N vs = vs.map some ++ List.replicate m none := by
    unfold L2.start
    rw [show N.length - vs.length = m by omega]
  rw [es]
  refine ev _ F H _ (h3.start (m := m)) _ ?_
  unfold runFn at h4
  cases ho : body (sl ++ List.replicate m .unk) with
  | no => rw [ho] at h4; exact h4.elim
  | nx e' => rw [ho] at h4; exact fun σ' F' H' s' => h4 F' H' (s'.finish hl h2 h3) _ .non
  | rt d e' => rw [ho] at h4; exact fun v σ' F' H' s' rd => h4 F' H' (s'.finish hl h2 h3) v rd
  | bk e' => rw [ho] at h4; exact h4.elim
  | ct e' => rw [ho] at h4; exact h4.elim
  | ex c fs e' => rw [ho] at h4; exact fun d' σ' F' H' s' xf => h4 d' F' H' (s'.finish hl h2 h3) xf
/-! ### defs that give a new list -/
abbrev SemN := List Slot → R (List D)
def spN (Z : Wd) (n : Nat) (f : SemN) : Sp := fun vs H Q E => ∃ (F : Hp) (sl : List Slot), sl.length = n ∧ sl.all Slot.arg = true ∧ WF Z F H (vs.map some) sl ∧
  Post Z (fun c d _ H' => E c d H') (vs.map some) F H sl (f sl) (fun ds F' H' => ∀ p ws, H p = none → F' p = none → H' p = some (.lst ws) → RDs Z F' ws ds → Q (.ref p) H')
def runFnN (m : Nat) (body : M (List D)) : SemN := fun sl => match body (sl ++ List.replicate m .unk) with
  | .ok ds e => .ok ds (outs sl e)
  | .ex c fs e => .ex c fs (outs sl e)
  | .no => .no
theorem fngN_sound {P : Program} {w : World} {K : PySem.W.Frag} {mg : Str → Option Value} {base : Heap} {x qual : Str} {params : Arguments} {scope : Scope} {dvs : List V} {kws : List (Str × V)} {f : Addr} {fd : FuncData} {N ps : List Str} {k m : Nat} {re : Expr} {rp : Pos} {body : M (List D)} (Fn : FunD K x qual params [.Return (some re) rp] scope dvs kws f fd) (S : FnScope N ps scope) (hm : N.length = ps.length + m)
    (hb : ∀ (cdv : Value) (A : Around) (outer : List Env) (s : Shared) (H : Hp) (E : XK), Room k (A.deeper (envOfC qual scope s.heap.objs.size f cdv)) → A.guards = some [] →
      MN Z (cxOf (L2.CX P w) P w K mg base N qual scope f cdv A outer s H E) (fun c d _ H' => E c d H') re body) :
    FnG P w K mg base (k + 1) f fd ps (spN Z ps.length (runFnN m body)) := by
  have len : ∀ vs H Q E, spN Z ps.length (runFnN m body) vs H Q E → vs.length = ps.length := fun vs H Q E ⟨F, sl, h1, _, h3, _⟩ => by
    have := h3.len
    rw [List.length_map] at this
    omega
  obtain ⟨oc, od, dV, kV, doc, pm, an, cdv, ct, osl, rfl, lk, hcd, _, _⟩ := Fn.ex
  refine ⟨len, fun A outer s H args us vs Q E hr hg e0 hbd r h => LamX.run_ofS lk hcd S hr e0 hbd r (len _ _ _ _ h) fun hr' => ?_⟩
  obtain ⟨F, sl, h1, h2, h3, h4⟩ := h
  have hl : vs.length = sl.length := by
    have := h3.len
    rw [List.length_map] at this
    exact this
  obtain ⟨te, pd, ev⟩ := hb cdv A outer s H E hr' hg
  refine ⟨tRet te, pss_one (ps_ret pd), ?_⟩
  have es : L2.start N vs = vs.map some ++ List.replicate m none := by
    unfold L2.start
    rw [show N.length - vs.length = m by omega]
  rw [es]
  refine ev _ F H _ (h3.start (m := m)) _ ?_
  unfold runFnN at h4
  cases ho : body (sl ++ List.replicate m .unk) with
  | no => rw [ho] at h4; exact h4.elim
  | ok ds e' => rw [ho] at h4; exact fun F' H' s' => h4 F' H' (s'.toSq.finish hl h2 h3)
  | ex c fs e' => rw [ho] at h4; exact fun d' F' H' s' xf => h4 d' F' H' (s'.toSq.finish hl h2 h3) xf
theorem fngN_never {P : Program} {w : World} {K : PySem.W.Frag} {mg : Str → Option Value} {base : Heap} {k n : Nat} {f : Addr} {fd : FuncData} {ps : List Str} : FnG P w K mg base k f fd ps (spN Z n fun _ => .no) :=
  ⟨fun vs H Q E h => by obtain ⟨_, _, _, _, _, z⟩ := h; exact z.elim, fun A outer s H args us vs Q E _ _ _ _ _ h => by obtain ⟨_, _, _, _, _, z⟩ := h; exact z.elim⟩
def cCallN (f : SemN) (a : M (List Ar)) : M (List D) := fun e => (a e).bind fun as e1 => if nodupIx as = true then (match arSlots e1 as with
  | some sl => match f (sl ++ ([] : List D).map Slot.dat) with
    | .no => .no
    | .ok d sl' => .ok d (back as sl' e1)
    | .ex c fs sl' => .ex c fs (back as sl' e1)
  | none => .no) else .no
theorem mn_callG {n : Str} {f : Addr} {fd : FuncData} {ps : List Str} {k : Nat} {g : SemN} {es : List Expr} {m : M (List Ar)} (Fn : FnG X.prog X.w X.K X.mg X.base k f fd ps (spN Z ps.length g)) (hr : Room k X.A) (hgd : X.A.guards = some []) (hg : Gl X n) (hm : X.mg n = some (.ref f))
    (hk : PySem.W.keepIn X.K (.ref f) = true) (hb : Binds X.K fd ps []) (tk : Takes X W) (ha : MA Z X W (a :: es) m) (hl : (a :: es).length = ps.length)
    (hdb : (n == ("__debug__" : Str)) = false := by decide) (he : starEach (a :: es) X.env = (false, eval a X.env) :: starEach es X.env := by rfl) (hpl : (backTo pos (starEach es X.env)).any (·.1) = false := by rfl) :
    MN Z X W (.Call (.Name n p) (a :: es) [] pos) (cCallN g m) := by
  obtain ⟨ta, pa, ea, la⟩ := ha
  refine ⟨tCallSD (spN Z ps.length g) [] (WE W) ta, ⟨fun pins s σ H Q I h => ?_⟩, fun σ F H e w Q hp => ?_⟩
  · refine wpAny_Call_Name_kw (ld_glob I hg hm (PySem.W.callWith_K (h₀ := X.base) I.ok.mod.kin hk (thn (pa.run pos pins s σ H _ I h) fun us s1 hh => ?_) he hpl) hdb)
    obtain ⟨vs, H1, I1, r, q⟩ := hh
    exact ⟨I1.kIn, fng_run Fn hr hgd hb .nil tk I1 r q⟩
  · refine ea σ F H e w _ ?_
    unfold cCallN at hp
    cases hm' : m e with
    | no => rw [hm'] at hp; exact hp.elim
    | ex c fs e1 => rw [hm'] at hp; exact hp
    | ok as e1 =>
      rw [hm'] at hp
      intro F1 H1 s vs ra
      change Post Z W σ F H e (if nodupIx as = true then _ else .no) _ at hp
      by_cases hn : nodupIx as = true
      · rw [if_pos hn] at hp
        cases hs : arSlots e1 as with
        | none => rw [hs] at hp; exact hp.elim
        | some sl =>
          rw [hs] at hp
          have hsl := arSlots_length hs
          have hla := la e as e1 hm'
          refine ⟨F1, sl ++ ([] : List D).map Slot.dat, by rw [List.length_append, List.length_map]; simp only [List.length_nil]; omega, args_arg hs, s.wf.args ra hn hs .nil, ?_⟩
          dsimp only at hp
          cases hf : g (sl ++ ([] : List D).map Slot.dat) with
          | no => rw [hf] at hp; exact hp.elim
          | ok d sl' =>
            rw [hf] at hp
            intro F' H' c q ws n1 n2 n3 rs
            exact hp F' H' (s.trans (c.toSq.ofCall s.wf ra hn hs .nil)) q ws (s.toSq.free n1) n2 n3 rs
          | ex c' fs sl' => rw [hf] at hp; exact fun d' F' H' c => hp d' F' H' (s.trans (c.toSq.ofCall s.wf ra hn hs .nil))
      · rw [if_neg hn] at hp
        exact hp.elim
/-! ### keywords -/
/-- f(k = v, ..), the arguments in the parameters' order by g -/
def cCallK (f : Sem) (g : List D → List D) (a : M (List Ar)) : M D := fun e => (a e).bind fun as e1 => match datas as with
  | some ds => (match f ((g ds).map Slot.dat) with
    | .ok d _ => .ok d e1
    | .ex c fs _ => .ex c fs e1
    | .no => .no)
  | none => .no
def MK (Z : Wd) (X : Cx) (W : WX) (kws : List Keyword) (m : M (List Ar)) : Prop := ∃ ta, PK X kws ta ∧ EvA Z ta W m ∧ LenA m kws.length
theorem mk_nil : MK Z X W [] cANil := ⟨_, pk_nil, fun σ F H e w Q h => Post.here w h [] .nil, fun _ _ _ h => by cases h; rfl⟩
theorem mk_cons {kws : List Keyword} {mr : M (List Ar)} {nm : Option Str} (ha : ME Z X W a ma) (hr : MK Z X W kws mr) : MK Z X W (⟨nm, a, p⟩ :: kws) (cACons ma mr) := by
  obtain ⟨te, pe, ev⟩ := ha
  obtain ⟨tr, pr, er, lr⟩ := hr
  refine ⟨_, pk_cons pe pr, eva_cons ev er, fun e as e' h => ?_⟩
  unfold cACons at h
  cases h1 : ma e with
  | no => rw [h1] at h; cases h
  | ex c fs e1 => rw [h1] at h; cases h
  | ok d e1 =>
    rw [h1] at h
    change (mr e1).bind _ = _ at h
    cases h2 : mr e1 with
    | no => rw [h2] at h; cases h
    | ex c fs e1 => rw [h2] at h; cases h
    | ok xs e2 => rw [h2] at h; cases h; rw [List.length_cons, List.length_cons, lr _ _ _ h2]
theorem sl_dats {vs : List V} {ds : List D} (w : WF Z F H σ e) (r : RDs Z F vs ds) : WF Z F H (vs.map some) (ds.map Slot.dat) where
  sub := w.sub
  len := by rw [List.length_map, List.length_map, r.length]
  slot := fun i s o h1 h2 => by
    rw [List.getElem?_map] at h1 h2
    cases hd : ds[i]? with
    | none => rw [hd] at h1; cases h1
    | some d =>
      rw [hd] at h1
      cases h1
      obtain ⟨v, hv, rd⟩ := r.getD hd
      rw [hv] at h2
      cases h2
      exact ⟨v, rfl, rd⟩
  sep := fun i j a s t h1 _ h3 _ _ _ => by
    rw [List.getElem?_map] at h1
    cases hd : ds[i]? with
    | none => rw [hd] at h1; cases h1
    | some d => rw [hd] at h1; cases h1; cases h3
  tabs := w.tabs
theorem dat_obj {ds : List D} {i : Nat} {s : Slot} (h : (ds.map Slot.dat)[i]? = some s) (ho : s.obj.isSome = true) : False := by
  rw [List.getElem?_map] at h
  cases hd : ds[i]? with
  | none => rw [hd] at h; cases h
  | some d => rw [hd] at h; cases h; cases ho
theorem kd_dat {ds : List D} {sl : En} (k : Kd (ds.map Slot.dat) sl) {i : Nat} {s : Slot} (h : sl[i]? = some s) (ho : s.obj.isSome = true) : False := by
  obtain ⟨t, h1, h2⟩ := k.obj h ho
  exact dat_obj h1 h2
/-- a callee that was handed data alone leaves the caller's slots -/
theorem Sx.ofDats {vs : List V} {ds : List D} {sl' : En} (w : WF Z F H σ e) (s : Sx Z (vs.map some) F H (ds.map Slot.dat) F' H' sl') : Sx Z σ F H e F' H' e := by
  have nob : ∀ a, ¬ Owns (vs.map some) (ds.map Slot.dat) a := fun a ⟨i, t, h1, h2, _⟩ => dat_obj h1 h2
  have ext := s.ext
  refine ⟨⟨⟨s.wf.sub, w.len, fun i t o h1 h2 => ?_, w.sep, s.wf.tabs⟩, ext, fun a o h nt _ => s.frame a o h nt (nob a), s.keep, fun a h1 h2 _ => s.new a h1 h2 (nob a), fun a h => .inl h, fun i q h => ⟨⟨q, h⟩, rfl⟩⟩, Kd.refl e⟩
  have z := w.slot i t o h1 h2
  cases t with
  | unk => trivial
  | dat d => obtain ⟨v, h3, h4⟩ := z; exact ⟨v, h3, h4.mono ext⟩
  | own r =>
    obtain ⟨b, h3, h4, h5⟩ := z
    obtain ⟨u, h6, h7⟩ := h5.there
    exact ⟨b, h3, s.new b h4 (by rw [h6]; simp) (nob b), h5.mono ext fun o ho => by rw [h6] at ho; cases ho; exact s.frame b _ h6 h7 (nob b)⟩
  | io r =>
    obtain ⟨b, h3, h4, h5⟩ := z
    obtain ⟨u, h6, h7⟩ := h5.there
    exact ⟨b, h3, s.new b h4 (by rw [h6]; simp) (nob b), h5.mono ext fun o ho => by rw [h6] at ho; cases ho; exact s.frame b _ h6 h7 (nob b)⟩
theorem all_dats (ds : List D) : (ds.map Slot.dat).all Slot.arg = true := by
  rw [List.all_eq_true]
  intro s hs
  obtain ⟨d, _, rfl⟩ := List.mem_map.mp hs
  rfl
theorem me_callK {n : Str} {f : Addr} {fd : FuncData} {ps ks : List Str} {k : Nat} {g : Sem} {kws : List Keyword} {m : M (List Ar)} {gv : List Value → List Value} {gV : List V → List V} {gD : List D → List D} (Fn : FnG X.prog X.w X.K X.mg X.base k f fd ps (spF Z ps.length g)) (hr : Room k X.A) (hgd : X.A.guards = some []) (hg : Gl X n) (hm : X.mg n = some (.ref f))
    (hk : PySem.W.keepIn X.K (.ref f) = true) (hb : ∀ (s : Shared) (ws : List Value), X.K.In s.heap → ws.length = ks.length → BindsTo s fd ⟨[], ks.zip ws⟩ (ps.zip (gv ws))) (rv : ∀ {zs : List V} {ws : List Value}, ws.length = ks.length → Vals zs ws → Vals (gV zs) (gv ws)) (rd : ∀ {F : Hp} {zs : List V} {ds : List D}, zs.length = ks.length → RDs Z F zs ds → RDs Z F (gV zs) (gD ds)) (hgl : ∀ zs : List V, zs.length = ks.length → (gV zs).length = ps.length)
    (tk : Takes X W) (ha : MK Z X W kws m) (hlk : kws.length = ks.length) (hall : (backToKw pos (keywordEach kws X.env)).all (·.1.isSome) = true := by rfl) (hks : (backToKw pos (keywordEach kws X.env)).filterMap (·.1) = ks := by rfl)
    (hdb : (n == ("__debug__" : Str)) = false := by decide) (hpl : ((backTo pos (starEach [] X.env)).any (·.1) || (backToKw pos (keywordEach kws X.env)).any (·.1.isNone)) = false := by rfl) :
    ME Z X W (.Call (.Name n p) [] kws pos) (cCallK g gD m) := by
  obtain ⟨ta, pa, ea, la⟩ := ha
  refine ⟨fun σ H Q => ta σ H fun zs H1 => zs.length = ks.length ∧ spF Z ps.length g (gV zs) H1 Q (WE W σ), ⟨fun pins s σ H Q I h => ?_⟩, fun σ F H e w Q hp => ?_⟩
  · refine wpAny_Call_Name_kw (ld_glob I hg hm (PySem.W.callWith_KW0 (h₀ := X.base) I.ok.mod.kin hk hall (thn (pa.run pos pins s σ H _ I h) fun ws s1 hh => ?_) hpl) hdb)
    obtain ⟨zs, H1, I1, r, hz, q⟩ := hh
    refine ⟨I1.kIn, ?_⟩
    rw [hks]
    have hw : ws.length = ks.length := by rw [← r.length]; exact hz
    have run := Fn.run X.A X.stack s1 H1 ⟨[], ks.zip ws⟩ _ _ Q (WE W σ) hr hgd I1.env0 (hb s1 ws I1.kIn hw) (rv hw r) q
    refine wpAny_call (codeAny_mono run fun q' s' hq => ?_)
    match q', hq with
    | .error er, hq => exact passAt tk σ pins H1 s1 er s' I1 hq
    | .ok (.ret u), hq => exact I1.after hq
    | .ok .next, hq => exact hq.elim
    | .ok .brk, hq => exact hq.elim
    | .ok .cont, hq => exact hq.elim
  · have hp0 := hp
    refine ea σ F H e w _ ?_
    unfold cCallK at hp
    cases hm' : m e with
    | no => rw [hm'] at hp; exact hp.elim
    | ex c fs e1 => rw [hm'] at hp; exact hp
    | ok as e1 =>
      rw [hm'] at hp
      intro F1 H1 s vs ra
      have hla := la e as e1 hm'
      change Post Z W σ F H e (match datas as with | some ds => _ | none => .no) _ at hp
      cases hd : datas as with
      | none => rw [hd] at hp; exact hp.elim
      | some ds =>
        rw [hd] at hp
        have rs := datas_ok ra hd
        have hv : vs.length = ks.length := by rw [ra.length, hla, hlk]
        have r2 := rd hv rs
        refine ⟨hv, F1, (gD ds).map Slot.dat, by rw [List.length_map, ← r2.length]; exact hgl vs hv, all_dats _, sl_dats s.wf r2, ?_⟩
        dsimp only at hp
        cases hf : g ((gD ds).map Slot.dat) with
        | no => rw [hf] at hp; exact hp.elim
        | ok d sl' => rw [hf] at hp; exact fun F' H' c => hp F' H' (s.trans (Sx.ofDats s.wf c))
        | ex c' fs sl' => rw [hf] at hp; exact fun d' F' H' c => hp d' F' H' (s.trans (Sx.ofDats s.wf c))
/-! ### a, b = x, y -/
def sPar (i j : Nat) (m : M (List Ar)) : MS := fun e => (m e).toO fun as e1 => match datas as with
  | some [x, y] => (match setE i (.dat x) e1 with
    | some e2 => (match setE j (.dat y) e2 with
      | some e3 => .nx e3
      | none => .no)
    | none => .no)
  | _ => .no
theorem ml_par {i j : Nat} {x y : Str} {a b : Expr} {m : M (List Ar)} {px py pt : Pos} {kt k2 pt2} (hc : X.calm = true) (hN : X.N.Nodup) (hi : X.N[i]? = some x) (hj : X.N[j]? = some y) (hij : i ≠ j)
    (hx : X.env.scope.names.lookup x = some .local) (hy : X.env.scope.names.lookup y = some .local) (ha : MA Z X W [a, b] m)
    (hw : swappedStores [.Tuple [.Name x px, .Name y py] kt pt] (.Tuple [a, b] k2 pt2) X.env = pure (some [x, y]))
    (hs : swapsWithSole [.Tuple [.Name x px, .Name y py] kt pt] (.Tuple [a, b] k2 pt2) pos.line X.env = pure false := by rfl) :
    ML Z X W (.Assign [.Tuple [.Name x px, .Name y py] kt pt] (.Tuple [a, b] k2 pt2) pos) (sPar i j m) := by
  obtain ⟨ta, pa, ea, _⟩ := ha
  refine ⟨_, ps_par hc hN hi hj hij hx hy pa hw hs, fun σ F H e w N hp => ?_⟩
  refine ea.bindS w hp fun as vs F1 H1 e1 s1 ra hp1 => ?_
  cases q : datas as with
  | none => rw [q] at hp1; exact hp1.elim
  | some ds =>
    rw [q] at hp1
    have rs := datas_ok ra q
    match ds, rs, hp1 with
    | [], _, hp1 => exact hp1.elim
    | [_], _, hp1 => exact hp1.elim
    | _ :: _ :: _ :: _, _, hp1 => exact hp1.elim
    | [d1, d2], .cons r1 (.cons r2 .nil), hp1 =>
      refine ⟨_, _, rfl, ?_⟩
      dsimp only at hp1
      cases h2 : setE i (.dat d1) e1 with
      | none => rw [h2] at hp1; exact hp1.elim
      | some e2 =>
        rw [h2] at hp1
        dsimp only at hp1
        cases h3 : setE j (.dat d2) e2 with
        | none => rw [h3] at hp1; exact hp1.elim
        | some e3 =>
          rw [h3] at hp1
          have t1 := Sq.setD s1.wf h2 r1
          exact hp1 _ _ _ (t1.trans (Sq.setD t1.wf h3 r2))
end
/-! ### a built-in of a module by its name -/
section
variable {Z : Wd} {W : WX} {X : Cx} {a : Expr} {pos : Pos}
theorem me_cbfun {n : Str} {id : String} {r : List V → Hp → VK → Prop} {op : List D → Option D} {es : List Expr} {m : M (List Ar)} {p : Pos} (hc : CallR X (.builtin id) r) (h : OpN Z r op) (hg : Gl X n) (hm : X.mg n = some (.builtin id)) (ha : MA Z X W (a :: es) m)
    (hdb : (n == ("__debug__" : Str)) = false := by decide) (he : starEach (a :: es) X.env = (false, eval a X.env) :: starEach es X.env := by rfl) (hpl : (backTo pos (starEach es X.env)).any (·.1) = false := by rfl) : ME Z X W (.Call (.Name n p) (a :: es) [] pos) (cB op m) := by
  obtain ⟨ta, pa, ea, _⟩ := ha
  exact ⟨_, pe_callBfun hc hg hm pa hdb he hpl, eve_cb h ea⟩
end
end Md

/-! Md11: the law's end. -/
namespace Md
open PySem PySem.Spec PyProof.Rows L2
section
variable {P : Program} {w : World} {Z : Wd} {mg mb : Str → Option Value} {k : Nat} {fa a : Addr} {fd : FuncData} {x : Str} {sem : Sem} {s1 : Shared} {vs : List Value} {ns : List Int}
theorem wf_script {F H : Hp} (x : Ex F H) (T0 : TabsZ Z F H) (h : SqL Z.K F a (ns.map V.int)) : WF Z F H [some (.ref a)] [.dat (.scr ns)] where
  sub := x
  len := rfl
  slot := fun i s o h1 h2 => by
    match i, h1, h2 with
    | 0, h1, h2 =>
      cases h1
      cases h2
      exact ⟨_, rfl, .scr h⟩
    | i + 1, h1, _ => simp at h1
  sep := fun i j b s t h1 _ h3 _ _ _ => by
    match i, h1 with
    | 0, h1 => cases h1; cases h3
    | i + 1, h1 => simp at h1
  tabs := T0
/-- the tables, each empty -/
def tb0 (cs : List (Addr × Addr)) : Hp := fun b => if b ∈ cs.map (·.2) then some (.tbl #[]) else none
theorem tb0_in {cs : List (Addr × Addr)} {b : Addr} (h : b ∈ cs.map (·.2)) : tb0 cs b = some (.tbl #[]) := if_pos h
theorem tb0_out {cs : List (Addr × Addr)} {b : Addr} (h : b ∉ cs.map (·.2)) : tb0 cs b = none := if_neg h
theorem tb0_eq {cs : List (Addr × Addr)} {b : Addr} {o : HO} (h : tb0 cs b = some o) : b ∈ cs.map (·.2) ∧ o = .tbl #[] := by
  by_cases hb : b ∈ cs.map (·.2)
  · rw [tb0_in hb] at h; cases h; exact ⟨hb, rfl⟩
  · rw [tb0_out hb] at h; cases h
/-- what the head tells of the tables -/
structure TbH (h : Heap) (mg : Str → Option Value) (cs : List (Addr × Addr)) : Prop where
  em : ∀ b ∈ cs.map (·.2), h.get? b = some { cls := .none, data := .fields #[] }
  cd : ∀ p ∈ cs, PySem.W.CodeHd h p.1 p.2
  bm : ∃ (m : Addr) (om : Obj), mg "__builtins__" = some (.ref m) ∧ m ≠ builtinsNs ∧ h.get? m = some om ∧ om.cls = .type "module" ∧ om.dict = some builtinsNs ∧ om.data = .plain
theorem end_core {cs : List (Addr × Addr)} {F0 : Hp} (KX : Z.K.In s1.heap) (tbh : TbH s1.heap mg cs) (TZ : ∀ F H : Hp, (∀ b ∈ cs.map (·.2), H b = some (.tbl #[])) → (∀ b ∈ cs.map (·.2), F b = none) → TabsZ Z F H) (g1 : s1.heap.Ns mainGlobals mg) (g2 : s1.heap.Ns builtinsNs mb) (g3 : ∀ y : Str, y ≠ "__name__" → mb y = bootBuiltins y) (g4 : s1.heap.NoLimit) (g5 : s1.gens = #[]) (at_ : s1.heap.get? a = some { cls := .type "list", data := .seq vs.toArray }) (room : Room k callerA)
    (F : ∀ base : Heap, Z.K.In base → base.Ns mainGlobals mg → (∀ p ∈ cs, LamX.TabB base mg p.1 p.2) → FnG P w Z.K mg base k fa fd [x] (spF Z 1 sem)) (bnd : ∀ (s : Shared) (u : Value), BindsTo s fd ⟨[u], []⟩ [(x, u)]) (law : ∃ e, sem [.dat (.scr ns)] = .ok (.bl true) e)
    (H : Hp) (o0 : ∀ b ∈ cs.map (·.2), H b = some (.tbl #[])) (o1 : ∀ b, b ∉ cs.map (·.2) → H b = none ∨ ∃ ob xs, H b = some (.frz ob (.lst xs))) (ox : Ex F0 H) (oF : ∀ b ∈ cs.map (·.2), F0 b = none) (o2 : SqL Z.K F0 a (ns.map V.int)) (o3 : HOk P w H s1.heap) (o4 : ∀ b, b ∉ cs.map (·.2) → H b ≠ none → b = a) (o5 : ∀ b, H b ≠ none → Z.K.lookup b = none) :
    codeAny (model P w) callerA (.call (.ref fa) ⟨[.ref a], []⟩) (fun r s' => r = .ok (.ret (.bool true)) ∧ OldK s1.heap s'.heap ∧ s'.os = s1.os ∧ AllBare s'.gens) s1 := by
  have free : ∀ {b : Addr} {o : Obj}, s1.heap.get? b = some o → o.data ≠ .seq vs.toArray → o.data ≠ .fields #[] → H b = none := fun {b o} q1 q2 q3 => by
    by_cases hb : b ∈ cs.map (·.2)
    · rw [tbh.em b hb] at q1
      cases q1
      exact absurd rfl q3
    · cases q : H b with
      | none => rfl
      | some u =>
        have eb : b = a := o4 b hb (by rw [q]; simp)
        rw [eb, at_] at q1
        cases q1
        exact absurd rfl q2
  have put : ∀ {b : Addr} {o : Obj}, s1.heap.get? b = some o → H b = none → (hidT s1.heap H).get? b = some o := fun q n => hidT_get q n
  have spaces : ∀ {b : Addr} {m : Str → Option Value}, s1.heap.Ns b m → (hidT s1.heap H).Ns b m := fun {b m} ⟨o, es, ep, q, d, r⟩ => ⟨o, es, ep, put q (free q (by rw [d]; intro z; cases z) (by rw [d]; intro z; cases z)), d, r⟩
  have kin : Z.K.In (hidT s1.heap H) := fun b o q => put (KX b o q) (by
    cases q' : H b with
    | none => rfl
    | some u =>
      rw [o5 b (by rw [q']; simp)] at q
      cases q)
  have modl : Mod Z.K mg (hidT s1.heap H) := ⟨kin, spaces g1, ⟨mb, spaces g2, g3⟩, by
    obtain ⟨mc, h1, h2⟩ := g4
    exact ⟨mc, spaces h1, h2⟩⟩
  have tbs : ∀ p ∈ cs, LamX.TabB (hidT s1.heap H) mg p.1 p.2 := fun p hp => by
    have em := tbh.em p.2 (List.mem_map.mpr ⟨p, hp, rfl⟩)
    have nds : ∀ {b : Addr} {o : Obj}, s1.heap.get? b = some o → o.data = .plain → b ≠ p.2 := fun {b o} e d z => by
      rw [z, em] at e
      cases e
      cases d
    refine ⟨?_, ?_, fun z => ?_⟩
    · obtain ⟨o, us, fi, t1, fl, t2, iF, tx, t3, e1, r1, r2, r3, rest⟩ := tbh.cd p hp
      refine ⟨o, us, fi, t1, fl, t2, iF, tx, t3, put e1 (free e1 (by rw [r2]; intro z; cases z) (by rw [r2]; intro z; cases z; simp at r3)), r1, r2, r3, rest⟩
    · obtain ⟨m, om, b1, b2, b3, b4, b5, b6⟩ := tbh.bm
      refine ⟨m, om, b1, b2, fun z => ?_, nds b3 b6, put b3 (free b3 (by rw [b6]; intro z; cases z) (by rw [b6]; intro z; cases z)), b4, b5, b6⟩
      obtain ⟨o, es, ep, e, hd, _⟩ := g1
      rw [z, e] at b3
      cases b3
      rw [hd] at b6
      cases b6
    · obtain ⟨o, es, ep, e, hd, _⟩ := g1
      rw [z, em] at e
      cases e
      cases hd
  have env0 : Env0 P w Z.K mg (hidT s1.heap H) callerA [] s1 H := ⟨rfl, modl, fun b o q => of_hidT q, Nat.le_of_eq (hidT_size _ _), trivial, (fun b hb => by cases (show b ∈ ([] : List Addr) from hb)), o3, .of_eq g5⟩
  obtain ⟨e, he⟩ := law
  have good : spF Z 1 sem [.ref a] H (fun v _ => v = .bl true) (fun _ _ _ => False) := ⟨F0, [.dat (.scr ns)], rfl, rfl, wf_script ox (TZ F0 H o0 oF) o2, by
    rw [he]
    intro F' H' _ v rd
    cases rd
    rfl⟩
  refine codeAny_mono ((F _ kin (spaces g1) tbs).run callerA [] s1 H ⟨[.ref a], []⟩ [.ref a] [.ref a] _ _ room rfl env0 (bnd s1 (.ref a)) (.cons rfl .nil) good) fun r s2 out => ?_
  match r, out with
  | .error er, ⟨_, _, _, _, _, _, _, _, _, _, _, _, z⟩ => exact z.elim
  | .ok .next, z => exact False.elim z
  | .ok .brk, z => exact False.elim z
  | .ok .cont, z => exact False.elim z
  | .ok (.ret u), ⟨v, H2, os, bare, un, ok2, rv, ev⟩ =>
    have ev' : v = .bl true := ev
    subst ev'
    obtain rfl : u = Value.bool true := rv
    have old : ∀ b o, b ∉ cs.map (·.2) → s1.heap.get? b = some o → s2.heap.get? b = some o := fun b o hb q => by
      rcases o1 b hb with n | ⟨ob, xs, n⟩
      · exact un.keep b o q n (fun z => by cases (show b ∈ ([] : List Addr) from z)) (fun z => by cases z)
      · obtain ⟨e1, _⟩ := o3 b _ n
        obtain ⟨e2, _⟩ := ok2 b _ (un.frzs b ob _ n)
        rw [q] at e1
        cases e1
        exact e2
    have more : ∀ b ∈ cs.map (·.2), ∃ us : Array Value, s2.heap.get? b = some { cls := .none, data := .fields us } := fun b hb => by
      obtain ⟨us, z⟩ := un.tbls b #[] (o0 b hb)
      exact ⟨_, ok2 b _ z⟩
    refine ⟨rfl, ⟨fun b o q => ?_, fun b o q => ?_⟩, os, bare⟩
    · by_cases hb : b ∈ cs.map (·.2)
      · obtain ⟨us, hu⟩ := more b hb
        have em := tbh.em b hb
        rw [q] at em
        cases em
        obtain ⟨p, hp, ep⟩ := List.mem_map.mp hb
        refine .inr (.inl ⟨?_, rfl, #[], us, rfl, by rw [Array.empty_append]; exact hu⟩)
        have ct := (tbh.cd p hp).tab (tbh.em p.2 (List.mem_map.mpr ⟨p, hp, rfl⟩))
        rw [← ep]
        exact ct.isCodeTable
      · exact .inl (old b o hb q)
    · by_cases hb : b ∈ cs.map (·.2)
      · obtain ⟨us, hu⟩ := more b hb
        exact ⟨_, hu⟩
      · exact ⟨o, old b o hb q⟩
theorem end_call {cs : List (Addr × Addr)} (KX : Z.K.In s1.heap) (tbh : TbH s1.heap mg cs) (nT : ∀ b ∈ cs.map (·.2), Z.K.lookup b = none) (TZ : ∀ F H : Hp, (∀ b ∈ cs.map (·.2), H b = some (.tbl #[])) → (∀ b ∈ cs.map (·.2), F b = none) → TabsZ Z F H) (g1 : s1.heap.Ns mainGlobals mg) (g2 : s1.heap.Ns builtinsNs mb) (g3 : ∀ y : Str, y ≠ "__name__" → mb y = bootBuiltins y) (g4 : s1.heap.NoLimit) (g5 : s1.gens = #[]) (at_ : s1.heap.get? a = some { cls := .type "list", data := .seq vs.toArray }) (room : Room k callerA)
    (F : ∀ base : Heap, Z.K.In base → base.Ns mainGlobals mg → (∀ p ∈ cs, LamX.TabB base mg p.1 p.2) → FnG P w Z.K mg base k fa fd [x] (spF Z 1 sem)) (bnd : ∀ (s : Shared) (u : Value), BindsTo s fd ⟨[u], []⟩ [(x, u)]) (law : ∃ e, sem [.dat (.scr ns)] = .ok (.bl true) e) (hi : IntsAre vs ns) (hl : ns.length ≤ sizeLine) :
    codeAny (model P w) callerA (.call (.ref fa) ⟨[.ref a], []⟩) (fun r s' => r = .ok (.ret (.bool true)) ∧ OldK s1.heap s'.heap ∧ s'.os = s1.os ∧ AllBare s'.gens) s1 := by
  have rv := vals_ints hi
  have lenV := hi.length
  have na : a ∉ cs.map (·.2) := fun z => by
    have q := tbh.em a z
    rw [at_] at q
    have q' := congrArg Obj.data (Option.some.inj q)
    cases q'
  cases hk : Z.K.lookup a with
  | some o =>
    have q := KX a o hk
    rw [at_] at q
    cases q
    have sq : SqL Z.K (fun _ => none) a (ns.map V.int) := .inr ⟨_, vs.toArray, _, hk, rfl, rfl, rfl, by rw [List.size_toArray, lenV]; exact hl, by simpa using rv⟩
    refine end_core KX tbh TZ g1 g2 g3 g4 g5 at_ room F bnd law (tb0 cs) (fun b => tb0_in) (fun b hb => .inl (tb0_out hb)) (fun b o z => by cases z) (fun _ _ => rfl) sq (fun b u z => ?_) (fun b hb z => absurd (tb0_out hb) z) (fun b z => ?_)
    · obtain ⟨h1, h2⟩ := tb0_eq z
      subst h2
      exact tbh.em b h1
    · cases q : tb0 cs b with
      | none => exact absurd q z
      | some o => exact nT b (tb0_eq q).1
  | none =>
    have tr : ∀ b, b ≠ a → upd (tb0 cs) a (HO.frz { cls := .type "list", data := .seq vs.toArray } (.lst (ns.map V.int))) b = tb0 cs b := fun b hb => by rw [upd_ne hb]
    have ta : ∀ b ∈ cs.map (·.2), b ≠ a := fun b hb z => na (by rw [← z]; exact hb)
    refine end_core (F0 := upd (fun _ => none) a (.frz { cls := .type "list", data := .seq vs.toArray } (.lst (ns.map V.int)))) KX tbh TZ g1 g2 g3 g4 g5 at_ room F bnd law (upd (tb0 cs) a (.frz { cls := .type "list", data := .seq vs.toArray } (.lst (ns.map V.int)))) (fun b hb => (tr b (ta b hb)).trans (tb0_in hb)) (fun b hb => ?_) (fun b o z => ?_) (fun b hb => by rw [upd_ne (ta b hb)]) (.inl (.inr ⟨_, upd_same⟩)) (fun b u z => ?_) (fun b hb z => ?_) (fun b z => ?_)
    · by_cases e : b = a
      · subst e; exact .inr ⟨_, _, upd_same⟩
      · exact .inl ((tr b e).trans (tb0_out hb))
    · by_cases e : b = a
      · subst e; rw [upd_same] at z ⊢; exact z
      · rw [upd_ne e] at z; cases z
    · by_cases e : b = a
      · subst e
        rw [upd_same] at z
        cases z
        exact ⟨at_, by rw [List.length_map]; exact hl, vs, _, rv, at_⟩
      · rw [tr b e] at z
        obtain ⟨h1, h2⟩ := tb0_eq z
        subst h2
        exact tbh.em b h1
    · by_cases e : b = a
      · exact e
      · exact absurd ((tr b e).trans (tb0_out hb)) z
    · by_cases e : b = a
      · subst e; exact hk
      · rw [tr b e] at z
        cases q : tb0 cs b with
        | none => exact absurd q z
        | some o => exact nT b (tb0_eq q).1
end
/-- the names of the defs that hold lambdas, with their code objects and tables -/
def TabsOf (K : PySem.W.Frag) : List Str → List (Addr × Addr) → Prop
  | [], [] => True
  | x :: xs, p :: ps => PySem.W.tabIn K x = some p ∧ K.lookup p.2 = none ∧ TabsOf K xs ps
  | _, _ => False
def lamT : List Str → List (Addr × Addr) → List (Addr × Str)
  | x :: xs, p :: ps => (p.2, x ++ ".<locals>." ++ "<lambda>") :: lamT xs ps
  | _, _ => []
theorem TabsOf.each {K : PySem.W.Frag} : ∀ {xs : List Str} {ps : List (Addr × Addr)}, TabsOf K xs ps → ∀ p ∈ ps, ∃ x ∈ xs, PySem.W.tabIn K x = some p ∧ K.lookup p.2 = none
  | [], [], _, p, h => by cases h
  | x :: xs, q :: ps, ⟨h1, h2, h3⟩, p, h => by
    rcases List.mem_cons.mp h with e | e
    · subst e; exact ⟨x, .head _, h1, h2⟩
    · obtain ⟨y, a, b⟩ := TabsOf.each h3 p e
      exact ⟨y, .tail _ a, b⟩
theorem lamT_mem : ∀ {xs : List Str} {ps : List (Addr × Addr)} {t : Addr × Str}, t ∈ lamT xs ps → t.1 ∈ ps.map (·.2)
  | [], [], _, h => by cases h
  | [], _ :: _, _, h => by cases h
  | _ :: _, [], _, h => by cases h
  | x :: xs, p :: ps, t, h => by
    rcases List.mem_cons.mp h with e | e
    · subst e; exact .head _
    · exact .tail _ (lamT_mem e)
/-- the goal that k_head leaves; xs: the defs that hold lambdas -/
theorem walkG {l : PySem.W.OpenLaw} {n k : Nat} {q : Program} {loose : List Str} {XP : (Str → Option Value) → Heap → Prop} {YP : World → Heap → Prop} {d : DefRec} {K : Params → PySem.W.Frag} {x : Str} {sem : Sem} (xs : List Str)
    (hn : l.most = some n) (hn2 : n ≤ sizeLine) (hdf : d.params.defaults = []) (room : Room k callerA) (hY : ∀ (w : World) (h : Heap), YP w h → (K w.params).In h)
    (hx : ∀ y ∈ xs, ((recsOf q).find? (fun e => e.name == y)).isSome = true)
    (law : ∀ ns : List Int, ns.length ≤ n → (∀ z ∈ ns, Builtin.Int.intBits z ≤ 1048576) → ∃ e, sem [.dat (.scr ns)] = .ok (.bl true) e)
    (F : ∀ (w : World) (mg : Str → Option Value) (fa : Addr) (h : Heap), (K w.params).In h → h.Ns mainGlobals mg → mg d.name = some (.ref fa) →
      ∃ (fd : FuncData) (CL : Nat → Addr) (cs : List (Addr × Addr)), TabsOf (K w.params) xs cs ∧ (∀ (s : Shared) (u : Value), BindsTo s fd ⟨[u], []⟩ [(x, u)]) ∧ ∀ base : Heap, (K w.params).In base → base.Ns mainGlobals mg → (∀ p ∈ cs, LamX.TabB base mg p.1 p.2) → FnG l.prog w (K w.params) mg base k fa fd [x] (spF ⟨CL, K w.params, lamT xs cs, none⟩ 1 sem)) :
    PySem.W.WalkO q loose XP YP l.row.toRowW d [] (fun f vs => PySem.call f vs) := by
  refine Att.attach_callB hn hdf fun w s0 s1 mg mb fa o pm cd doc a vs ns G Y _ _ _ hmg at_ hin hlen hbits hg => ?_
  have KX := hY w _ Y
  obtain ⟨fd, CL, cs, ht, b1, b2⟩ := F w mg fa _ KX G.T.g hmg
  have tab : ∀ p ∈ cs, PySem.W.CodeHd s1.heap p.1 p.2 ∧ s1.heap.get? p.2 = some (PySem.W.tabObj #[]) ∧ (K w.params).lookup p.2 = none := fun p hp => by
    obtain ⟨y, hy, h1, h2⟩ := ht.each p hp
    obtain ⟨dr, hd⟩ := Option.isSome_iff_exists.mp (hx y hy)
    obtain ⟨c1, c2⟩ := PySem.W.tab_of (c := p.1) (P := p.2) G.T KX hd h1
    exact ⟨c1, c2, h2⟩
  refine end_call (cs := cs) (Z := ⟨CL, K w.params, lamT xs cs, none⟩) KX ⟨fun b hb => ?_, fun p hp => (tab p hp).1, G.T.bmain⟩ (fun b hb => ?_) (fun F H hH hF => ⟨fun t ht' => LamX.TabS.nil (hH t.1 (lamT_mem ht')), fun t ht' => hF t.1 (lamT_mem ht'), fun _ _ _ _ z => by cases z⟩) G.T.g G.T.b G.T.builtins G.T.nolimit hg at_ room b2 b1 (law ns hlen hbits) hin (Nat.le_trans hlen hn2)
  · obtain ⟨p, hp, e⟩ := List.mem_map.mp hb
    rw [← e]
    exact (tab p hp).2.1
  · obtain ⟨p, hp, e⟩ := List.mem_map.mp hb
    rw [← e]
    exact (tab p hp).2.2
end Md

/-! Md12: the rules as the printer writes them. -/
namespace Md
open PySem PySem.Spec PyProof.Rows L2
/-- what a body's context gives -/
structure Be (Z : Wd) (X : Cx) (W : WX) (k : Nat) : Prop where
  hK : X.K = Z.K
  room : Room k X.A
  gd : X.A.guards = some []
  tk : Takes X W
  calm : X.calm = true
  nd : X.N.Nodup
structure Bd (Z : Wd) (X : Cx) (W : WX) (k : Nat) : Prop extends Be Z X W k where
  ho : PassesOwn (model X.prog X.w) X.A X.env X.xe
  stk : X.stack = X.env :: X.outer
  frm : X.env.frame = some X.env.locals
theorem Bd.tr {Z : Wd} {X : Cx} {W W' : WX} {k : Nat} {pn : List (Addr × Obj)} {xe : Value → Shared → Prop} (b : Bd Z X W k) (t : Takes (X.tr pn xe) W') (o : PassesOwn (model X.prog X.w) X.A X.env xe) : Bd Z (X.tr pn xe) W' k :=
  ⟨⟨b.hK, b.room, b.gd, t, b.calm, b.nd⟩, o, b.stk, b.frm⟩
theorem Be.blk {Z : Wd} {X : Cx} {W : WX} {k : Nat} {s : Shared} {H : Hp} {scope : Scope} {ce : Env} {fp : List Addr} (b : Be Z X W k) : Be Z (X.blk s H scope ce fp) noW k :=
  ⟨b.hK, b.room, b.gd, fun u s' ⟨_, _, _, _, _, _, _, _, _, _, _, _, _, _, _, _, z⟩ => z.elim, b.calm, b.nd⟩
theorem bd_cx {P : Program} {w : World} {Z : Wd} {mg : Str → Option Value} {base : Heap} {N : List Str} {qual : Str} {scope : Scope} {f : Addr} {cdv : Value} {A : Around} {outer : List Env} {s : Shared} {H : Hp} {E : XK} {k : Nat} (nd : N.Nodup)
    (hr : Room k (A.deeper (envOfC qual scope s.heap.objs.size f cdv))) (hg : A.guards = some []) : Bd Z (cxOf (L2.CX P w) P w Z.K mg base N qual scope f cdv A outer s H E) (fun c d _ H' => E c d H') k :=
  ⟨⟨rfl, hr, hg, takes_of rfl rfl rfl rfl, rfl, nd⟩, PassesOwn.leaving, rfl, rfl⟩
/-- a def that may be called by its name: n values written, dds fill up -/
structure Callee (P : Program) (w : World) (Z : Wd) (mg : Str → Option Value) (base : Heap) (k : Nat) (name : Str) (ps : List Str) (sp : Sp) (n : Nat) (dds : List D) : Prop where
  ex : ∃ f fd ds dvs, mg name = some (.ref f) ∧ PySem.W.keepIn Z.K (.ref f) = true ∧ FnG P w Z.K mg base k f fd ps sp ∧ Binds Z.K fd ps ds ∧ Vals dvs ds ∧ (∀ F, RDs Z F dvs dds) ∧ n + dds.length = ps.length
structure CalleeK (P : Program) (w : World) (Z : Wd) (mg : Str → Option Value) (base : Heap) (k : Nat) (name : Str) (ps ks : List Str) (sp : Sp) (gD : List D → List D) : Prop where
  ex : ∃ (f : Addr) (fd : FuncData) (gv : List Value → List Value) (gV : List V → List V), mg name = some (.ref f) ∧ PySem.W.keepIn Z.K (.ref f) = true ∧ FnG P w Z.K mg base k f fd ps sp ∧ (∀ (s : Shared) (ws : List Value), Z.K.In s.heap → ws.length = ks.length → BindsTo s fd ⟨[], ks.zip ws⟩ (ps.zip (gv ws))) ∧
    (∀ {zs : List V} {ws : List Value}, ws.length = ks.length → Vals zs ws → Vals (gV zs) (gv ws)) ∧ (∀ {F : Hp} {zs : List V} {ds : List D}, zs.length = ks.length → RDs Z F zs ds → RDs Z F (gV zs) (gD ds)) ∧ ∀ zs : List V, zs.length = ks.length → (gV zs).length = ps.length
section
variable {Z : Wd} {W : WX} {X : Cx} {k kc : Nat} {a b c x o : Expr} {ma mb mc : M D} {mt mu : M Bool} {pos p : Pos} {es : List Expr} {ps ks : List Str} {n : Str} {g : Sem} {m : M (List Ar)} {dds : List D} {na : Nat}
theorem e_call (B : Be Z X W k) (C : Callee X.prog X.w Z X.mg X.base kc n ps (spF Z ps.length g) na dds) (hk : kc ≤ k) (ha : MA Z X W (a :: es) m) (hl : (a :: es).length = na := by rfl) (hg : Gl X n := by rfl)
    (hdb : (n == ("__debug__" : Str)) = false := by decide) (he : starEach (a :: es) X.env = (false, eval a X.env) :: starEach es X.env := by rfl) (hpl : (backTo pos (starEach es X.env)).any (·.1) = false := by rfl) : ME Z X W (.Call (.Name n p) (a :: es) [] pos) (cCall g dds m) := by
  obtain ⟨f, fd, ds, dvs, h1, h2, h3, h4, h5, h6, h7⟩ := C.ex
  have e := B.hK
  exact me_callG (by rw [e]; exact h3) (B.room.mono hk) B.gd hg h1 (by rw [e]; exact h2) (by rw [e]; exact h4) h5 h6 B.tk ha (by rw [hl]; exact h7) hdb he hpl
theorem e_call0 (B : Be Z X W k) (C : Callee X.prog X.w Z X.mg X.base kc n ps (spF Z ps.length g) 0 dds) (hk : kc ≤ k) (hg : Gl X n := by rfl)
    (hdb : (n == ("__debug__" : Str)) = false := by decide) : ME Z X W (.Call (.Name n p) [] [] pos) (cCall g dds cANil) := by
  obtain ⟨f, fd, ds, dvs, h1, h2, h3, h4, h5, h6, h7⟩ := C.ex
  have e := B.hK
  exact me_callG0 (by rw [e]; exact h3) (B.room.mono hk) B.gd hg h1 (by rw [e]; exact h2) (by rw [e]; exact h4) h5 h6 B.tk (by simpa using h7) hdb
theorem n_call {gN : SemN} (B : Be Z X W k) (C : Callee X.prog X.w Z X.mg X.base kc n ps (spN Z ps.length gN) na []) (hk : kc ≤ k) (ha : MA Z X W (a :: es) m) (hl : (a :: es).length = na := by rfl) (hg : Gl X n := by rfl)
    (hdb : (n == ("__debug__" : Str)) = false := by decide) (he : starEach (a :: es) X.env = (false, eval a X.env) :: starEach es X.env := by rfl) (hpl : (backTo pos (starEach es X.env)).any (·.1) = false := by rfl) : MN Z X W (.Call (.Name n p) (a :: es) [] pos) (cCallN gN m) := by
  obtain ⟨f, fd, ds, dvs, h1, h2, h3, h4, h5, h6, h7⟩ := C.ex
  have e := B.hK
  have hd : dvs = [] := by
    have := (h6 (fun _ => none)).length
    cases dvs with
    | nil => rfl
    | cons _ _ => cases this
  subst hd
  have hds : ds = [] := by
    cases h5
    rfl
  subst hds
  exact mn_callG (by rw [e]; exact h3) (B.room.mono hk) B.gd hg h1 (by rw [e]; exact h2) (by rw [e]; exact h4) B.tk ha (by rw [hl]; exact h7) hdb he hpl
theorem e_callK {kws : List Keyword} {gD : List D → List D} (B : Be Z X W k) (C : CalleeK X.prog X.w Z X.mg X.base kc n ps ks (spF Z ps.length g) gD) (hk : kc ≤ k) (ha : MK Z X W kws m) (hlk : kws.length = ks.length := by rfl) (hg : Gl X n := by rfl) (hall : (backToKw pos (keywordEach kws X.env)).all (·.1.isSome) = true := by rfl) (hks : (backToKw pos (keywordEach kws X.env)).filterMap (·.1) = ks := by rfl)
    (hdb : (n == ("__debug__" : Str)) = false := by decide) (hpl : ((backTo pos (starEach [] X.env)).any (·.1) || (backToKw pos (keywordEach kws X.env)).any (·.1.isNone)) = false := by rfl) : ME Z X W (.Call (.Name n p) [] kws pos) (cCallK g gD m) := by
  obtain ⟨f, fd, gv, gV, h1, h2, h3, h4, h5, h6, h7⟩ := C.ex
  have e := B.hK
  exact me_callK (by rw [e]; exact h3) (B.room.mono hk) B.gd hg h1 (by rw [e]; exact h2) (by rw [e]; exact h4) h5 h6 h7 B.tk ha hlk hall hks hdb hpl
theorem t_val (h : ME Z X W a ma) (he : ∀ whole, isTrue a X.env whole = (do let v ← whole; standAt a.pos; holding [v] (truthy v)) := by intro _; rfl) : MT Z X W a (cBool ma) := mt_val h fun te p => pt_val p he
theorem fd_uniq {K : PySem.W.Frag} {x qual : Str} {params : Arguments} {body : List Stmt} {scope : Scope} {dvs : List V} {kws : List (Str × V)} {f : Addr} {fd fd' : FuncData} (h : FunD K x qual params body scope dvs kws f fd) (h' : FunD K x qual params body scope dvs kws f fd') : fd = fd' := by
  obtain ⟨_, _, _, _, _, _, _, _, _, _, _, l1, _⟩ := h.ex
  obtain ⟨_, _, _, _, _, _, _, _, _, _, _, l2, _⟩ := h'.ex
  have z := congrArg Obj.data (Option.some.inj (l1.symm.trans l2))
  cases z
  rfl
/-! operators -/
variable (B : Be Z X W k)
theorem hu80 {A : Around} {k : Nat} (hr : Room k A) : A.units + 80 < cLine := by have := hr.un; omega
include B
theorem e_add (ha : ME Z X W a ma) (hb : ME Z X W b mb) : ME Z X W (.BinOp a .Add b pos) (cOp2 dAdd ma mb) := me_op (by rw [← B.hK]; exact op_addA) o2_add ha hb
theorem e_sub (ha : ME Z X W a ma) (hb : ME Z X W b mb) : ME Z X W (.BinOp a .Sub b pos) (cOp2 dSub ma mb) := me_op op_sub o2_sub ha hb
theorem e_mul (ha : ME Z X W a ma) (hb : ME Z X W b mb) : ME Z X W (.BinOp a .Mult b pos) (cOp2 dMul ma mb) := me_op op_mulA o2_mul ha hb
theorem e_fdiv (ha : ME Z X W a ma) (hb : ME Z X W b mb) : ME Z X W (.BinOp a .FloorDiv b pos) (cOp2 dFloorDiv ma mb) := me_op op_fdivW o2_floordiv ha hb
theorem e_mod (ha : ME Z X W a ma) (hb : ME Z X W b mb) : ME Z X W (.BinOp a .Mod b pos) (cOp2 dMod ma mb) := me_op op_mod o2_mod ha hb
theorem e_pow (ha : ME Z X W a ma) (hb : ME Z X W b mb) : ME Z X W (.BinOp a .Pow b pos) (cOp2 dPow ma mb) := me_op op_pow o2_pow ha hb
theorem e_lt (ha : ME Z X W a ma) (hb : ME Z X W b mb) (hm : behindInMarks .Lt b = false := by rfl) : ME Z X W (.Compare a [.Lt] [b] pos) (cOp2 dLt ma mb) := me_cmp opA_lt o2_lt hm ha hb
theorem e_le (ha : ME Z X W a ma) (hb : ME Z X W b mb) (hm : behindInMarks .LtE b = false := by rfl) : ME Z X W (.Compare a [.LtE] [b] pos) (cOp2 dLe ma mb) := me_cmp opA_le o2_le hm ha hb
theorem e_gt (ha : ME Z X W a ma) (hb : ME Z X W b mb) (hm : behindInMarks .Gt b = false := by rfl) : ME Z X W (.Compare a [.Gt] [b] pos) (cOp2 dGt ma mb) := me_cmp opA_gt o2_gt hm ha hb
theorem e_ge (ha : ME Z X W a ma) (hb : ME Z X W b mb) (hm : behindInMarks .GtE b = false := by rfl) : ME Z X W (.Compare a [.GtE] [b] pos) (cOp2 dGe ma mb) := me_cmp opA_ge o2_ge hm ha hb
theorem e_eq (ha : ME Z X W a ma) (hb : ME Z X W b mb) (hm : behindInMarks .Eq b = false := by rfl) : ME Z X W (.Compare a [.Eq] [b] pos) (cOp2 dEq ma mb) := me_cmp (by rw [← B.hK]; exact op_eq.or (op_eqD (B.room.units))) o2_eq hm ha hb
theorem e_ne (ha : ME Z X W a ma) (hb : ME Z X W b mb) (hm : behindInMarks .NotEq b = false := by rfl) : ME Z X W (.Compare a [.NotEq] [b] pos) (cOp2 dNe ma mb) := me_cmp (by rw [← B.hK]; exact op_ne.or (op_neD (B.room.units))) o2_ne hm ha hb
theorem e_is (ha : ME Z X W a ma) (hb : ME Z X W b mb) (hm : behindInMarks .Is b = false := by rfl) : ME Z X W (.Compare a [.Is] [b] pos) (cOp2 dIs ma mb) := me_cmp op_isN o2_is hm ha hb
theorem e_isnot (ha : ME Z X W a ma) (hb : ME Z X W b mb) (hm : behindInMarks .IsNot b = false := by rfl) : ME Z X W (.Compare a [.IsNot] [b] pos) (cOp2 dIsNot ma mb) := me_cmp op_notN o2_isNot hm ha hb
theorem t_lt (ha : ME Z X W a ma) (hb : ME Z X W b mb) (hm : behindInMarks .Lt b = false := by rfl) : MT Z X W (.Compare a [.Lt] [b] pos) (cBool (cOp2 dLt ma mb)) := mt_cmp opA_lt o2_lt hm ha hb
theorem t_le (ha : ME Z X W a ma) (hb : ME Z X W b mb) (hm : behindInMarks .LtE b = false := by rfl) : MT Z X W (.Compare a [.LtE] [b] pos) (cBool (cOp2 dLe ma mb)) := mt_cmp opA_le o2_le hm ha hb
theorem t_gt (ha : ME Z X W a ma) (hb : ME Z X W b mb) (hm : behindInMarks .Gt b = false := by rfl) : MT Z X W (.Compare a [.Gt] [b] pos) (cBool (cOp2 dGt ma mb)) := mt_cmp opA_gt o2_gt hm ha hb
theorem t_ge (ha : ME Z X W a ma) (hb : ME Z X W b mb) (hm : behindInMarks .GtE b = false := by rfl) : MT Z X W (.Compare a [.GtE] [b] pos) (cBool (cOp2 dGe ma mb)) := mt_cmp opA_ge o2_ge hm ha hb
theorem t_eq (ha : ME Z X W a ma) (hb : ME Z X W b mb) (hm : behindInMarks .Eq b = false := by rfl) : MT Z X W (.Compare a [.Eq] [b] pos) (cBool (cOp2 dEq ma mb)) := mt_cmp (by rw [← B.hK]; exact op_eq.or (op_eqD (B.room.units))) o2_eq hm ha hb
theorem t_ne (ha : ME Z X W a ma) (hb : ME Z X W b mb) (hm : behindInMarks .NotEq b = false := by rfl) : MT Z X W (.Compare a [.NotEq] [b] pos) (cBool (cOp2 dNe ma mb)) := mt_cmp (by rw [← B.hK]; exact op_ne.or (op_neD (B.room.units))) o2_ne hm ha hb
theorem t_is (ha : ME Z X W a ma) (hb : ME Z X W b mb) (hm : behindInMarks .Is b = false := by rfl) : MT Z X W (.Compare a [.Is] [b] pos) (cBool (cOp2 dIs ma mb)) := mt_cmp op_isN o2_is hm ha hb
theorem t_isnot (ha : ME Z X W a ma) (hb : ME Z X W b mb) (hm : behindInMarks .IsNot b = false := by rfl) : MT Z X W (.Compare a [.IsNot] [b] pos) (cBool (cOp2 dIsNot ma mb)) := mt_cmp op_notN o2_isNot hm ha hb
theorem e_lele (ha : ME Z X W a ma) (hb : ME Z X W b mb) (hc : ME Z X W c mc) (hm : lastMarks [.LtE, .LtE] [b, c] = false := by with_unfolding_all rfl) : ME Z X W (.Compare a [.LtE, .LtE] [b, c] pos) (cChain dLe dLe ma mb mc) := me_chain opA_le opA_le o2_le o2_le hm ha hb hc
theorem t_lele (ha : ME Z X W a ma) (hb : ME Z X W b mb) (hc : ME Z X W c mc) (hm : lastMarks [.LtE, .LtE] [b, c] = false := by with_unfolding_all rfl) : MT Z X W (.Compare a [.LtE, .LtE] [b, c] pos) (cBool (cChain dLe dLe ma mb mc)) := mt_chain opA_le opA_le o2_le o2_le hm ha hb hc
theorem e_ix (ha : ME Z X W a ma) (hb : ME Z X W b mb) (hs : PlainIx b := by exact fun _ _ => rfl) : ME Z X W (.Subscript a b pos) (cOp2 dIx ma mb) := me_ix B.hK ha hb hs
theorem e_len (hm : X.mg "len" = none) (ha : MA Z X W (a :: es) m) (hg : Gl X "len" := by rfl) (he : starEach (a :: es) X.env = (false, eval a X.env) :: starEach es X.env := by rfl) (hpl : (backTo pos (starEach es X.env)).any (·.1) = false := by rfl) : ME Z X W (.Call (.Name "len" p) (a :: es) [] pos) (cB bLen m) := me_cb (by rw [← B.hK]; exact call_lenA) on_len hg hm PyProof.Rows.Boot.«len» ha (by decide) (by decide) he hpl
theorem e_int (hm : X.mg "int" = none) (ha : MA Z X W (a :: es) m) (hg : Gl X "int" := by rfl) (he : starEach (a :: es) X.env = (false, eval a X.env) :: starEach es X.env := by rfl) (hpl : (backTo pos (starEach es X.env)).any (·.1) = false := by rfl) : ME Z X W (.Call (.Name "int" p) (a :: es) [] pos) (cB bInt m) := me_ct call_int1 on_int hg hm PyProof.Rows.Boot.«int» ha (by decide) (by decide) he hpl
theorem e_abs (hm : X.mg "abs" = none) (ha : MA Z X W (a :: es) m) (hg : Gl X "abs" := by rfl) (he : starEach (a :: es) X.env = (false, eval a X.env) :: starEach es X.env := by rfl) (hpl : (backTo pos (starEach es X.env)).any (·.1) = false := by rfl) : ME Z X W (.Call (.Name "abs" p) (a :: es) [] pos) (cB bAbs m) := me_cb call_abs on_abs hg hm PyProof.Rows.Boot.«abs» ha (by decide) (by decide) he hpl
theorem e_max (hm : X.mg "max" = none) (ha : MA Z X W (a :: es) m) (hg : Gl X "max" := by rfl) (he : starEach (a :: es) X.env = (false, eval a X.env) :: starEach es X.env := by rfl) (hpl : (backTo pos (starEach es X.env)).any (·.1) = false := by rfl) : ME Z X W (.Call (.Name "max" p) (a :: es) [] pos) (cB bMax m) := me_cb (call_max2 B.calm) on_max hg hm PyProof.Rows.Boot.«max» ha (by decide) (by decide) he hpl
theorem e_min (hm : X.mg "min" = none) (ha : MA Z X W (a :: es) m) (hg : Gl X "min" := by rfl) (he : starEach (a :: es) X.env = (false, eval a X.env) :: starEach es X.env := by rfl) (hpl : (backTo pos (starEach es X.env)).any (·.1) = false := by rfl) : ME Z X W (.Call (.Name "min" p) (a :: es) [] pos) (cB bMin m) := me_cb (call_min2 B.calm) on_min hg hm PyProof.Rows.Boot.«min» ha (by decide) (by decide) he hpl
theorem e_str (hm : X.mg "str" = none) (ha : MA Z X W (a :: es) m) (hg : Gl X "str" := by rfl) (he : starEach (a :: es) X.env = (false, eval a X.env) :: starEach es X.env := by rfl) (hpl : (backTo pos (starEach es X.env)).any (·.1) = false := by rfl) : ME Z X W (.Call (.Name "str" p) (a :: es) [] pos) (cB bStr m) := me_ct call_strA on_str hg hm PyProof.Rows.Boot.«str» ha (by decide) (by decide) he hpl
theorem e_all (hm : X.mg "all" = none) (ha : MA Z X W (a :: es) m) (hg : Gl X "all" := by rfl) (he : starEach (a :: es) X.env = (false, eval a X.env) :: starEach es X.env := by rfl) (hpl : (backTo pos (starEach es X.env)).any (·.1) = false := by rfl) : ME Z X W (.Call (.Name "all" p) (a :: es) [] pos) (cB bAll m) := me_cb (by rw [← B.hK]; exact cr_all B.calm) on_all hg hm PyProof.Rows.Boot.«all» ha (by decide) (by decide) he hpl
theorem e_any (hm : X.mg "any" = none) (ha : MA Z X W (a :: es) m) (hg : Gl X "any" := by rfl) (he : starEach (a :: es) X.env = (false, eval a X.env) :: starEach es X.env := by rfl) (hpl : (backTo pos (starEach es X.env)).any (·.1) = false := by rfl) : ME Z X W (.Call (.Name "any" p) (a :: es) [] pos) (cB bAny m) := me_cb (by rw [← B.hK]; exact cr_any B.calm) on_any hg hm PyProof.Rows.Boot.«any» ha (by decide) (by decide) he hpl
theorem e_sum (hm : X.mg "sum" = none) (ha : MA Z X W (a :: es) m) (hg : Gl X "sum" := by rfl) (he : starEach (a :: es) X.env = (false, eval a X.env) :: starEach es X.env := by rfl) (hpl : (backTo pos (starEach es X.env)).any (·.1) = false := by rfl) : ME Z X W (.Call (.Name "sum" p) (a :: es) [] pos) (cB bSum m) := me_cb (by rw [← B.hK]; exact cr_sum B.calm) on_sum hg hm PyProof.Rows.Boot.«sum» ha (by decide) (by decide) he hpl
theorem e_repr (hm : X.mg "repr" = none) (ha : MA Z X W (a :: es) m) (hg : Gl X "repr" := by rfl) (he : starEach (a :: es) X.env = (false, eval a X.env) :: starEach es X.env := by rfl) (hpl : (backTo pos (starEach es X.env)).any (·.1) = false := by rfl) : ME Z X W (.Call (.Name "repr" p) (a :: es) [] pos) (cB bRepr m) := me_cb (by rw [← B.hK]; exact call_reprD (hu80 B.room) B.gd) on_repr hg hm PyProof.Rows.Boot.«repr» ha (by decide) (by decide) he hpl
theorem e_list (hm : X.mg "list" = none) (ha : MA Z X W (a :: es) m) (hg : Gl X "list" := by rfl) (he : starEach (a :: es) X.env = (false, eval a X.env) :: starEach es X.env := by rfl) (hpl : (backTo pos (starEach es X.env)).any (·.1) = false := by rfl) : ME Z X W (.Call (.Name "list" p) (a :: es) [] pos) (cB bList m) := me_ct (by rw [← B.hK]; exact call_list_of) on_list hg hm PyProof.Rows.Boot.«list» ha (by decide) (by decide) he hpl
theorem e_tuple (hm : X.mg "tuple" = none) (ha : MA Z X W (a :: es) m) (hg : Gl X "tuple" := by rfl) (he : starEach (a :: es) X.env = (false, eval a X.env) :: starEach es X.env := by rfl) (hpl : (backTo pos (starEach es X.env)).any (·.1) = false := by rfl) : ME Z X W (.Call (.Name "tuple" p) (a :: es) [] pos) (cB bTuple m) := me_ct (by rw [← B.hK]; exact call_tuple_of) on_tuple hg hm PyProof.Rows.Boot.«tuple» ha (by decide) (by decide) he hpl
theorem e_gcd {id : String} (hm : X.mg n = some (.builtin "math.gcd")) (ha : MA Z X W (a :: es) m) (hg : Gl X n := by rfl) (hdb : (n == ("__debug__" : Str)) = false := by decide) (he : starEach (a :: es) X.env = (false, eval a X.env) :: starEach es X.env := by rfl) (hpl : (backTo pos (starEach es X.env)).any (·.1) = false := by rfl) : ME Z X W (.Call (.Name n p) (a :: es) [] pos) (cB bGcd m) := me_cbfun cr_gcd on_gcd hg hm ha hdb he hpl
theorem e_isi {u : Value} {tab : List (Tk × Bool)} (hm : X.mg "isinstance" = none) (ha : ME Z X W a ma) (hc : MCls X c u) (ht : IsOk Z u tab) (hg : Gl X "isinstance" := by rfl)
    (h1 : starEach [a, c] X.env = (false, eval a X.env) :: starEach [c] X.env := by rfl) (h2 : starEach [c] X.env = (false, eval c X.env) :: starEach [] X.env := by rfl) (hpl : (backTo pos (starEach [c] X.env)).any (·.1) = false := by rfl) :
    ME Z X W (.Call (.Name "isinstance" p) [a, c] [] pos) (cOp1 (dIsi tab) ma) := me_isi B.hK ha hc ht hg hm PyProof.Rows.Boot.«isinstance» h1 h2 hpl
theorem e_isiT {us : List Value} {tab : List (Tk × Bool)} {j : Nat} {tp : Pos} (hm : X.mg "isinstance" = none) (ha : ME Z X W a ma) (hc : MClss X es us) (ht : IsOkT Z us tab) (hl : es.length ≤ 1000 := by decide) (hg : Gl X "isinstance" := by rfl)
    (h1 : starEach [a, .Tuple es j tp] X.env = (false, eval a X.env) :: starEach [.Tuple es j tp] X.env := by rfl) (h2 : starEach [.Tuple es j tp] X.env = (false, eval (.Tuple es j tp) X.env) :: starEach [] X.env := by rfl) (hpl : (backTo pos (starEach [.Tuple es j tp] X.env)).any (·.1) = false := by rfl) :
    ME Z X W (.Call (.Name "isinstance" p) [a, .Tuple es j tp] [] pos) (cOp1 (dIsi tab) ma) := me_isiT B.hK ha hc ht hl hg hm PyProof.Rows.Boot.«isinstance» h1 h2 hpl
omit B in
theorem c_ty {T : String} (hv : bootBuiltins n = some (.type T)) (hm : X.mg n = none) (hg : Gl X n := by rfl) (hn : n ≠ "__name__" := by decide) (hdb : (n == ("__debug__" : Str)) = false := by decide) : MCls X (.Name n pos) (.type T) := mcls_ty hg hm hv hn hdb
omit B in
theorem c_own {C : Addr} (hm : X.mg n = some (.ref C)) (hg : Gl X n := by rfl) (hdb : (n == ("__debug__" : Str)) = false := by decide) : MCls X (.Name n pos) (.ref C) := mcls_own hg hm hdb
theorem e_at {f : Str} {tab : List Tk} (ha : ME Z X W a ma) (ht : AtOk Z f tab) (hb : attributeBase a f X.env (eval a X.env) = eval a X.env := by rfl) : ME Z X W (.Attribute a f pos) (cOp1 (dAt tab f) ma) := me_at B.hK ha ht hb
theorem e_ixO {i : Nat} (hN : X.N[i]? = some n) (hv : Vis X.env.scope n) (hb : ME Z X W b mb) (hs : PlainIx b := by exact fun _ _ => rfl) (hd : (n == ("__debug__" : Str)) = false := by decide) (hcd : (n == ("__classdict__" : Str)) = false := by decide) : ME Z X W (.Subscript (.Name n p) b pos) (cIxO i mb) := me_ixO B.hK hN hv hb hs hd hcd
omit B in
theorem e_lenO {i : Nat} {p2 : Pos} (hm : X.mg "len" = none) (hN : X.N[i]? = some n) (hv : Vis X.env.scope n) (hg : Gl X "len" := by rfl) (hd : (n == ("__debug__" : Str)) = false := by decide) (hcd : (n == ("__classdict__" : Str)) = false := by decide)
    (h1 : starEach [.Name n p] X.env = (false, eval (.Name n p) X.env) :: starEach [] X.env := by rfl) (hpl : (backTo pos (starEach [] X.env)).any (·.1) = false := by rfl) : ME Z X W (.Call (.Name "len" p2) [.Name n p] [] pos) (cLenO i) := me_lenO hN hv hg hm PyProof.Rows.Boot.«len» hd hcd h1 hpl
theorem e_slice {p2 : Pos} {lo hi : Option Expr} {ml mh : MO} (ha : ME Z X W a ma) (hl : MPo Z X W lo ml) (hh : MPo Z X W hi mh) : ME Z X W (.Subscript a (.Slice lo hi none p2) pos) (cCut ma ml mh) := me_slice B.hK ha hl hh
end
section
variable {Z : Wd} {W : WX} {X : Cx} {k kc : Nat} {a b c x o : Expr} {ma mb mc : M D} {mt mu : M Bool} {pos p : Pos} {es : List Expr} {ps ks : List Str} {n : Str} {g : Sem} {m : M (List Ar)} {dds : List D} {na : Nat}
variable (B : Bd Z X W k)
include B
/-! statements -/
theorem s_set {i : Nat} {y : Str} {pos' : Pos} (hi : X.N[i]? = some y) (hx : Loc X.env.scope y) (h : ME Z X W a ma) (hs : swapsWith a (some (.Name y pos')) pos.line X.env = pure false := by rfl) (hf : X.fn y = true ∨ X.env.scope.names.lookup y = some .local := by first | exact .inl rfl | exact .inr rfl) : ML Z X W (.Assign [.Name y pos'] a pos) (sSet i ma) := ml_set B.nd hi hx h fun te p => ps_set B.nd hi hx p hs hf
theorem s_new {i : Nat} {y : Str} {pos' : Pos} {mn : M (List D)} (hi : X.N[i]? = some y) (hx : Loc X.env.scope y) (h : MN Z X W a mn) (hs : swapsWith a (some (.Name y pos')) pos.line X.env = pure false := by rfl) (hf : X.fn y = true ∨ X.env.scope.names.lookup y = some .local := by first | exact .inl rfl | exact .inr rfl) : ML Z X W (.Assign [.Name y pos'] a pos) (sNew i mn) := ml_new h fun te p => ps_set B.nd hi hx p hs hf
theorem s_append {i : Nat} {p1 p2 p3 : Pos} (hN : X.N[i]? = some n) (hv : Vis X.env.scope n) (ha : MA Z X W (a :: es) m) (hd : (n == ("__debug__" : Str)) = false := by decide) (hcd : (n == ("__classdict__" : Str)) = false := by decide)
    (hp : ∀ to ta, PE X (.Name n p1) to → PA X (a :: es) ta → PE X (.Call (.Attribute (.Name n p1) "append" p2) (a :: es) [] p3) (tBM X.K "list" rAppend to ta) := by exact fun _ _ h1 h2 => pe_bm PySem.F.plainAttrs_list PySem.F.slot_list_append PySem.F.type_list_append mt_append h1 h2)
    (hs : swapsWith (.Call (.Attribute (.Name n p1) "append" p2) (a :: es) [] p3) none pos.line X.env = pure false := by rfl) : ML Z X W (.Expr (.Call (.Attribute (.Name n p1) "append" p2) (a :: es) [] p3) pos) (sExpr (cMeth i mAppend m)) := ml_expr (me_append B.hK hN hv ha hd hcd hp) hs
omit B in
theorem s_put {i : Nat} {tp : Pos} (hN : X.N[i]? = some n) (hv : Vis X.env.scope n) (ha : ME Z X W a ma) (hb : ME Z X W b mb) (hd : (n == ("__debug__" : Str)) = false := by decide) (hcd : (n == ("__classdict__" : Str)) = false := by decide)
    (hg : ∀ v, assign (.Subscript (.Name n p) b tp) X.env v = (do
      let ov ← holding [v] (eval (.Name n p) X.env)
      let iv ← holding [v, ov] (eval b X.env)
      standAt tp
      holding [v, ov, iv] (setItem ov iv v)
      release [v, ov, iv] []) := by intro _; rfl)
    (h1 : swapsWithSole [.Subscript (.Name n p) b tp] a pos.line X.env = pure false := by rfl) (h2 : swappedStores [.Subscript (.Name n p) b tp] a X.env = pure none := by rfl) (h3 : (assignEach [.Subscript (.Name n p) b tp] X.env).map (·.2) = [assign (.Subscript (.Name n p) b tp) X.env] := by rfl) :
    ML Z X W (.Assign [.Subscript (.Name n p) b tp] a pos) (sPut i mb ma) := ml_put hN hv ha hb fun te ti pe pi => ps_asg pe (pg_sub (pe_var hN hv hd hcd) pi set_list hg) h1 h2 h3
theorem s_par {i j : Nat} {x y : Str} {px py pt : Pos} {kt k2 pt2} (hi : X.N[i]? = some x) (hj : X.N[j]? = some y) (ha : MA Z X W [a, b] m) (hij : i ≠ j := by decide)
    (hx : X.env.scope.names.lookup x = some .local := by rfl) (hy : X.env.scope.names.lookup y = some .local := by rfl)
    (hw : swappedStores [.Tuple [.Name x px, .Name y py] kt pt] (.Tuple [a, b] k2 pt2) X.env = pure (some [x, y]) := by rfl)
    (hs : swapsWithSole [.Tuple [.Name x px, .Name y py] kt pt] (.Tuple [a, b] k2 pt2) pos.line X.env = pure false := by rfl) :
    ML Z X W (.Assign [.Tuple [.Name x px, .Name y py] kt pt] (.Tuple [a, b] k2 pt2) pos) (sPar i j m) := ml_par B.calm B.nd hi hj hij hx hy ha hw hs
theorem s_for {tg it : Expr} {body : List Stmt} {src : M (List D)} {t : Tg} {bb : MS} {own : List Nat} (hi : MI Z X W tg it src) (hg : MG Z X tg t own) (hb : MLs Z X W body bb) (hs : ∀ x, foldedSetIterable it X.env x = pure x := by intro _; rfl) : ML Z X W (.For tg it body [] pos) (sFor src t bb) := ml_for hi hg hb B.ho B.calm hs
omit B in
theorem i_seq (B : Be Z X W k) {tg : Expr} (h : ME Z X W a ma) : MI Z X W tg a (iItems ma) := mi_seq B.hK h
omit B in
theorem i_range1 {tg : Expr} (hm : X.mg "range" = none) (h : MA Z X W [a] m) (hg : Gl X "range" := by rfl) (hs : starEach [a] X.env = [(false, eval a X.env)] := by rfl) : MI Z X W tg (.Call (.Name "range" p) [a] [] pos) (iRange1 m) := mi_range1 h hg hm hs
omit B in
theorem i_range2 {tg : Expr} (hm : X.mg "range" = none) (h : MA Z X W [a, b] m) (hg : Gl X "range" := by rfl) (hs : starEach [a, b] X.env = [(false, eval a X.env), (false, eval b X.env)] := by rfl) (hs2 : starEach [b] X.env = [(false, eval b X.env)] := by rfl) : MI Z X W tg (.Call (.Name "range" p) [a, b] [] pos) (iRange2 m) := mi_range2 h hg hm hs hs2
omit B in
theorem g_name (B : Be Z X W k) {i : Nat} {y : Str} (hi : X.N[i]? = some y) (hx : Loc X.env.scope y) (hf : X.fn y = true ∨ X.env.scope.names.lookup y = some .local := by first | exact .inl rfl | exact .inr rfl) : MG Z X (.Name y pos) (tName i) [i] := mg_name B.nd hi hx hf
omit B in
theorem g_tup (B : Be Z X W k) {gs : List Expr} {ts : List Tg} {own : List Nat} {kk} (h : MGs Z X gs ts own) (hn : (assignEach gs X.env).length = ts.length := by rfl) (hst : (assignEach gs X.env).findIdx? (·.1) = none := by rfl) : MG Z X (.Tuple gs kk pos) (tTuple ts) own := mg_tup B.hK B.calm h hn hst
theorem s_raise {cn : Nat} {sp : Sp} {fl : List D → Option (List (Str × D))} {pos' : Pos} (R : Rz X.prog X.w Z.K X.mg X.base kc (Z.CL cn) sp) (hf : FlOk sp (Z.CL cn) fl) (hk : kc + 1 ≤ k) (hm : X.mg n = some (.ref (Z.CL cn))) (ha : MA Z X W (a :: es) m) (hg : Gl X n := by rfl)
    (hdb : (n == ("__debug__" : Str)) = false := by decide) (he : starEach (a :: es) X.env = (false, eval a X.env) :: starEach es X.env := by rfl) (hpl : (backTo pos (starEach es X.env)).any (·.1) = false := by rfl) :
    ML Z X W (.Raise (some (.Call (.Name n p) (a :: es) [] pos)) none pos') (sRaise cn fl m) := ml_raise (by rw [B.hK]; exact R) hf (B.room.mono hk) B.tk B.calm hg hm ha hdb he hpl
theorem s_tryK {n m nm : Str} {cv : Value} {i j : Nat} {body : List Stmt} {q1 q2 q3 q4 q5 q6 : Pos} {tab : List (Nat × Bool)} {mb : MS} (hi : X.N[i]? = some n) (hj : X.N[j]? = some m) (hm : X.mg nm = some cv) (tt : XmOk Z cv tab)
    (hb : ∀ (W' : WX) (pn : List (Addr × Obj)) (xe : Value → Shared → Prop), Bd Z (X.tr pn xe) W' k → MLs Z (X.tr pn xe) W' body mb) (hij : i ≠ j := by decide) (ln : X.env.kindOf n = some .local := by rfl) (lm : Loc X.env.scope m := by first | exact .inl rfl | exact .inr rfl) (lm2 : X.fn m = true ∨ X.env.scope.names.lookup m = some .local := by first | exact .inl rfl | exact .inr rfl) (vn : Vis X.env.scope n := by first | exact .inl rfl | exact .inr (.inl rfl))
    (nn : Gl X nm := by rfl) (ndb : (nm == ("__debug__" : Str)) = false := by decide) (db : (n == ("__debug__" : Str)) = false := by decide) (cd : (n == ("__classdict__" : Str)) = false := by decide)
    (sw : ∀ (Y : Cx), Y.env = X.env → swapsWithSole [.Name m q3] (.Name n q4) q5.line Y.env = pure false := by intro _ h; rw [h]; rfl) (sw2 : ∀ (Y : Cx), Y.env = X.env → swappedStores [.Name m q3] (.Name n q4) Y.env = pure none := by intro _ h; rw [h]; rfl) :
    ML Z X W (.Try body [.ExceptHandler (some (.Name nm q1)) (some n) [.Assign [.Name m q3] (.Name n q4) q5] q2] [] [] q6) (sTryK tab i j mb) :=
  ml_tryK B.hK hij B.stk B.frm B.nd hi hj ln lm lm2 vn ⟨nn, ndb, .inl hm⟩ B.tk tt db cd (fun W' pn xe h1 h2 => hb W' pn xe (B.tr h1 h2)) sw sw2
end
end Md

/-! Md13: errors made as values. -/
namespace Md
open PySem PySem.Spec PyProof.Rows L2
section
variable {Z : Wd} {W : WX} {X : Cx} {σ : L2.St} {F H F' H' : Hp} {e : En} {a b c x : Expr} {ma mb mc : M D} {pos p : Pos} {es : List Expr} {m : M (List Ar)} {n : Str}
def tMk (t : L2.St → Hp → XK → Prop) : TE := fun σ H Q => t σ H fun cls d H' => ∀ v, H' v = none → Q (.ref v) (upd H' v (ExcO cls d v))
theorem pe_ofMk {t : L2.St → Hp → XK → Prop} (h : PMk X x t) : PE X x (tMk t) := by
  refine ⟨fun pins s σ H Q I hq => ?_⟩
  refine wpAny_mono (h pins s σ H _ I hq) (fun u s' made => ?_) fun _ _ z => z
  obtain ⟨v, oe, vs, sI, H1, cls, d, rfl, J, keep, new, at_, z, dat, _, nv, os, bare, _, q⟩ := made
  have un : Un (frs X.stack) [] H1 (upd H1 v (ExcO cls d v)) sI.heap s'.heap := Un.laidN keep new nv
  have J2 := J.call' (s' := s') (ch := []) os un (J.hok.laidN keep nv (excO_ok at_ z dat)) bare (fun b hb => by cases hb)
  exact ⟨.ref v, _, J2, rfl, q v nv⟩
/-- C(e, ..) as a value -/
def mkR (c : Nat) (fl : List D → Option (List (Str × D))) (as : List Ar) (e : En) : R D := match (datas as).bind fl with
  | some fs => .ok (.exc c fs) e
  | none => .no
def cMk (c : Nat) (fl : List D → Option (List (Str × D))) (m : M (List Ar)) : M D := fun e => (m e).bind (mkR c fl)
theorem me_mk {k c : Nat} {nm : Str} {sp : Sp} {fl : List D → Option (List (Str × D))} (R : Rz X.prog X.w X.K X.mg X.base k (Z.CL c) sp) (hf : FlOk sp (Z.CL c) fl) (hr : Room (k + 1) X.A) (tk : Takes X W) (hg : Gl X nm) (hm : X.mg nm = some (.ref (Z.CL c))) (ha : MA Z X W (a :: es) m)
    (hdb : (nm == ("__debug__" : Str)) = false := by decide) (he : starEach (a :: es) X.env = (false, eval a X.env) :: starEach es X.env := by rfl) (hpl : (backTo pos (starEach es X.env)).any (·.1) = false := by rfl) :
    ME Z X W (.Call (.Name nm p) (a :: es) [] pos) (cMk c fl m) := by
  obtain ⟨fI, fd, ps, h1, h2, h3, h4⟩ := R.ex
  obtain ⟨ta, pa, ea, _⟩ := ha
  refine ⟨_, pe_ofMk (pmk_oex (CX := L2.CX X.prog X.w) (dvs := []) R.T h1 h2 h3 hr h4 .nil (passes_call tk fun _ _ _ _ z => z.elim) hg hm pa hdb he hpl), fun σ F H e w Q hp => ?_⟩
  refine ea.bind w hp fun as vs F1 H1 e1 s1 ra hp1 => ?_
  unfold mkR at hp1
  cases q : datas as with
  | none => rw [q] at hp1; exact hp1.elim
  | some ds =>
    rw [q] at hp1
    simp only [Option.bind_some] at hp1
    cases q2 : fl ds with
    | none => rw [q2] at hp1; exact hp1.elim
    | some fs =>
      rw [q2] at hp1
      have rs := datas_ok ra q
      have fin : ∀ dx fvs, H1 dx = none → RDf Z F1 fvs fs → ∀ v, (upd H1 dx (.xd fvs)) v = none → Q (.ref v) (upd (upd H1 dx (.xd fvs)) v (ExcO (.ref (Z.CL c)) (some dx) v)) := fun dx fvs n rf v hv => by
        have g := Gr.new1 (o := .xd fvs) s1.wf.sub n
        have g2 := Gr.new1 (o := ExcO (.ref (Z.CL c)) (some dx) v) g.sub hv
        have ne : dx ≠ v := fun z => by rw [← z, upd_same] at hv; cases hv
        exact Post.gr s1.wf hp1 (g.trans g2) _ (.exc upd_same (by rw [upd_ne ne, upd_same]) (rf.mono (g.ext.trans g2.ext)))
      exact ⟨by rw [rs.length]; exact hf.1 ds fs q2, fun a n => hf.2 Z F1 H1 a vs ds fs (fun cls d H' => ∀ v, H' v = none → Q (.ref v) (upd H' v (ExcO cls d v))) rs q2 n fin⟩
/-- C(), C without an __init__ of its own -/
theorem pmk_own0 {C : Addr} {bmB : List Value} {B newId initId : String} {nm : Str} (Fb : ExcBaseFacts B newId initId bmB) (q : PySem.W.excIn X.K C bmB newId = true) (gC : X.mg nm = some (.ref C)) (kC : PySem.W.keepIn X.K (.ref C) = true) (r : Raises X (.ref C)) (hg : Gl X nm)
    (hdb : (nm == ("__debug__" : Str)) = false := by decide) : PMk X (.Call (.Name nm p) [] [] pos) (fun _ H Q => Q (.ref C) none H) := by
  intro pins s σ H Q I h
  refine wpAny_Call_Name_kw (ld_glob I hg gC (PySem.W.callWith_K0 I.kIn kC ?_) hdb)
  obtain ⟨bm, N, nm', qn, bs, hdct, sn, sub, ab, col, dd, k0, k1, k2, k3, k5, mN, hC, hN, hni, T⟩ := exc_obj I.kIn q
  refine wpAny_call_exc_subT (rest := []) Fb T hC hN hni (fun h' e hm => ?_) (by show 0 ≤ sizeLine; omega)
  exact mk_of I hm r h (I.hok.gone hm.new)
def cMk0 (c : Nat) : M D := fun e => .ok (.exc c []) e
theorem me_mk0 {c : Nat} {nm : Str} {bmB : List Value} {B newId initId : String} (Fb : ExcBaseFacts B newId initId bmB) (q : PySem.W.excIn X.K (Z.CL c) bmB newId = true) (gC : X.mg nm = some (.ref (Z.CL c))) (kC : PySem.W.keepIn X.K (.ref (Z.CL c)) = true) (r1 : PySem.W.subIn X.K (.ref (Z.CL c)) (.type "BaseException") = some true) (r2 : PySem.W.typeIn X.K (.ref (Z.CL c)) = some (.type "type")) (hg : Gl X nm)
    (hdb : (nm == ("__debug__" : Str)) = false := by decide) : ME Z X W (.Call (.Name nm p) [] [] pos) (cMk0 c) := by
  refine ⟨_, pe_ofMk (pmk_own0 Fb q gC kC (raises_own r1 r2) hg hdb), fun σ F H e w Q hp v hv => ?_⟩
  exact Post.gr w hp (Gr.new1 w.sub hv) _ (.exc0 upd_same)
end
section
variable {Z : Wd} {W : WX} {X : Cx} {k kc : Nat} {a : Expr} {pos p : Pos} {es : List Expr} {n : Str} {m : M (List Ar)}
theorem e_mk (B : Be Z X W k) {cn : Nat} {sp : Sp} {fl : List D → Option (List (Str × D))} (R : Rz X.prog X.w Z.K X.mg X.base kc (Z.CL cn) sp) (hf : FlOk sp (Z.CL cn) fl) (hk : kc + 1 ≤ k) (hm : X.mg n = some (.ref (Z.CL cn))) (ha : MA Z X W (a :: es) m) (hg : Gl X n := by rfl)
    (hdb : (n == ("__debug__" : Str)) = false := by decide) (he : starEach (a :: es) X.env = (false, eval a X.env) :: starEach es X.env := by rfl) (hpl : (backTo pos (starEach es X.env)).any (·.1) = false := by rfl) :
    ME Z X W (.Call (.Name n p) (a :: es) [] pos) (cMk cn fl m) := me_mk (by rw [B.hK]; exact R) hf (B.room.mono hk) B.tk hg hm ha hdb he hpl
/-- a class without an __init__ of its own -/
structure Rz0 (Z : Wd) (c : Nat) : Prop where
  q : PySem.W.excIn Z.K (Z.CL c) [.type "ValueError", .type "Exception", .type "BaseException", .type "object"] "ValueError.__new__" = true
  k : PySem.W.keepIn Z.K (.ref (Z.CL c)) = true
  s : PySem.W.subIn Z.K (.ref (Z.CL c)) (.type "BaseException") = some true
  t : PySem.W.typeIn Z.K (.ref (Z.CL c)) = some (.type "type")
theorem e_mk0 (B : Be Z X W k) {cn : Nat} (R : Rz0 Z cn) (hm : X.mg n = some (.ref (Z.CL cn))) (hg : Gl X n := by rfl) (hdb : (n == ("__debug__" : Str)) = false := by decide) : ME Z X W (.Call (.Name n p) [] [] pos) (cMk0 cn) :=
  me_mk0 PySem.F.excBase_ValueError (by rw [B.hK]; exact R.q) hm (by rw [B.hK]; exact R.k) (by rw [B.hK]; exact R.s) (by rw [B.hK]; exact R.t) hg hdb
theorem v_mk {c : Nat} {fl : List D → Option (List (Str × D))} {e : En} : cMk c fl m e = (m e).bind (mkR c fl) := rfl
theorem v_mk1 {c : Nat} {f : Str} {x : D} {e : En} : mkR c (fl1 f) [.d x] e = .ok (.exc c [(f, x)]) e := rfl
theorem v_mk2 {c : Nat} {f g : Str} {x y : D} {e : En} : mkR c (fl2 f g) [.d x, .d y] e = .ok (.exc c [(g, y), (f, x)]) e := rfl
theorem v_mk0 {c : Nat} {e : En} : cMk0 c e = .ok (.exc c []) e := rfl
end
end Md

/-! Md14: defs that build a list, change it and give it away; constants of the module; more targets. -/
namespace Md
open PySem PySem.Spec PyProof.Rows L2
section
variable {Z : Wd} {W : WX} {X : Cx} {σ : L2.St} {F H F' H' : Hp} {e : En} {a b c x : Expr} {ma mb mc : M D} {pos p : Pos} {es : List Expr} {n : Str}
def PostO (Z : Wd) (W : WX) (i : Nat) (σ : L2.St) (F H : Hp) (e : En) (o : O) (N : Ends) : Prop := match o with
  | .nx e' => (match e'[i]? with
    | some (.own (.lst ds)) => ∀ σ' F' H' q vs, Sq Z σ F H e σ' F' H' e' → σ'[i]? = some (some (.ref q)) → F' q = none → H' q = some (.lst vs) → RDs Z F' vs ds → N.rt (.ref q) H'
    | _ => False)
  | .ex c fs e' => ∀ d' σ' F' H', Sq Z σ F H e σ' F' H' e' → ExF Z F' d' fs → W (.ref (Z.CL c)) d' σ' H'
  | _ => False
theorem PostO.rebase {i : Nat} {σ1 : L2.St} {F1 H1 : Hp} {e1 : En} {o : O} {N : Ends} (s : Sq Z σ F H e σ1 F1 H1 e1) (h : PostO Z W i σ F H e o N) : PostO Z W i σ1 F1 H1 e1 o N := by
  cases o with
  | nx e' =>
    unfold PostO at h ⊢
    dsimp only at h ⊢
    split
    · rename_i ds he
      rw [he] at h
      exact fun σ' F' H' q vs s' => h σ' F' H' q vs (s.trans s')
    · rename_i hne
      split at h
      · rename_i ds he
        exact absurd he (hne ds)
      · exact h
  | ex c fs e' => exact fun d' σ' F' H' s' => h d' σ' F' H' (s.trans s')
  | no => exact h
  | rt d e' => exact h
  | bk e' => exact h
  | ct e' => exact h
/-- statements, then: return the list of slot i -/
def MLO (Z : Wd) (X : Cx) (W : WX) (i : Nat) (sts : List Stmt) (m : MS) : Prop := ∃ ts, PSs X sts ts ∧ ∀ (σ : L2.St) (F H : Hp) (e : En), WF Z F H σ e → ∀ N : Ends, PostO Z W i σ F H e (m e) N → ts N σ H
theorem mlo_nil {i : Nat} {q : Pos} (hN : X.N[i]? = some n) (hv : Vis X.env.scope n) (hd : (n == ("__debug__" : Str)) = false := by decide) (hcd : (n == ("__classdict__" : Str)) = false := by decide) : MLO Z X W i [.Return (some (.Name n p)) q] sNil := by
  refine ⟨_, pss_one (ps_ret (pe_var hN hv hd hcd)), fun σ F H e w N hp => ?_⟩
  unfold PostO sNil at hp
  dsimp only at hp
  split at hp
  · rename_i ds he
    obtain ⟨a, q, h1, h2, h3, h4⟩ := w.own he rfl
    cases h1
    obtain ⟨vs, h5, h6⟩ := h4
    exact ⟨_, h2, hp σ F H a vs (Sq.refl w) h2 h3 h5 h6⟩
  · exact hp.elim
theorem mlo_cons {i : Nat} {st : Stmt} {rest : List Stmt} {m1 m2 : MS} (h1 : ML Z X W st m1) (h2 : MLO Z X W i rest m2) : MLO Z X W i (st :: rest) (sSeq m1 m2) := by
  obtain ⟨t, p, v⟩ := h1
  obtain ⟨u, q, y⟩ := h2
  refine ⟨_, pss_cons p q, fun σ F H e w N h => ?_⟩
  refine v σ F H e w _ ?_
  unfold sSeq O.seq at h
  cases ho : m1 e with
  | no => rw [ho] at h; exact h.elim
  | nx e1 => rw [ho] at h; exact fun σ1 F1 H1 s => y σ1 F1 H1 e1 s.wf N (PostO.rebase s h)
  | rt d e1 => rw [ho] at h; exact h.elim
  | bk e1 => rw [ho] at h; exact h.elim
  | ct e1 => rw [ho] at h; exact h.elim
  | ex c fs e1 => rw [ho] at h; exact h
def runFnO (m i : Nat) (body : MS) : SemN := fun sl => match body (sl ++ List.replicate m .unk) with
  | .nx e => (match e[i]? with
    | some (.own (.lst ds)) => .ok ds (outs sl e)
    | _ => .no)
  | .ex c fs e => .ex c fs (outs sl e)
  | _ => .no
theorem fngO_sound {P : Program} {w : World} {K : PySem.W.Frag} {mg : Str → Option Value} {base : Heap} {x qual : Str} {params : Arguments} {bd : List Stmt} {scope : Scope} {dvs : List V} {kws : List (Str × V)} {f : Addr} {fd : FuncData} {N ps : List Str} {k m i : Nat} {body : MS} (Fn : FunD K x qual params bd scope dvs kws f fd) (S : FnScope N ps scope) (hm : N.length = ps.length + m)
    (hb : ∀ (cdv : Value) (A : Around) (outer : List Env) (s : Shared) (H : Hp) (E : XK), Room k (A.deeper (envOfC qual scope s.heap.objs.size f cdv)) → A.guards = some [] →
      MLO Z (cxOf (L2.CX P w) P w K mg base N qual scope f cdv A outer s H E) (fun c d _ H' => E c d H') i bd body) :
    FnG P w K mg base (k + 1) f fd ps (spN Z ps.length (runFnO m i body)) := by
  have len : ∀ vs H Q E, spN Z ps.length (runFnO m i body) vs H Q E → vs.length = ps.length := fun vs H Q E ⟨F, sl, h1, _, h3, _⟩ => by
    have := h3.len
    rw [List.length_map] at this
    omega
  obtain ⟨oc, od, dV, kV, doc, pm, an, cdv, ct, osl, rfl, lk, hcd, _, _⟩ := Fn.ex
  refine ⟨len, fun A outer s H args us vs Q E hr hg e0 hbd r h => LamX.run_ofS lk hcd S hr e0 hbd r (len _ _ _ _ h) fun hr' => ?_⟩
  obtain ⟨F, sl, h1, h2, h3, h4⟩ := h
  have hl : vs.length = sl.length := by
    have := h3.len
    rw [List.length_map] at this
    exact this
  obtain ⟨ts, pd, ev⟩ := hb cdv A outer s H E hr' hg
  refine ⟨ts, pd, ?_⟩
  have es : L2.start N vs = vs.map some ++ List.replicate m none := by
    unfold L2.start
    rw [show N.length - vs.length = m by omega]
  rw [es]
  refine ev _ F H _ (h3.start (m := m)) _ ?_
  unfold runFnO at h4
  cases ho : body (sl ++ List.replicate m .unk) with
  | no => rw [ho] at h4; exact h4.elim
  | rt d e' => rw [ho] at h4; exact h4.elim
  | bk e' => rw [ho] at h4; exact h4.elim
  | ct e' => rw [ho] at h4; exact h4.elim
  | ex c fs e' => rw [ho] at h4; exact fun d' σ' F' H' s' xf => h4 d' F' H' (s'.finish hl h2 h3) xf
  | nx e' =>
    rw [ho] at h4
    unfold PostO
    dsimp only at h4 ⊢
    split
    · rename_i ds he
      rw [he] at h4
      intro σ' F' H' q ws s' hq n1 n2 rs
      refine h4 F' H' (s'.finish hl h2 h3) q ws ?_ n1 n2 rs
      rcases s'.own q ⟨i, _, he, rfl, hq⟩ with ow | nn
      · exfalso
        obtain ⟨j, sj, g1, g2, g3⟩ := ow
        have g4 := ext_slot g1 g2
        have ga := List.all_eq_true.mp h2 _ (List.mem_of_getElem? g4)
        cases sj with
        | unk => cases g2
        | dat d => cases g2
        | own o => cases ga
        | io o =>
          obtain ⟨⟨q', e1⟩, e2⟩ := s'.io j o g1
          have ij := s'.wf.sep i j q _ _ he e1 rfl rfl hq (e2.trans g3)
          subst ij
          rw [he] at e1
          cases e1
      · exact nn
    · rename_i hne
      split at h4
      · rename_i ds he
        exact absurd he (hne ds)
      · exact h4.elim
/-! constants of the module -/
theorem me_gint {i : Int} {t : Tok} (hg : Gl X n) (hm : X.mg n = some (.int i t)) (hd : (n == ("__debug__" : Str)) = false := by decide) : ME Z X W (.Name n pos) (cK (.int i)) :=
  ⟨_, pe_glob hg hm (v := .int i) ⟨t, rfl⟩ hd, fun σ F H e w Q h => Post.here w h _ (.int i)⟩
theorem me_gstr {i : Str} {t : Tok} (hg : Gl X n) (hm : X.mg n = some (.str i t)) (hd : (n == ("__debug__" : Str)) = false := by decide) : ME Z X W (.Name n pos) (cK (.str i)) :=
  ⟨_, pe_glob hg hm (v := .str i) ⟨t, rfl⟩ hd, fun σ F H e w Q h => Post.here w h _ (.str i)⟩
/-! a value taken apart: (x, y) = v, v a tuple (or a list) -/
def sUnp (t : Tg) (m : M D) : MS := fun e => (m e).toO fun d e1 => match t d e1 with
  | some e2 => .nx e2
  | none => .no
theorem ml_unp {tg : Expr} {t : Tg} {own : List Nat} (h : ME Z X W a ma) (hg : MG Z X tg t own) (hs : swapsWithSole [tg] a pos.line X.env = pure false := by rfl) (hw : swappedStores [tg] a X.env = pure none := by rfl) (h1 : (assignEach [tg] X.env).map (·.2) = [assign tg X.env] := by rfl) :
    ML Z X W (.Assign [tg] a pos) (sUnp t ma) := by
  obtain ⟨te, p, ev⟩ := h
  obtain ⟨g, pg, vg⟩ := hg
  refine ⟨_, ps_asg p pg hs hw h1, fun σ F H e w N hp => ?_⟩
  refine ev.bindS w hp fun d v F1 H1 e1 s rd hp1 => ?_
  cases ht : t d e1 with
  | none => rw [ht] at hp1; exact hp1.elim
  | some e2 =>
    rw [ht] at hp1
    exact vg.2 σ F1 H1 e1 e2 v d s.wf rd ht _ fun σ' F' H' s' _ => hp1 σ' F' H' s'
/-! x += e, on data -/
def PipD (Z : Wd) (r : TIp) (op : D → D → Option D) : Prop := ∀ (F H : Hp) (x y : V) (dx dy dz : D), Ex F H → RD Z F x dx → RD Z F y dy → op dx dy = some dz → ∀ Q : VK, (∀ v F' H', Gr F H F' H' → RD Z F' v dz → Q v H') → r x y H Q
def sAug (i : Nat) (op : D → D → Option D) (m : M D) : MS := fun e => match e[i]? with
  | some (.dat x) => (m e).toO fun y e1 => (match op x y with
    | some z => (match setE i (.dat z) e1 with
      | some e2 => .nx e2
      | none => .no)
    | none => .no)
  | _ => .no
theorem ml_aug {i : Nat} {r : TIp} {op : D → D → Option D} {o : Operator} {pos' : Pos} (hN : X.N.Nodup) (hi : X.N[i]? = some n) (hx : Loc X.env.scope n) (ho : PIp X o r) (hr : PipD Z r op) (h : ME Z X W a ma) (hf : X.fn n = true ∨ X.env.scope.names.lookup n = some .local := by first | exact .inl rfl | exact .inr rfl) :
    ML Z X W (.AugAssign (.Name n pos') o a pos) (sAug i op ma) := by
  obtain ⟨te, p, ev⟩ := h
  refine ⟨_, ps_aug hN hi hx p ho hf, fun σ F H e w N hp => ?_⟩
  unfold sAug at hp
  split at hp
  · rename_i x hs
    obtain ⟨o1, h1, v, h2, h3⟩ := w.slotAt hs
    subst h2
    refine ⟨v, h1, ev.bindS w hp fun dy y F1 H1 e1 s ry hp1 => ?_⟩
    cases q : op x dy with
    | none => rw [q] at hp1; exact hp1.elim
    | some dz =>
      rw [q] at hp1
      dsimp only at hp1
      refine hr F1 H1 v y x dy dz s.wf.sub (h3.mono s.ext) ry q _ fun z F2 H2 g rz => ?_
      have w2 := s.wf.grow g
      cases hs2 : setE i (.dat dz) e1 with
      | none => rw [hs2] at hp1; exact hp1.elim
      | some e2 =>
        rw [hs2] at hp1
        exact hp1 _ _ _ ((g.sq s.wf).trans (Sq.setD w2 hs2 rz))
  · exact hp.elim
theorem e_gint {i : Int} (hm : ∃ t, X.mg n = some (.int i t)) (hg : Gl X n := by rfl) (hd : (n == ("__debug__" : Str)) = false := by decide) : ME Z X W (.Name n pos) (cK (.int i)) := by
  obtain ⟨t, hm⟩ := hm
  exact me_gint hg hm hd
theorem e_gstr {i : Str} (hm : ∃ t, X.mg n = some (.str i t)) (hg : Gl X n := by rfl) (hd : (n == ("__debug__" : Str)) = false := by decide) : ME Z X W (.Name n pos) (cK (.str i)) := by
  obtain ⟨t, hm⟩ := hm
  exact me_gstr hg hm hd
def dIAdd : D → D → Option D
  | .int i, .int j => some (.int (i + j))
  | .str i, .str j => if i.length + j.length ≤ sizeLine then some (.str (i ++ j)) else none
  | _, _ => none
def dISub : D → D → Option D
  | .int i, .int j => some (.int (i - j))
  | _, _ => none
theorem pip_add : PipD Z (fun x y H Q => (∃ i j, x = .int i ∧ y = .int j ∧ Q (.int (i + j)) H) ∨ ∃ i j, x = .str i ∧ y = .str j ∧ i.length + j.length ≤ sizeLine ∧ Q (.str (i ++ j)) H) dIAdd := fun F H x y dx dy dz e r1 r2 h Q q => by
  cases r1 with
  | int i => cases r2 with
    | int j => cases h; exact .inl ⟨i, j, rfl, rfl, q _ F H (Gr.refl e) (.int _)⟩
    | _ => cases h
  | str i => cases r2 with
    | str j =>
      simp only [dIAdd] at h
      split at h
      · rename_i hl; cases h; exact .inr ⟨i, j, rfl, rfl, hl, q _ F H (Gr.refl e) (.str _)⟩
      · cases h
    | _ => cases h
  | _ => cases h
theorem pip_sub : PipD Z (rI0 fun i j => .int (i - j)) dISub := fun F H x y dx dy dz e r1 r2 h Q q => by
  cases r1 with
  | int i => cases r2 with
    | int j => cases h; exact ⟨i, j, rfl, rfl, q _ F H (Gr.refl e) (.int _)⟩
    | _ => cases h
  | _ => cases h
section
variable {k : Nat} (B : Bd Z X W k)
include B
theorem s_iadd {i : Nat} {pos' : Pos} (hi : X.N[i]? = some n) (hx : Loc X.env.scope n) (h : ME Z X W a ma) (hf : X.fn n = true ∨ X.env.scope.names.lookup n = some .local := by first | exact .inl rfl | exact .inr rfl) : ML Z X W (.AugAssign (.Name n pos') .Add a pos) (sAug i dIAdd ma) :=
  ml_aug B.nd hi hx (OpR.or iop_add iop_add_str) pip_add h hf
theorem s_isub {i : Nat} {pos' : Pos} (hi : X.N[i]? = some n) (hx : Loc X.env.scope n) (h : ME Z X W a ma) (hf : X.fn n = true ∨ X.env.scope.names.lookup n = some .local := by first | exact .inl rfl | exact .inr rfl) : ML Z X W (.AugAssign (.Name n pos') .Sub a pos) (sAug i dISub ma) :=
  ml_aug B.nd hi hx iop_sub pip_sub h hf
end
end
end Md

/-! Md15: in, not in; zip, enumerate. -/
namespace Md
open PySem PySem.Spec PyProof.Rows L2
/-! ### in -/
def pyItems : D → Option (List PyData)
  | .lst ds => pyAll ds
  | .tup ds => pyAll ds
  | _ => none
def dInB (x y : D) : Option Bool := x.py.bind fun p => (pyItems y).bind fun ps => if SeqAt.shaped p = true ∧ SeqAt.shaped (.list ps) = true then some (ps.any fun z => PyData.eqv z p) else none
def dIn (x y : D) : Option D := (dInB x y).map D.bl
def dNotIn (x y : D) : Option D := (dInB x y).map fun b => D.bl (!b)
section
variable {Z : Wd} {X : Cx}
def rInT (K : PySem.W.Frag) : R2 := fun x y H Q => ∃ d ds, Dp K H x d ∧ Dp K H y (.tuple ds) ∧ SeqAt.shaped d = true ∧ SeqAt.shaped (.tuple ds) = true ∧ Q (.bl (ds.any fun z => PyData.eqv z d)) H
def rNotInT (K : PySem.W.Frag) : R2 := fun x y H Q => ∃ d ds, Dp K H x d ∧ Dp K H y (.tuple ds) ∧ SeqAt.shaped d = true ∧ SeqAt.shaped (.tuple ds) = true ∧ Q (.bl (!ds.any fun z => PyData.eqv z d)) H
theorem op_inT (hu : X.A.units + 65 < cLine) : OpR X (compareOp .In) (rInT X.K) := by
  intro pins s σ H x y v u Q I rx ry h
  obtain ⟨d, ds, hd, he, sd, se, q⟩ := h
  obtain ⟨as, r1⟩ := Dp.reads I d x v hd rx
  obtain ⟨bs, r2⟩ := Dp.reads I (.tuple ds) y u he ry
  exact SeqAt.in_tuple_reads r2 r1 (SeqAt.canLay_of_shaped se) (SeqAt.canLay_of_shaped sd) (room_in_shaped sd hu) ⟨.bl _, H, I, rfl, q⟩
theorem op_notInT (hu : X.A.units + 65 < cLine) : OpR X (compareOp .NotIn) (rNotInT X.K) := by
  intro pins s σ H x y v u Q I rx ry h
  obtain ⟨d, ds, hd, he, sd, se, q⟩ := h
  obtain ⟨as, r1⟩ := Dp.reads I d x v hd rx
  obtain ⟨bs, r2⟩ := Dp.reads I (.tuple ds) y u he ry
  exact SeqAt.notIn_tuple_reads r2 r1 (SeqAt.canLay_of_shaped se) (SeqAt.canLay_of_shaped sd) (room_in_shaped sd hu) ⟨.bl _, H, I, rfl, q⟩
theorem shp_lt {ps : List PyData} (h : SeqAt.shaped (.list ps) = true) : SeqAt.shaped (.tuple ps) = true := by
  unfold SeqAt.shaped at h ⊢
  simp only [PyData.canLay0, PyData.depth] at h ⊢
  exact h
theorem dInB_some {x y : D} {b : Bool} (h : dInB x y = some b) : ∃ p ps, x.py = some p ∧ pyItems y = some ps ∧ SeqAt.shaped p = true ∧ SeqAt.shaped (.list ps) = true ∧ (ps.any fun z => PyData.eqv z p) = b := by
  unfold dInB at h
  cases q1 : x.py with
  | none => rw [q1] at h; cases h
  | some p =>
    cases q2 : pyItems y with
    | none => rw [q1, q2] at h; cases h
    | some ps =>
      rw [q1, q2, Option.bind_some, Option.bind_some] at h
      split at h
      · rename_i hc; cases h; exact ⟨p, ps, rfl, rfl, hc.1, hc.2, rfl⟩
      · cases h
theorem o2_in : Op2 Z (fun x y H Q => rInD Z.K x y H Q ∨ rInT Z.K x y H Q) dIn := fun F H x y dx dy dz e r1 r2 h Q q => by
  unfold dIn at h
  cases hb : dInB dx dy with
  | none => rw [hb] at h; cases h
  | some b =>
    rw [hb] at h
    cases h
    obtain ⟨p, ps, h1, h2, h3, h4, rfl⟩ := dInB_some hb
    cases r2 with
    | lst a r => exact .inl ⟨p, ps, r1.dp e h1, .lst (Or.inl (Or.inl (e _ _ a))) (r.dp e h2), h3, h4, q _ F H (Gr.refl e) (.bl _)⟩
    | tup a r => exact .inr ⟨p, ps, r1.dp e h1, .tup (ex_t e a) (r.dp e h2), h3, shp_lt h4, q _ F H (Gr.refl e) (.bl _)⟩
    | _ => cases h2
theorem o2_notin : Op2 Z (fun x y H Q => rNotInD Z.K x y H Q ∨ rNotInT Z.K x y H Q) dNotIn := fun F H x y dx dy dz e r1 r2 h Q q => by
  unfold dNotIn at h
  cases hb : dInB dx dy with
  | none => rw [hb] at h; cases h
  | some b =>
    rw [hb] at h
    cases h
    obtain ⟨p, ps, h1, h2, h3, h4, rfl⟩ := dInB_some hb
    cases r2 with
    | lst a r => exact .inl ⟨p, ps, r1.dp e h1, .lst (Or.inl (Or.inl (e _ _ a))) (r.dp e h2), h3, h4, q _ F H (Gr.refl e) (.bl _)⟩
    | tup a r => exact .inr ⟨p, ps, r1.dp e h1, .tup (ex_t e a) (r.dp e h2), h3, shp_lt h4, q _ F H (Gr.refl e) (.bl _)⟩
    | _ => cases h2
variable {W : WX} {a b : Expr} {ma mb : M D} {pos : Pos} {k : Nat} (B : Be Z X W k)
include B
theorem e_in (ha : ME Z X W a ma) (hb : ME Z X W b mb) (hm : behindInMarks .In b = false := by rfl) : ME Z X W (.Compare a [.In] [b] pos) (cOp2 dIn ma mb) := me_cmp (by rw [← B.hK]; exact (op_inD (by have := B.room.un; omega)).or (op_inT (by have := B.room.un; omega))) o2_in hm ha hb
theorem e_notin (ha : ME Z X W a ma) (hb : ME Z X W b mb) (hm : behindInMarks .NotIn b = false := by rfl) : ME Z X W (.Compare a [.NotIn] [b] pos) (cOp2 dNotIn ma mb) := me_cmp (by rw [← B.hK]; exact (op_notInD (by have := B.room.un; omega)).or (op_notInT (by have := B.room.un; omega))) o2_notin hm ha hb
theorem t_in (ha : ME Z X W a ma) (hb : ME Z X W b mb) (hm : behindInMarks .In b = false := by rfl) : MT Z X W (.Compare a [.In] [b] pos) (cBool (cOp2 dIn ma mb)) := mt_cmp (by rw [← B.hK]; exact (op_inD (by have := B.room.un; omega)).or (op_inT (by have := B.room.un; omega))) o2_in hm ha hb
theorem t_notin (ha : ME Z X W a ma) (hb : ME Z X W b mb) (hm : behindInMarks .NotIn b = false := by rfl) : MT Z X W (.Compare a [.NotIn] [b] pos) (cBool (cOp2 dNotIn ma mb)) := mt_cmp (by rw [← B.hK]; exact (op_notInD (by have := B.room.un; omega)).or (op_notInT (by have := B.room.un; omega))) o2_notin hm ha hb
end
/-! ### zip, enumerate -/
section
variable {Z : Wd} {X : Cx} {W : WX} {σ : L2.St} {F H : Hp} {e : En}
def zipD : List D → List D → List D
  | x :: xs, y :: ys => .tup [x, y] :: zipD xs ys
  | _, _ => []
theorem zipD_len : ∀ (xs ys : List D), (zipD xs ys).length = min xs.length ys.length
  | [], _ => by simp [zipD]
  | _ :: _, [] => by simp [zipD]
  | x :: xs, y :: ys => by rw [zipD, List.length_cons, zipD_len xs ys, List.length_cons, List.length_cons]; omega
theorem zipD_get : ∀ (xs ys : List D) (i : Nat) (x y : D), xs[i]? = some x → ys[i]? = some y → (zipD xs ys)[i]? = some (.tup [x, y])
  | [], _, _, _, _, h, _ => by simp at h
  | _ :: _, [], _, _, _, _, h => by simp at h
  | x :: xs, y :: ys, 0, a, b, h1, h2 => by simp at h1 h2; subst h1 h2; rfl
  | x :: xs, y :: ys, i + 1, a, b, h1, h2 => by
    have := zipD_get xs ys i a b (by simpa using h1) (by simpa using h2)
    simpa [zipD] using this
def enD (ds : List D) : List D := (List.range ds.length).map fun i => .tup [.int (i : Nat), ds.getD i .non]
theorem iter_pair {J : It} {n : Nat} {G : Hp → Prop} {xs ys : Nat → Option V} {ds : List D} (w : Walk J n G (YPair xs ys)) (hn : n = ds.length) (hG : ∀ F' H', Ex F F' → Ex F' H' → G H')
    (hd : ∀ i x y, xs i = some x → ys i = some y → ∃ dx dy, ds[i]? = some (.tup [dx, dy]) ∧ RD Z F x dx ∧ RD Z F y dy) : IterOk Z F H J ds := by
  subst hn
  refine ⟨G, _, w, hG, fun i H1 v H1' F1 x1 x2 y => ?_⟩
  obtain ⟨T, x, y', rfl, hT, rfl, h1, h2⟩ := y
  obtain ⟨dx, dy, h3, r1, r2⟩ := hd i x y' h1 h2
  refine ⟨_, upd F1 T (.tup [x, y']), h3, Gr.new1 x2 hT, .tup (Or.inl (Or.inl upd_same)) (RDs.mono (Ex.new (fr_of x2 hT)) (.cons (r1.mono x1) (.cons (r2.mono x1) .nil)))⟩
theorem ex_trl {K : PySem.W.Frag} {a : Addr} {xs : List V} {F' H' : Hp} (x : Ex F F') (y : Ex F' H') (h : SqL K F a xs) : SqL K H' a xs := ex_l (x.trans y) h
theorem iter_zipL {a b : Addr} {vs ws : List V} {ds es : List D} (h1 : SqL Z.K F a vs) (h2 : SqL Z.K F b ws) (r1 : RDs Z F vs ds) (r2 : RDs Z F ws es) : IterOk Z F H (Itz Z.K a b) (zipD ds es) :=
  iter_pair (walk_zip (xs := vs) (ys := ws) rfl) (by rw [zipD_len, r1.length, r2.length]) (fun F' H' x y => ⟨ex_l (x.trans y) h1, ex_l (x.trans y) h2⟩) fun i x y q1 q2 => by
    obtain ⟨dx, e1, s1⟩ := r1.get q1
    obtain ⟨dy, e2, s2⟩ := r2.get q2
    exact ⟨dx, dy, zipD_get _ _ _ _ _ e1 e2, s1, s2⟩
theorem walk_zipT {K : PySem.W.Frag} {a b : Addr} {xs ys : List V} : Walk (RZ.ItzT K a b) (min xs.length ys.length) (fun H => SqT K H a xs ∧ SqT K H b ys) (YPair (fun i => xs[i]?) (fun i => ys[i]?)) := by
  refine ⟨fun i _ hi q => ?_, fun _ q => ⟨xs, ys, q.1, q.2, by omega⟩, fun i H v H' _ q y => ?_⟩
  · exact ⟨xs, ys, xs[i]'(by omega), ys[i]'(by omega), q.1, q.2, List.getElem?_eq_getElem _, List.getElem?_eq_getElem _⟩
  · obtain ⟨T, x, z, h1, h2, h3, h4, h5⟩ := y
    exact ⟨T, x, z, h1, h2, h3, h4 xs q.1, h5 ys q.2⟩
theorem iter_zipT {a b : Addr} {vs ws : List V} {ds es : List D} (h1 : SqT Z.K F a vs) (h2 : SqT Z.K F b ws) (r1 : RDs Z F vs ds) (r2 : RDs Z F ws es) : IterOk Z F H (RZ.ItzT Z.K a b) (zipD ds es) :=
  iter_pair (walk_zipT (xs := vs) (ys := ws)) (by rw [zipD_len, r1.length, r2.length]) (fun F' H' x y => ⟨ex_t (x.trans y) h1, ex_t (x.trans y) h2⟩) fun i x y q1 q2 => by
    obtain ⟨dx, e1, s1⟩ := r1.get q1
    obtain ⟨dy, e2, s2⟩ := r2.get q2
    exact ⟨dx, dy, zipD_get _ _ _ _ _ e1 e2, s1, s2⟩
theorem iter_enum {a : Addr} {vs : List V} {ds : List D} (h1 : SqL Z.K F a vs) (r1 : RDs Z F vs ds) : IterOk Z F H (Ite Z.K a) (enD ds) :=
  iter_pair (walk_enum (xs := vs)) (by unfold enD; rw [List.length_map, List.length_range, r1.length]) (fun F' H' x y => ex_l (x.trans y) h1) fun i x y q1 q2 => by
    cases q1
    obtain ⟨dy, e2, s2⟩ := r1.get q2
    refine ⟨.int (i : Nat), dy, ?_, .int _, s2⟩
    have hi := (List.getElem?_eq_some_iff.mp e2).1
    unfold enD
    rw [List.getElem?_map, List.getElem?_range hi]
    show some (D.tup [.int (i : Nat), ds.getD i .non]) = _
    rw [List.getD_eq_getElem?_getD, e2]
    rfl
def iZip (m : M (List Ar)) : M (List D) := fun e => (m e).bind fun as e1 => match datas as with
  | some [.lst ds, .lst es] => .ok (zipD ds es) e1
  | some [.tup ds, .tup es] => .ok (zipD ds es) e1
  | _ => .no
theorem evi_zip {ta : TA} {m : M (List Ar)} (ev : EvA Z ta W m) : EvI Z (RZ.iZipA Z.K ta) W (iZip m) := fun σ F H e w R hp =>
  ev.bind w hp fun as vs F1 H1 e1 s ra hp1 => by
    cases q : datas as with
    | none => rw [q] at hp1; exact hp1.elim
    | some ds =>
      rw [q] at hp1
      have rs := datas_ok ra q
      split at hp1
      · rename_i d1 d2 he
        cases he
        cases rs with
        | cons r1 t => cases t with
          | cons r2 t =>
            cases t
            cases r1 with
            | lst a1 b1 => cases r2 with
              | lst a2 b2 => exact ⟨_, _, _, _, rfl, .inl ⟨Or.inl (Or.inl (s.wf.sub _ _ a1)), Or.inl (Or.inl (s.wf.sub _ _ a2)), Post.here s.wf hp1 _ (iter_zipL (Or.inl (Or.inl a1)) (Or.inl (Or.inl a2)) b1 b2)⟩⟩
      · rename_i d1 d2 he
        cases he
        cases rs with
        | cons r1 t => cases t with
          | cons r2 t =>
            cases t
            cases r1 with
            | tup a1 b1 => cases r2 with
              | tup a2 b2 => exact ⟨_, _, _, _, rfl, .inr ⟨ex_t s.wf.sub a1, ex_t s.wf.sub a2, Post.here s.wf hp1 _ (iter_zipT a1 a2 b1 b2)⟩⟩
      · exact hp1.elim
def iEnu (m : M (List Ar)) : M (List D) := fun e => (m e).bind fun as e1 => match datas as with
  | some [.lst ds] => .ok (enD ds) e1
  | _ => .no
theorem evi_enum {ta : TA} {m : M (List Ar)} (ev : EvA Z ta W m) : EvI Z (iEnum Z.K ta) W (iEnu m) := fun σ F H e w R hp =>
  ev.bind w hp fun as vs F1 H1 e1 s ra hp1 => by
    cases q : datas as with
    | none => rw [q] at hp1; exact hp1.elim
    | some ds =>
      rw [q] at hp1
      have rs := datas_ok ra q
      split at hp1
      · rename_i d1 he
        cases he
        cases rs with
        | cons r1 t =>
          cases t
          cases r1 with
          | lst a1 b1 => exact ⟨_, _, rfl, Or.inl (Or.inl (s.wf.sub _ _ a1)), Post.here s.wf hp1 _ (iter_enum (Or.inl (Or.inl a1)) b1)⟩
      · exact hp1.elim
variable {k : Nat} {a b : Expr} {m : M (List Ar)} {pos p tpos : Pos} {elts : List Expr} {kk : Nat}
theorem i_zip (B : Be Z X W k) (hm : X.mg "zip" = none) (h : MA Z X W [a, b] m) (hg : Gl X "zip" := by rfl) (hs : starEach [a, b] X.env = (false, eval a X.env) :: starEach [b] X.env := by rfl) (hpl : (backTo pos (starEach [b] X.env)).any (·.1) = false := by rfl) :
    MI Z X W (.Tuple elts kk tpos) (.Call (.Name "zip" p) [a, b] [] pos) (iZip m) := by
  obtain ⟨ta, q, ev, _⟩ := h
  refine ⟨_, RZ.pi_zipA hg hm q hs hpl, ?_⟩
  rw [B.hK]
  exact evi_zip ev
theorem i_enum (B : Be Z X W k) (hm : X.mg "enumerate" = none) (h : MA Z X W [a] m) (hg : Gl X "enumerate" := by rfl) (hs : starEach [a] X.env = [(false, eval a X.env)] := by rfl) : MI Z X W (.Tuple elts kk tpos) (.Call (.Name "enumerate" p) [a] [] pos) (iEnu m) := by
  obtain ⟨ta, q, ev, _⟩ := h
  refine ⟨_, pi_enum hg hm q hs, ?_⟩
  rw [B.hK]
  exact evi_enum ev
end
end Md

/-! Md16: instances made, their fields stored and read. -/
namespace Md
open PySem PySem.Spec PyProof.Rows L2
section
variable {Z : Wd} {W : WX} {X : Cx} {σ : L2.St} {F H F' H' : Hp} {e : En} {a b c x : Expr} {ma mb mc : M D} {pos p : Pos} {es : List Expr} {n : Str} {m : M (List Ar)}
theorem RDf.put {f : Str} {v : V} {d : D} (r : RD Z F v d) : ∀ {vs : List (Str × V)} {ds : List (Str × D)}, RDf Z F vs ds → RDf Z F (putF f v vs) (putD f d ds)
  | _, _, .nil => .cons r .nil
  | _, _, .cons (x := y) (v := w) (d := dw) h t => by
    unfold putF putD
    by_cases hy : y = f
    · rw [if_pos hy, if_pos hy, hy]; exact .cons r t
    · rw [if_neg hy, if_neg hy]; exact .cons h (RDf.put r t)
/-- what stands beside a call on a new object -/
theorem Sq.beside {vs vs' : L2.St} {sl sl' : List Slot} {q dx : Addr} {o u : HO} (w : WF Z F H σ e) (hq : H q = none) (hd : H dx = none) (hn : dx ≠ q) (c : Sq Z vs F (upd (upd H dx u) q o) sl vs' F' H' sl') (ho : ∀ b, Owns vs sl b → b = q) : Sq Z σ F H e σ F' H' e := by
  have up : ∀ b o', H b = some o' → upd (upd H dx u) q o b = some o' := fun b o' h => by
    have n1 : b ≠ q := fun z => by rw [z, hq] at h; cases h
    have n2 : b ≠ dx := fun z => by rw [z, hd] at h; cases h
    rw [upd_ne n1, upd_ne n2]; exact h
  have no : ∀ b o', H b = some o' → ¬ Owns vs sl b := fun b o' h z => by
    rw [ho b z, hq] at h; cases h
  have fr : ∀ b o', H b = some o' → NT o' → H' b = some o' := fun b o' h nt => c.frame b o' (up b o' h) nt (no b o' h)
  have nw : ∀ b, F b = none → H b ≠ none → F' b = none := fun b h1 h2 => by
    cases z : H b with
    | none => exact absurd z h2
    | some o' => exact c.new b h1 (by rw [up b o' z]; simp) (no b o' z)
  refine ⟨⟨c.wf.sub, w.len, fun i s v h1 h2 => ?_, w.sep, c.wf.tabs⟩, c.ext, fun b o' h nt _ => fr b o' h nt, fun b h => ?_, fun b h1 h2 _ => nw b h1 h2, fun b z => .inl z, fun i q' h => ⟨⟨q', h⟩, rfl⟩⟩
  · have z := w.slot i s v h1 h2
    have ob : ∀ a' q', F a' = none → OOk Z F H a' q' → F' a' = none ∧ OOk Z F' H' a' q' := fun a' q' h3 h4 => by
      obtain ⟨o', h5, h6⟩ := h4.there
      refine ⟨nw a' h3 (by rw [h5]; simp), h4.mono c.ext fun o2 h7 => ?_⟩
      rw [h5] at h7
      cases h7
      exact fr a' o' h5 h6
    cases s with
    | unk => trivial
    | dat d => obtain ⟨v', h3, h4⟩ := z; exact ⟨v', h3, h4.mono c.ext⟩
    | own q' => obtain ⟨a', h3, h4, h5⟩ := z; exact ⟨a', h3, ob a' q' h4 h5⟩
    | io q' => obtain ⟨a', h3, h4, h5⟩ := z; exact ⟨a', h3, ob a' q' h4 h5⟩
  · cases z : H b with
    | none => exact absurd z h
    | some o' => exact c.keep b (by rw [up b o' z]; simp)
/-- an object made meanwhile is data -/
theorem Sx.addO {F1 H1 : Hp} {e1 : En} {q : Addr} {o : HO} (w : WF Z F H σ e) (s : Sx Z σ F H e F1 H1 e1) (n1 : H q = none) (n2 : F1 q = none) (n3 : H1 q = some o) : Sx Z σ F H e (upd F1 q o) H1 e1 := by
  have no : ¬ Owns σ e1 q := fun ⟨i, t, h1, h2, h3⟩ => by
    obtain ⟨t', h4, h5⟩ := s.kd.obj h1 h2
    obtain ⟨b, _, _, h6, _, h7⟩ := w.own h4 h5
    rw [h3] at h6
    cases h6
    obtain ⟨o, h8, _⟩ := h7.there
    rw [n1] at h8
    cases h8
  have x1 : Ex F1 (upd F1 q o) := Ex.new n2
  refine ⟨⟨⟨fun b o h => ?_, s.wf.len, fun i t o h1 h2 => ?_, s.wf.sep, ⟨s.wf.tabs.1, fun p hp => by
    obtain ⟨ps, t1, _⟩ := w.tabs.1 p hp
    rw [upd_ne (fun z => by rw [z, n1] at t1; cases t1)]
    exact s.wf.tabs.2.1 p hp, s.wf.tabs.2.2⟩⟩, s.ext.trans x1, s.frame, s.keep, fun b h1 h2 h3 => ?_, s.own, s.io⟩, s.kd⟩
  · by_cases hb : b = q
    · subst hb; rw [upd_same] at h; cases h; exact n3
    · rw [upd_ne hb] at h; exact s.wf.sub b o h
  · have z := s.wf.slot i t o h1 h2
    cases t with
    | unk => trivial
    | dat d => obtain ⟨v, h3, h4⟩ := z; exact ⟨v, h3, h4.mono x1⟩
    | own r =>
      obtain ⟨b, h3, h4, h5⟩ := z
      exact ⟨b, h3, by rw [upd_ne (fun y => no ⟨i, _, h1, rfl, by rw [h2, h3, y]⟩)]; exact h4, h5.mono x1 fun _ y => y⟩
    | io r =>
      obtain ⟨b, h3, h4, h5⟩ := z
      exact ⟨b, h3, by rw [upd_ne (fun y => no ⟨i, _, h1, rfl, by rw [h2, h3, y]⟩)]; exact h4, h5.mono x1 fun _ y => y⟩
  · have hb : b ≠ q := fun y => h2 (by rw [y]; exact n1)
    rw [upd_ne hb]
    exact s.new b h1 h2 h3
/-! C(e, ..), C a class with an __init__ of its own, on data -/
def cMake (c : Nat) (g : Sem) (dds : List D) (m : M (List Ar)) : M D := fun e => (m e).bind fun as e1 => match datas as with
  | some ds => (match g (.io (.ins c []) :: (ds ++ dds).map Slot.dat) with
    | .ok .non (.io (.ins c' fs) :: _) => if c' = c then .ok (.ins c fs) e1 else .no
    | .ex c' fs _ => .ex c' fs e1
    | _ => .no)
  | none => .no
theorem fng_make {k : Nat} {C f : Addr} {fd : FuncData} {ps : List Str} {ds us : List Value} {dvs vs : List V} {sp : Sp} {pins : List (Addr × Obj)} {s : Shared} {Q : VK} (M : Mk X.K C f) (Fn : FnG X.prog X.w X.K X.mg X.base k f fd ps sp) (hr : Room (k + 1) X.A) (hgd : X.A.guards = some [])
    (hb : Binds X.K fd ps ds) (hd : Vals dvs ds) (tk : Takes X W) (I : Inv X pins σ H s) (r : Vals vs us)
    (h : ∀ x dx, H x = none → H dx = none → dx ≠ x → sp (.ref x :: (vs ++ dvs)) (upd (upd H dx (.own x)) x (.ins C dx [])) (fun v H2 => v = .non ∧ Q (.ref x) H2) (WE W σ)) :
    wpAny (model X.prog X.w) X.A (call (.ref C) us) (EP X pins σ Q) X.xe s := by
  have hq := h (s.heap.objs.size + 1) s.heap.objs.size (I.hok.fresh (Nat.le_succ _)) (I.hok.fresh (Nat.le_refl _)) (Nat.ne_of_lt (Nat.lt_succ_self _))
  have I2 := Inv.made (C := C) I
  have r2 : Vals (V.ref (s.heap.objs.size + 1) :: (vs ++ dvs)) (Value.ref (s.heap.objs.size + 1) :: (us ++ ds)) := .cons rfl (r.append hd)
  have hl : (Value.ref (s.heap.objs.size + 1) :: us ++ ds).length = ps.length := by
    have e := r2.length
    rw [Fn.len _ _ _ _ hq] at e
    exact e.symm
  refine wpAny_call (make_map (f := f) I.kIn M.makes M.init (beq_iff_eq.mp M.fn) (codeAny_mono (Fn.run _ X.stack _ _ ⟨Value.ref (s.heap.objs.size + 1) :: us, []⟩ (Value.ref (s.heap.objs.size + 1) :: (us ++ ds)) _ _ (WE W σ) (hr.make C us []) hgd
    (I2.env0.make C us []) (hb _ (Value.ref (s.heap.objs.size + 1) :: us) I2.kIn hl) r2 hq) fun r s' hq' => ?_))
  cases r with
  | error e => exact passAt tk σ pins _ _ e s' I2 hq'
  | ok fl =>
    cases fl with
    | ret u =>
      obtain ⟨v, H', I3, rv, ev, q3⟩ := I2.after hq'
      subst ev
      exact ⟨rv, ⟨V.ref (s.heap.objs.size + 1), H', I3, rfl, q3⟩⟩
    | next => exact False.elim hq'
    | brk => exact False.elim hq'
    | cont => exact False.elim hq'
theorem wf_made {q dx : Addr} {u : HO} {cn : Nat} {vs : List V} {ds : List D} (w : WF Z F H σ e) (hq : H q = none) (hd : H dx = none) (hn : dx ≠ q) (r : RDs Z F vs ds) :
    WF Z F (upd (upd H dx u) q (.ins (Z.CL cn) dx [])) ((V.ref q :: vs).map some) (.io (.ins cn []) :: ds.map Slot.dat) := by
  have n0 : upd H dx u q = none := by rw [upd_ne (Ne.symm hn)]; exact hq
  have x1 : Ex H (upd (upd H dx u) q (.ins (Z.CL cn) dx [])) := (Ex.new hd).trans (Ex.new n0)
  refine ⟨w.sub.trans x1, by simp [r.length], fun i s v h1 h2 => ?_, fun i j a' s t h1 h2 h3 h4 _ _ => ?_, tabs_ex _ w.tabs x1 (fun _ z _ => z)⟩
  · cases i with
    | zero =>
      simp only [List.getElem?_cons_zero, Option.some.injEq, List.map_cons] at h1 h2
      subst h1 h2
      exact ⟨q, rfl, fr_of w.sub hq, dx, [], upd_same, .nil⟩
    | succ i =>
      simp only [List.getElem?_cons_succ, List.map_cons, List.getElem?_map] at h1 h2
      cases hv : ds[i]? with
      | none => rw [hv] at h1; cases h1
      | some d =>
        rw [hv] at h1
        cases h1
        obtain ⟨v', h5, h6⟩ := r.getD hv
        rw [h5] at h2
        cases h2
        exact ⟨v', rfl, h6⟩
  · have z : ∀ (i : Nat) (s : Slot), (Slot.io (.ins cn []) :: ds.map Slot.dat)[i]? = some s → s.obj.isSome = true → i = 0 := fun i s h1 h2 => by
      cases i with
      | zero => rfl
      | succ i =>
        simp only [List.getElem?_cons_succ, List.getElem?_map] at h1
        cases hv : ds[i]? with
        | none => rw [hv] at h1; cases h1
        | some d => rw [hv] at h1; cases h1; cases h2
    rw [z i s h1 h3, z j t h2 h4]
theorem post_make {f : Sem} {cn N : Nat} {ds dds : List D} {vs dvs : List V} {Q : VK} (w : WF Z F H σ e) (r : RDs Z F vs ds) (rd : RDs Z F dvs dds) (hl : ds.length + dds.length + 1 = N)
    (hp : Post Z W σ F H e (match f (.io (.ins cn []) :: (ds ++ dds).map Slot.dat) with
    | .ok .non (.io (.ins c' fs) :: _) => if c' = cn then .ok (.ins cn fs) e else .no
    | .ex c' fs _ => .ex c' fs e
    | _ => .no : R D) (fun d F' H' => ∀ v, RD Z F' v d → Q v H')) (q dx : Addr) (hq : H q = none) (hd : H dx = none) (hn : dx ≠ q) :
    spF Z N f (.ref q :: (vs ++ dvs)) (upd (upd H dx (.own q)) q (.ins (Z.CL cn) dx [])) (fun v H2 => v = .non ∧ Q (.ref q) H2) (fun c d H' => W c d σ H') := by
  have w2 := wf_made (u := .own q) (cn := cn) w hq hd hn (r.append rd)
  refine ⟨F, .io (.ins cn []) :: (ds ++ dds).map Slot.dat, by simp; omega, by simp [Slot.arg], w2, ?_⟩
  have ow : ∀ b, Owns ((V.ref q :: (vs ++ dvs)).map some) (.io (.ins cn []) :: (ds ++ dds).map Slot.dat) b → b = q := fun b ⟨i, s, h1, h2, h3⟩ => by
    cases i with
    | zero =>
      simp only [List.map_cons, List.getElem?_cons_zero, Option.some.injEq] at h3
      cases h3
      rfl
    | succ i =>
      simp only [List.getElem?_cons_succ, List.getElem?_map] at h1
      cases hv : (ds ++ dds)[i]? with
      | none => rw [hv] at h1; cases h1
      | some d => rw [hv] at h1; cases h1; cases h2
  cases hf : f (.io (.ins cn []) :: (ds ++ dds).map Slot.dat) with
  | no => rw [hf] at hp; exact hp.elim
  | ex c' fs sl' =>
    rw [hf] at hp
    exact fun d' F' H' s' xf => hp d' F' H' ⟨Sq.beside w hq hd hn s'.toSq ow, Kd.refl e⟩ xf
  | ok d sl' =>
    rw [hf] at hp
    cases d with
    | non =>
      cases sl' with
      | nil => exact hp.elim
      | cons s0 sl2 =>
        cases s0 with
        | io oo =>
          cases oo with
          | ins c' fs =>
            dsimp only at hp
            by_cases hc : c' = cn
            · rw [if_pos hc] at hp
              subst hc
              intro F' H' s' v rv
              cases rv
              refine ⟨rfl, ?_⟩
              obtain ⟨a', h1, h2, dx', fvs, h3, h4⟩ := s'.wf.slot 0 _ _ rfl rfl
              cases h1
              have sx : Sx Z σ F H e F' H' e := ⟨Sq.beside w hq hd hn s'.toSq ow, Kd.refl e⟩
              exact hp _ H' (sx.addO w hq h2 h3) _ (.ins upd_same (h4.mono (Ex.new h2)))
            · rw [if_neg hc] at hp
              exact hp.elim
          | lst _ => exact hp.elim
          | dk _ => exact hp.elim
        | unk => exact hp.elim
        | dat _ => exact hp.elim
        | own _ => exact hp.elim
    | _ => exact hp.elim
def tMakeG (C : Addr) (sp : Sp) (dvs : List V) (E : L2.St → XK) (t : TA) : TE := fun σ H Q => t σ H fun vs H1 => ∀ q dx, H1 q = none → H1 dx = none → dx ≠ q →
  sp (V.ref q :: (vs ++ dvs)) (upd (upd H1 dx (.own q)) q (.ins C dx [])) (fun v H2 => v = .non ∧ Q (.ref q) H2) (E σ)
theorem me_make {f : Addr} {cn : Nat} {fd : FuncData} {ps : List Str} {ds : List Value} {dvs : List V} {dds : List D} {k : Nat} {g : Sem} (M : Mk X.K (Z.CL cn) f) (Fn : FnG X.prog X.w X.K X.mg X.base k f fd ps (spF Z ps.length g)) (hr : Room (k + 1) X.A) (hgd : X.A.guards = some []) (hg : Gl X n) (hm : X.mg n = some (.ref (Z.CL cn)))
    (hb : Binds X.K fd ps ds) (hd : Vals dvs ds) (rd : ∀ F, RDs Z F dvs dds) (tk : Takes X W) (ha : MA Z X W (a :: es) m) (hl : (a :: es).length + dds.length + 1 = ps.length)
    (hdb : (n == ("__debug__" : Str)) = false := by decide) (he : starEach (a :: es) X.env = (false, eval a X.env) :: starEach es X.env := by rfl) (hpl : (backTo pos (starEach es X.env)).any (·.1) = false := by rfl) :
    ME Z X W (.Call (.Name n p) (a :: es) [] pos) (cMake cn g dds m) := by
  obtain ⟨ta, pa, ea, la⟩ := ha
  refine ⟨tMakeG (Z.CL cn) (spF Z ps.length g) dvs (WE W) ta, ⟨fun pins s σ H Q I h => ?_⟩, fun σ F H e w Q hp => ?_⟩
  · refine wpAny_Call_Name_kw (ld_glob I hg hm (PySem.W.callWith_K (h₀ := X.base) I.ok.mod.kin M.kp (thn (pa.run pos pins s σ H _ I h) fun us s1 hh => ?_) he hpl) hdb)
    obtain ⟨vs, H1, I1, r, q⟩ := hh
    exact ⟨I1.kIn, fng_make M Fn hr hgd hb hd tk I1 r q⟩
  · refine ea σ F H e w _ ?_
    unfold cMake at hp
    cases hm' : m e with
    | no => rw [hm'] at hp; exact hp.elim
    | ex c fs e1 => rw [hm'] at hp; exact hp
    | ok as e1 =>
      rw [hm'] at hp
      intro F1 H1 s vs ra q dx hq hdx hn
      change Post Z W σ F H e (match datas as with
        | some ds => _
        | none => .no) _ at hp
      cases hds : datas as with
      | none => rw [hds] at hp; exact hp.elim
      | some ds =>
        rw [hds] at hp
        have rs := datas_ok ra hds
        have hlen : ds.length = (a :: es).length := by
          rw [← la e as e1 hm', ← rs.length]
          have : ∀ {vs : List V} {as : List Ar}, ArOk Z F1 σ vs as → vs.length = as.length := by
            intro vs as h
            induction h with
            | nil => rfl
            | d _ _ ih => simp [ih]
            | v _ _ ih => simp [ih]
          exact this ra
        exact post_make s.wf rs (rd F1) (by rw [hlen]; exact hl) (Post.rebase s hp) q dx hq hdx hn
/-! self.f = e -/
def insAt (e : En) (i : Nat) : Option (Slot × Nat × List (Str × D)) := match e[i]? with
  | some s => match s.obj with
    | some (.ins c fs) => some (s, c, fs)
    | _ => none
  | none => none
theorem insAt_some {i cn : Nat} {s : Slot} {fs : List (Str × D)} (w : WF Z F H σ e) (h : insAt e i = some (s, cn, fs)) : ∃ a dx fvs, e[i]? = some s ∧ s.obj = some (.ins cn fs) ∧ σ[i]? = some (some (.ref a)) ∧ F a = none ∧ H a = some (.ins (Z.CL cn) dx fvs) ∧ RDf Z F fvs fs := by
  unfold insAt at h
  cases he : e[i]? with
  | none => rw [he] at h; cases h
  | some t =>
    rw [he] at h
    dsimp only at h
    cases ho : t.obj with
    | none => rw [ho] at h; cases h
    | some q =>
      rw [ho] at h
      cases q with
      | ins c' fs' =>
        cases h
        obtain ⟨a, q, h1, h2, h3, h4⟩ := w.own he (by rw [ho]; rfl)
        rw [ho] at h1
        cases h1
        obtain ⟨dx, fvs, h5, h6⟩ := h4
        exact ⟨a, dx, fvs, rfl, ho, h2, h3, h5, h6⟩
      | lst _ => cases h
      | dk kv => cases h
def sFldS (i : Nat) (f : Str) (tab : List Tk) (m : M D) : MS := fun e => (m e).toO fun d e1 => match insAt e1 i with
  | some (s, c, fs) => if tab.contains (.c c) = true ∧ fs.length < 1000 then .nx (e1.set i (s.put (.ins c (putD f d fs)))) else .no
  | none => .no
theorem ml_fldS {i : Nat} {f : Str} {tab : List Tk} {pos' : Pos} (hK : X.K = Z.K) (hN : X.N[i]? = some n) (hv : Vis X.env.scope n) (ha : ME Z X W a ma) (ht : AtOk Z f tab) (hs : swapsWith a (some (.Attribute (.Name n p) f pos')) pos.line X.env = pure false := by rfl)
    (hd : (n == ("__debug__" : Str)) = false := by decide) (hcd : (n == ("__classdict__" : Str)) = false := by decide) : ML Z X W (.Assign [.Attribute (.Name n p) f pos'] a pos) (sFldS i f tab ma) := by
  obtain ⟨te, pe, ev⟩ := ha
  refine ⟨_, ps_fld (pe_var hN hv hd hcd) pe hs, fun σ F H e w N hp => ?_⟩
  refine ev.bindS w hp fun d v F1 H1 e1 s1 rd hp1 => ?_
  cases hi : insAt e1 i with
  | none => rw [hi] at hp1; exact hp1.elim
  | some q =>
    obtain ⟨s, cn, fs⟩ := q
    rw [hi] at hp1
    dsimp only at hp1
    obtain ⟨a', dx, fvs, h1, h2, h3, h4, h5, h6⟩ := insAt_some s1.wf hi
    split at hp1
    · rename_i hc
      have k := ht.gc (List.contains_iff_mem.mp hc.1)
      rw [hK]
      refine ⟨.ref a', h3, a', Z.CL cn, dx, fvs, rfl, h5, k.1, k.2, by rw [h6.length]; exact hc.2, ?_⟩
      exact hp1 _ _ _ (Sq.change0 s1.wf h1 (by rw [h2]; rfl) h3 ⟨dx, _, upd_same, h6.put rd⟩)
    · exact hp1.elim
/-! self.f, self an object of a slot -/
def cFldS (i : Nat) (f : Str) (tab : List Tk) : M D := fun e => match insAt e i with
  | some (_, c, fs) => if tab.contains (.c c) = true then (match fs.lookup f with
    | some d => .ok d e
    | none => .no) else .no
  | none => .no
theorem me_fldS {i : Nat} {f : Str} {tab : List Tk} (hK : X.K = Z.K) (hN : X.N[i]? = some n) (hv : Vis X.env.scope n) (ht : AtOk Z f tab) (hb : attributeBase (.Name n p) f X.env (eval (.Name n p) X.env) = eval (.Name n p) X.env := by rfl)
    (hd : (n == ("__debug__" : Str)) = false := by decide) (hcd : (n == ("__classdict__" : Str)) = false := by decide) : ME Z X W (.Attribute (.Name n p) f pos) (cFldS i f tab) := by
  refine ⟨_, pe_fld (pe_var hN hv hd hcd) hb, fun σ F H e w Q hp => ?_⟩
  unfold cFldS at hp
  cases hi : insAt e i with
  | none => rw [hi] at hp; exact hp.elim
  | some q =>
    obtain ⟨s, cn, fs⟩ := q
    rw [hi] at hp
    dsimp only at hp
    obtain ⟨a', dx, fvs, h1, h2, h3, h4, h5, h6⟩ := insAt_some w hi
    split at hp
    · rename_i hc
      have k := ht.gc (List.contains_iff_mem.mp hc)
      cases hl : fs.lookup f with
      | none => rw [hl] at hp; exact hp.elim
      | some d =>
        rw [hl] at hp
        obtain ⟨v, l, r⟩ := h6.lookup hl
        rw [hK]
        exact ⟨.ref a', h3, a', Z.CL cn, dx, fvs, v, rfl, h5, k.1, k.2, l, Post.here w hp _ r⟩
    · exact hp.elim
/-! C(k = e, ..), all by their names -/
def cMakeK (c : Nat) (g : Sem) (gD : List D → List D) (m : M (List Ar)) : M D := fun e => (m e).bind fun as e1 => match datas as with
  | some ds => (match g (.io (.ins c []) :: (gD ds ++ []).map Slot.dat) with
    | .ok .non (.io (.ins c' fs) :: _) => if c' = c then .ok (.ins c fs) e1 else .no
    | .ex c' fs _ => .ex c' fs e1
    | _ => .no)
  | none => .no
theorem ArOk.len {σ : L2.St} {F : Hp} : ∀ {vs : List V} {as : List Ar}, ArOk Z F σ vs as → vs.length = as.length
  | _, _, .nil => rfl
  | _, _, .d _ t => by rw [List.length_cons, List.length_cons, t.len]
  | _, _, .v _ t => by rw [List.length_cons, List.length_cons, t.len]
theorem me_makeK {f : Addr} {cn : Nat} {fd : FuncData} {ps ks : List Str} {k : Nat} {g : Sem} {kws : List Keyword} {gv : List Value → List Value} {gV : List V → List V} {gD : List D → List D} (M : Mk X.K (Z.CL cn) f) (Fn : FnG X.prog X.w X.K X.mg X.base k f fd ps (spF Z ps.length g)) (hr : Room (k + 1) X.A) (hgd : X.A.guards = some []) (hg : Gl X n) (hm : X.mg n = some (.ref (Z.CL cn)))
    (hb : ∀ (s : Shared) (u : Value) (ws : List Value), X.K.In s.heap → ws.length = ks.length → BindsTo s fd ⟨[u], ks.zip ws⟩ (ps.zip (u :: gv ws))) (rv : ∀ {zs : List V} {ws : List Value}, ws.length = ks.length → Vals zs ws → Vals (gV zs) (gv ws)) (rd : ∀ {F : Hp} {zs : List V} {ds : List D}, zs.length = ks.length → RDs Z F zs ds → RDs Z F (gV zs) (gD ds)) (hgl : ∀ zs : List V, zs.length = ks.length → (gV zs).length + 1 = ps.length)
    (tk : Takes X W) (ha : MK Z X W kws m) (hlk : kws.length = ks.length) (hall : (backToKw pos (keywordEach kws X.env)).all (·.1.isSome) = true := by rfl) (hks : (backToKw pos (keywordEach kws X.env)).filterMap (·.1) = ks := by rfl)
    (hdb : (n == ("__debug__" : Str)) = false := by decide) (hpl : ((backTo pos (starEach [] X.env)).any (·.1) || (backToKw pos (keywordEach kws X.env)).any (·.1.isNone)) = false := by rfl) :
    ME Z X W (.Call (.Name n p) [] kws pos) (cMakeK cn g gD m) := by
  obtain ⟨ta, pa, ea, la⟩ := ha
  refine ⟨fun σ H Q => ta σ H fun zs H1 => zs.length = ks.length ∧ ∀ q dx, H1 q = none → H1 dx = none → dx ≠ q → spF Z ps.length g (.ref q :: (gV zs ++ [])) (upd (upd H1 dx (.own q)) q (.ins (Z.CL cn) dx [])) (fun v H2 => v = .non ∧ Q (.ref q) H2) (WE W σ), ⟨fun pins s σ H Q I h => ?_⟩, fun σ F H e w Q hp => ?_⟩
  · refine wpAny_Call_Name_kw (ld_glob I hg hm (PySem.W.callWith_KW0 (h₀ := X.base) I.ok.mod.kin M.kp hall (thn (pa.run pos pins s σ H _ I h) fun ws s1 hh => ?_) hpl) hdb)
    obtain ⟨zs, H1, I1, r, hz, q⟩ := hh
    refine ⟨I1.kIn, ?_⟩
    rw [hks]
    have hw : ws.length = ks.length := by rw [← r.length]; exact hz
    have hq := q (s1.heap.objs.size + 1) s1.heap.objs.size (I1.hok.fresh (Nat.le_succ _)) (I1.hok.fresh (Nat.le_refl _)) (Nat.ne_of_lt (Nat.lt_succ_self _))
    have I2 := Inv.made (C := Z.CL cn) I1
    rw [List.append_nil] at hq
    have r2 : Vals (V.ref (s1.heap.objs.size + 1) :: gV zs) (Value.ref (s1.heap.objs.size + 1) :: gv ws) := .cons rfl (rv hw r)
    refine wpAny_call (make_map (f := f) I1.kIn M.makes M.init (beq_iff_eq.mp M.fn) (codeAny_mono (Fn.run _ X.stack _ _ ⟨[Value.ref (s1.heap.objs.size + 1)], ks.zip ws⟩ (Value.ref (s1.heap.objs.size + 1) :: gv ws) _ _ (WE W σ) (hr.make (Z.CL cn) [] (ks.zip ws)) hgd
      (I2.env0.make (Z.CL cn) [] (ks.zip ws)) (hb _ _ ws I2.kIn hw) r2 hq) fun r s' hq' => ?_))
    cases r with
    | error e => exact passAt tk σ pins _ _ e s' I2 hq'
    | ok fl =>
      cases fl with
      | ret u =>
        obtain ⟨v, H', I3, rv, ev, q3⟩ := I2.after hq'
        subst ev
        exact ⟨rv, ⟨V.ref (s1.heap.objs.size + 1), H', I3, rfl, q3⟩⟩
      | next => exact False.elim hq'
      | brk => exact False.elim hq'
      | cont => exact False.elim hq'
  · refine ea σ F H e w _ ?_
    unfold cMakeK at hp
    cases hm' : m e with
    | no => rw [hm'] at hp; exact hp.elim
    | ex c fs e1 => rw [hm'] at hp; exact hp
    | ok as e1 =>
      rw [hm'] at hp
      intro F1 H1 s vs ra
      change Post Z W σ F H e (match datas as with
        | some ds => _
        | none => .no) _ at hp
      have hz : vs.length = ks.length := by rw [ra.len, la e as e1 hm', hlk]
      refine ⟨hz, fun q dx hq hdx hn => ?_⟩
      cases hds : datas as with
      | none => rw [hds] at hp; exact hp.elim
      | some ds =>
        rw [hds] at hp
        have rs := rd hz (datas_ok ra hds)
        exact post_make s.wf rs .nil (by rw [← rs.length]; exact hgl vs hz) (Post.rebase s hp) q dx hq hdx hn
/-! the rules as the printer writes them -/
/-- a class that may be called by its name: its __init__ takes self, n values written, dds fill up -/
structure Maker (P : Program) (w : World) (Z : Wd) (mg : Str → Option Value) (base : Heap) (k : Nat) (name : Str) (cn : Nat) (ps : List Str) (sp : Sp) (n : Nat) (dds : List D) : Prop where
  ex : ∃ f fd ds dvs, mg name = some (.ref (Z.CL cn)) ∧ Mk Z.K (Z.CL cn) f ∧ FnG P w Z.K mg base k f fd ps sp ∧ Binds Z.K fd ps ds ∧ Vals dvs ds ∧ (∀ F, RDs Z F dvs dds) ∧ n + dds.length + 1 = ps.length
structure MakerK (P : Program) (w : World) (Z : Wd) (mg : Str → Option Value) (base : Heap) (k : Nat) (name : Str) (cn : Nat) (ps ks : List Str) (sp : Sp) (gD : List D → List D) : Prop where
  ex : ∃ (f : Addr) (fd : FuncData) (gv : List Value → List Value) (gV : List V → List V), mg name = some (.ref (Z.CL cn)) ∧ Mk Z.K (Z.CL cn) f ∧ FnG P w Z.K mg base k f fd ps sp ∧ (∀ (s : Shared) (u : Value) (ws : List Value), Z.K.In s.heap → ws.length = ks.length → BindsTo s fd ⟨[u], ks.zip ws⟩ (ps.zip (u :: gv ws))) ∧
    (∀ {zs : List V} {ws : List Value}, ws.length = ks.length → Vals zs ws → Vals (gV zs) (gv ws)) ∧ (∀ {F : Hp} {zs : List V} {ds : List D}, zs.length = ks.length → RDs Z F zs ds → RDs Z F (gV zs) (gD ds)) ∧ ∀ zs : List V, zs.length = ks.length → (gV zs).length + 1 = ps.length
section
variable {k kc cn na : Nat} {ps ks : List Str} {g : Sem} {dds : List D} (B : Be Z X W k)
include B
theorem e_make (C : Maker X.prog X.w Z X.mg X.base kc n cn ps (spF Z ps.length g) na dds) (hk : kc + 1 ≤ k) (ha : MA Z X W (a :: es) m) (hl : (a :: es).length = na := by rfl) (hg : Gl X n := by rfl)
    (hdb : (n == ("__debug__" : Str)) = false := by decide) (he : starEach (a :: es) X.env = (false, eval a X.env) :: starEach es X.env := by rfl) (hpl : (backTo pos (starEach es X.env)).any (·.1) = false := by rfl) : ME Z X W (.Call (.Name n p) (a :: es) [] pos) (cMake cn g dds m) := by
  obtain ⟨f, fd, ds, dvs, h1, h2, h3, h4, h5, h6, h7⟩ := C.ex
  have e := B.hK
  exact me_make (by rw [e]; exact h2) (by rw [e]; exact h3) (B.room.mono hk) B.gd hg h1 (by rw [e]; exact h4) h5 h6 B.tk ha (by rw [hl]; exact h7) hdb he hpl
theorem e_makeK {kws : List Keyword} {gD : List D → List D} (C : MakerK X.prog X.w Z X.mg X.base kc n cn ps ks (spF Z ps.length g) gD) (hk : kc + 1 ≤ k) (ha : MK Z X W kws m) (hlk : kws.length = ks.length := by rfl) (hg : Gl X n := by rfl) (hall : (backToKw pos (keywordEach kws X.env)).all (·.1.isSome) = true := by rfl) (hks : (backToKw pos (keywordEach kws X.env)).filterMap (·.1) = ks := by rfl)
    (hdb : (n == ("__debug__" : Str)) = false := by decide) (hpl : ((backTo pos (starEach [] X.env)).any (·.1) || (backToKw pos (keywordEach kws X.env)).any (·.1.isNone)) = false := by rfl) : ME Z X W (.Call (.Name n p) [] kws pos) (cMakeK cn g gD m) := by
  obtain ⟨f, fd, gv, gV, h1, h2, h3, h4, h5, h6, h7⟩ := C.ex
  have e := B.hK
  exact me_makeK (by rw [e]; exact h2) (by rw [e]; exact h3) (B.room.mono hk) B.gd hg h1 (by rw [e]; exact h4) h5 h6 h7 B.tk ha hlk hall hks hdb hpl
theorem e_fld {i : Nat} {f : Str} {tab : List Tk} (hN : X.N[i]? = some n) (hv : Vis X.env.scope n) (ht : AtOk Z f tab) (hb : attributeBase (.Name n p) f X.env (eval (.Name n p) X.env) = eval (.Name n p) X.env := by rfl)
    (hd : (n == ("__debug__" : Str)) = false := by decide) (hcd : (n == ("__classdict__" : Str)) = false := by decide) : ME Z X W (.Attribute (.Name n p) f pos) (cFldS i f tab) := me_fldS B.hK hN hv ht hb hd hcd
end
section
variable {k : Nat} (B : Bd Z X W k)
include B
theorem s_fld {i : Nat} {f : Str} {tab : List Tk} {pos' : Pos} (hN : X.N[i]? = some n) (hv : Vis X.env.scope n) (ha : ME Z X W a ma) (ht : AtOk Z f tab) (hs : swapsWith a (some (.Attribute (.Name n p) f pos')) pos.line X.env = pure false := by rfl)
    (hd : (n == ("__debug__" : Str)) = false := by decide) (hcd : (n == ("__classdict__" : Str)) = false := by decide) : ML Z X W (.Assign [.Attribute (.Name n p) f pos'] a pos) (sFldS i f tab ma) := ml_fldS B.hK hN hv ha ht hs hd hcd
end
end
end Md

/-! Md17: methods of strings, dicts written. -/
namespace Md
open PySem PySem.Spec PyProof.Rows L2
section
variable {Z : Wd} {W : WX} {X : Cx} {σ : L2.St} {F H F' H' : Hp} {e : En} {a b c x o : Expr} {ma mb mc mo : M D} {pos p apos : Pos} {es : List Expr} {n : Str} {m : M (List Ar)}
/-- a string's method of one argument -/
def cM1 (op : Str → D → Option D) (mo ma : M D) : M D := fun e => (mo e).bind fun x e1 => match x with
  | .str a => (ma e1).bind fun y e2 => (match op a y with
    | some z => .ok z e2
    | none => .no)
  | _ => .no
def M1Ok (Z : Wd) (r : V → List V → Hp → VK → Prop) (op : Str → D → Option D) : Prop := ∀ (F H : Hp) (a : Str) (y : V) (dy dz : D), Ex F H → RD Z F y dy → op a dy = some dz → ∀ Q : VK, (∀ v F' H', Gr F H F' H' → RD Z F' v dz → Q v H') → r (.str a) [y] H Q
theorem eve_m1 {r : V → List V → Hp → VK → Prop} {op : Str → D → Option D} {to te : TE} (h : M1Ok Z r op) (ho : EvE Z to W mo) (ha : EvE Z te W ma) : EvE Z (tM1 r to te) W (cM1 op mo ma) := fun σ F H e w Q hp =>
  ho.bind w hp fun dx x F1 H1 e1 s1 rx hp1 => by
    cases rx with
    | str z =>
      refine ⟨⟨z, rfl⟩, ha.bind s1.wf hp1 fun dy y F2 H2 e2 s2 ry hp2 => ?_⟩
      cases q : op z dy with
      | none => rw [q] at hp2; exact hp2.elim
      | some dz =>
        rw [q] at hp2
        exact h F2 H2 z y dy dz s2.wf.sub ry q Q fun v F' H' g rd => Post.gr s2.wf hp2 g v rd
    | _ => exact hp1.elim
def strsOf : List D → Option (List Str)
  | [] => some []
  | .str x :: ds => (strsOf ds).map (x :: ·)
  | _ :: _ => none
theorem strsOf_ok : ∀ {vs : List V} {ds : List D} {ys : List Str}, RDs Z F vs ds → strsOf ds = some ys → vs = ys.map V.str
  | _, _, _, .nil, h => by cases h; rfl
  | _, _, _, .cons (d := d) (ds := ds) hd t, h => by
    cases hd with
    | str z =>
      simp only [strsOf] at h
      cases q : strsOf ds with
      | none => rw [q] at h; cases h
      | some zs => rw [q] at h; cases h; rw [strsOf_ok t q]; rfl
    | _ => simp [strsOf] at h
def dJoin (a : Str) : D → Option D
  | .lst ds => (strsOf ds).bind fun ys => if (ys.map (·.length)).sum + ys.length * a.length ≤ 16777216 then some (.str (Txt.join a ys)) else none
  | .tup ds => (strsOf ds).bind fun ys => if (ys.map (·.length)).sum + ys.length * a.length ≤ 16777216 then some (.str (Txt.join a ys)) else none
  | _ => none
theorem m1_join : M1Ok Z (fun x xs H Q => ∃ a p, ∃ ys : List Str, x = .str a ∧ xs = [.ref p] ∧ (SqL Z.K H p (ys.map V.str) ∨ SqT Z.K H p (ys.map V.str)) ∧ (ys.map (·.length)).sum + ys.length * a.length ≤ 16777216 ∧ Q (.str (Txt.join a ys)) H) dJoin := fun F H a y dy dz e r h Q q => by
  cases r with
  | lst h1 r1 =>
    simp only [dJoin] at h
    rename_i ds
    cases q1 : strsOf ds with
    | none => rw [q1] at h; cases h
    | some ys =>
      rw [q1, Option.bind_some] at h
      split at h
      · rename_i hz
        cases h
        refine ⟨a, _, ys, rfl, rfl, .inl (Or.inl (Or.inl ?_)), hz, q _ F H (Gr.refl e) (.str _)⟩
        rw [← strsOf_ok r1 q1]
        exact e _ _ h1
      · cases h
  | tup h1 r1 =>
    simp only [dJoin] at h
    rename_i ds
    cases q1 : strsOf ds with
    | none => rw [q1] at h; cases h
    | some ys =>
      rw [q1, Option.bind_some] at h
      split at h
      · rename_i hz
        cases h
        refine ⟨a, _, ys, rfl, rfl, .inr ?_, hz, q _ F H (Gr.refl e) (.str _)⟩
        rw [← strsOf_ok r1 q1]
        exact ex_t e h1
      · cases h
  | _ => cases h
theorem me_join (hK : X.K = Z.K) (ho : ME Z X W o mo) (ha : ME Z X W a ma) (hs : starEach [a] X.env = [(false, eval a X.env)] := by rfl) (hbase : attributeBase o "join" X.env (eval o X.env) = eval o X.env := by rfl) (hline : (apos.endLine == pos.line) = true := by rfl) :
    ME Z X W (.Call (.Attribute o "join" apos) [a] [] pos) (cM1 dJoin mo ma) := by
  obtain ⟨to, po, eo⟩ := ho
  obtain ⟨ta, pa, ea⟩ := ha
  refine ⟨_, pe_join po pa hs hbase hline, ?_⟩
  rw [hK]
  exact eve_m1 m1_join eo ea
theorem e_join {k : Nat} (B : Be Z X W k) (ho : ME Z X W o mo) (ha : ME Z X W a ma) (hs : starEach [a] X.env = [(false, eval a X.env)] := by rfl) (hbase : attributeBase o "join" X.env (eval o X.env) = eval o X.env := by rfl) (hline : (apos.endLine == pos.line) = true := by rfl) :
    ME Z X W (.Call (.Attribute o "join" apos) [a] [] pos) (cM1 dJoin mo ma) := me_join B.hK ho ha hs hbase hline
/-! {} -/
theorem me_dk0 : ME Z X W (.Dict [] [] pos) (cK (.dk [])) := by
  refine ⟨_, pe_dnewK, fun σ F H e w Q hp q hn => ?_⟩
  exact Post.gr w hp (Gr.new1 w.sub hn) _ (.dk upd_same .nil)
/-! a if c else b as a test -/
theorem pt_ifExp {tc ta tb : TT} (hc : PT X c tc) (ha : PT X a ta) (hb : PT X b tb) : PT X (.IfExp c a b pos) (fun σ H Q => tc σ H fun k H1 => if k = true then ta σ H1 Q else tb σ H1 Q) := by
  refine ⟨fun pins s σ H Q I h => ?_⟩
  refine isTrue_IfExp (thn (hc.run pins s σ H _ I h) fun k s1 hh => ?_)
  obtain ⟨H1, I1, q⟩ := hh
  cases k with
  | true => exact ha.run pins s1 σ H1 Q I1 q
  | false => exact hb.run pins s1 σ H1 Q I1 q
def cIfB (c a b : M Bool) : M Bool := fun e => (c e).bind fun x e1 => if x = true then a e1 else b e1
theorem mt_ifExp {c' a' b' : M Bool} (hc : MT Z X W c c') (ha : MT Z X W a a') (hb : MT Z X W b b') : MT Z X W (.IfExp c a b pos) (cIfB c' a' b') := by
  obtain ⟨tc, pc, ec⟩ := hc
  obtain ⟨ta, pa, ea⟩ := ha
  obtain ⟨tb, pb, eb⟩ := hb
  refine ⟨_, pt_ifExp pc pa pb, fun σ F H e w Q hp => ec.bind w hp fun k F1 H1 e1 s1 hp1 => ?_⟩
  cases k with
  | true => exact ea σ F1 H1 e1 s1.wf Q hp1
  | false => exact eb σ F1 H1 e1 s1.wf Q hp1
/-! x = [.. for ..] on one line -/
theorem ml_setT {st : Stmt} {te : TE} {i : Nat} (p : PS X st (tAsg te (gName i))) (ev : EvE Z te W ma) : ML Z X W st (sSet i ma) := by
  refine ⟨_, p, fun σ F H e w N hp => ?_⟩
  refine ev.bindS w hp fun d v F1 H1 e1 s rd hp1 => ?_
  cases hs : setE i (.dat d) e1 with
  | none => rw [hs] at hp1; exact hp1.elim
  | some e2 => rw [hs] at hp1; exact hp1 _ F1 H1 (Sq.setD s.wf hs rd)
theorem ml_newT {st : Stmt} {te : TE} {i : Nat} {mn : M (List D)} (p : PS X st (tAsg te (gName i))) (ev : EvN Z te W mn) : ML Z X W st (sNew i mn) := by
  refine ⟨_, p, fun σ F H e w N hp => ?_⟩
  refine ev σ F H e w _ ?_
  unfold sNew at hp
  cases hm : mn e with
  | no => rw [hm] at hp; exact hp.elim
  | ex c' fs e1 => rw [hm] at hp; exact fun d' F' H' s xf => hp d' σ F' H' s.toSq xf
  | ok ds e1 =>
    rw [hm] at hp
    intro F1 H1 s p vs n1 n2 n3 rd
    change PostS Z W σ F H e (match setE i (.own (.lst ds)) e1 with
      | some e2 => .nx e2
      | none => .no) N at hp
    cases hs : setE i (.own (.lst ds)) e1 with
    | none => rw [hs] at hp; exact hp.elim
    | some e2 => rw [hs] at hp; exact hp _ F1 H1 (Sq.setN w s hs n1 n2 n3 rd)
section
variable {k : Nat} (B : Bd Z X W k)
include B
theorem lc_line {elt tg iter : Expr} {ifs : List Expr} {scope : Scope} {own : List (Str × Nat)} {src : M (List D)} {t : Tg} {c : M Bool} {y : M D} {o1 : List Nat} {i : Nat} {n : Str} {py spos : Pos} (hy : X.N[i]? = some n) (hi : MI Z X W tg iter src) (ok : BlkOk X.N X.env.scope scope own) (to : TgOwn o1 t)
    (hg : ∀ (s : Shared) (H : Hp) (C : Addr) (cl : List (Str × Addr)) (fp : List Addr), MG Z (X.blk s H scope (compEnvC scope cl C X.env) fp) tg t o1)
    (ht : ∀ (s : Shared) (H : Hp) (C : Addr) (cl : List (Str × Addr)) (fp : List Addr), MTs Z (X.blk s H scope (compEnvC scope cl C X.env) fp) noW ifs c)
    (he : ∀ (s : Shared) (H : Hp) (C : Addr) (cl : List (Str × Addr)) (fp : List Addr), ME Z (X.blk s H scope (compEnvC scope cl C X.env) fp) noW elt y)
    (ho : ∀ i ∈ o1, i ∈ own.map (·.2)) (hyl : X.env.scope.names.lookup n = some .local := by rfl) (hsw : swapsWith (.ListComp elt [⟨tg, iter, ifs, 0⟩] scope pos) (some (.Name n py)) spos.line X.env = pure true := by rfl) (hs : ∀ x, foldedSetIterable iter X.env x = pure x := by intro _; rfl) :
    ∃ te, PS X (.Assign [.Name n py] (.ListComp elt [⟨tg, iter, ifs, 0⟩] scope pos) spos) (tAsg te (gName i)) ∧ EvN Z te W (cLc src (own.map (·.2)) t c y) := by
  obtain ⟨wi, p1, v1⟩ := hi
  exact ⟨_, ps_setLc B.calm B.nd hy hyl hsw p1 ok (fun s H C cl fp => pg_M (hg s H C cl fp)) (fun s H C cl fp => pts_tM (ht s H C cl fp)) (fun s H C cl fp => pe_tM (he s H C cl fp)) hs, eve_lc v1 (evg_M to) ho evt_tM eve_tM⟩
theorem s_setLc {elt tg iter : Expr} {ifs : List Expr} {scope : Scope} {own : List (Str × Nat)} {src : M (List D)} {t : Tg} {c : M Bool} {y : M D} {o1 : List Nat} {i : Nat} {n : Str} {py spos : Pos} (hy : X.N[i]? = some n) (hi : MI Z X W tg iter src) (ok : BlkOk X.N X.env.scope scope own) (to : TgOwn o1 t)
    (hg : ∀ (s : Shared) (H : Hp) (C : Addr) (cl : List (Str × Addr)) (fp : List Addr), MG Z (X.blk s H scope (compEnvC scope cl C X.env) fp) tg t o1)
    (ht : ∀ (s : Shared) (H : Hp) (C : Addr) (cl : List (Str × Addr)) (fp : List Addr), MTs Z (X.blk s H scope (compEnvC scope cl C X.env) fp) noW ifs c)
    (he : ∀ (s : Shared) (H : Hp) (C : Addr) (cl : List (Str × Addr)) (fp : List Addr), ME Z (X.blk s H scope (compEnvC scope cl C X.env) fp) noW elt y)
    (ho : ∀ i ∈ o1, i ∈ own.map (·.2)) (hyl : X.env.scope.names.lookup n = some .local := by rfl) (hsw : swapsWith (.ListComp elt [⟨tg, iter, ifs, 0⟩] scope pos) (some (.Name n py)) spos.line X.env = pure true := by rfl) (hs : ∀ x, foldedSetIterable iter X.env x = pure x := by intro _; rfl) :
    ML Z X W (.Assign [.Name n py] (.ListComp elt [⟨tg, iter, ifs, 0⟩] scope pos) spos) (sSet i (cOfNew (cLc src (own.map (·.2)) t c y))) := by
  obtain ⟨te, p, ev⟩ := lc_line B hy hi ok to hg ht he ho hyl hsw hs
  exact ml_setT p (eve_ofNew ev)
theorem s_newLc {elt tg iter : Expr} {ifs : List Expr} {scope : Scope} {own : List (Str × Nat)} {src : M (List D)} {t : Tg} {c : M Bool} {y : M D} {o1 : List Nat} {i : Nat} {n : Str} {py spos : Pos} (hy : X.N[i]? = some n) (hi : MI Z X W tg iter src) (ok : BlkOk X.N X.env.scope scope own) (to : TgOwn o1 t)
    (hg : ∀ (s : Shared) (H : Hp) (C : Addr) (cl : List (Str × Addr)) (fp : List Addr), MG Z (X.blk s H scope (compEnvC scope cl C X.env) fp) tg t o1)
    (ht : ∀ (s : Shared) (H : Hp) (C : Addr) (cl : List (Str × Addr)) (fp : List Addr), MTs Z (X.blk s H scope (compEnvC scope cl C X.env) fp) noW ifs c)
    (he : ∀ (s : Shared) (H : Hp) (C : Addr) (cl : List (Str × Addr)) (fp : List Addr), ME Z (X.blk s H scope (compEnvC scope cl C X.env) fp) noW elt y)
    (ho : ∀ i ∈ o1, i ∈ own.map (·.2)) (hyl : X.env.scope.names.lookup n = some .local := by rfl) (hsw : swapsWith (.ListComp elt [⟨tg, iter, ifs, 0⟩] scope pos) (some (.Name n py)) spos.line X.env = pure true := by rfl) (hs : ∀ x, foldedSetIterable iter X.env x = pure x := by intro _; rfl) :
    ML Z X W (.Assign [.Name n py] (.ListComp elt [⟨tg, iter, ifs, 0⟩] scope pos) spos) (sNew i (cLc src (own.map (·.2)) t c y)) := by
  obtain ⟨te, p, ev⟩ := lc_line B hy hi ok to hg ht he ho hyl hsw hs
  exact ml_newT p ev
end
end
/-- a class's __init__ with defaults, all given by their names -/
theorem mk_binds {K : PySem.W.Frag} {x qual : Str} {params : Arguments} {body : List Stmt} {scope : Scope} {dvs : List V} {kws : List (Str × V)} {f : Addr} {fd : FuncData} {ps : List Str} (F : FunD K x qual params body scope dvs kws f fd) (ks : List Str) (g : {α : Type} → List α → List α) (hd : dvs ≠ [])
    (h : ∀ (T : Addr) (kV doc pm : Value) (an : Option Addr) (cdv ct : Value) (u : Value) (its ws : List Value), its.length = dvs.length → ws.length = ks.length →
      ∃ k, bindArgs (PySem.W.fnOf x qual params body scope (.ref T) kV doc pm an cdv ct) ⟨[u], ks.zip ws⟩ = seqItems? (.ref T) >>= k ∧ k (some its.toArray) = pure (ps.zip (u :: g ws))) :
    ∀ (s : Shared) (u : Value) (ws : List Value), K.In s.heap → ws.length = ks.length → BindsTo s fd ⟨[u], ks.zip ws⟩ (ps.zip (u :: g ws)) := by
  obtain ⟨oc, od, dV, kV, doc, pm, an, cdv, ct, osl, rfl, lk, hcd, hD, hK⟩ := F.ex
  rcases hD with ⟨e, _⟩ | ⟨_, T, o, its, m, rfl, lT, oT, rT⟩
  · exact absurd e hd
  · intro s u ws X hl
    obtain ⟨k, e1, e2⟩ := h T kV doc pm an cdv ct u its ws rT.length.symm hl
    refine BindsTo.of_looks fun M => ?_
    rw [e1]
    exact looks_items X lT oT (.of_pure e2)
end Md

/-! Md18: thunks: f(lambda: e), the def f calls what it got. -/
namespace Md
open PySem PySem.Spec PyProof.Rows L2
/-! ### worlds with a thunk -/
def Wd.wf (Z : Wd) (t : Addr × Hp × Addr × Str) : Wd := ⟨Z.CL, Z.K, Z.T, some t⟩
section
variable {Z : Wd} {F : Hp} {t : Addr × Hp × Addr × Str}
mutual
def D.nofn : D → Bool
  | .tup ds => nofnA ds
  | .lst ds => nofnA ds
  | .ins _ fs => nofnF fs
  | .exc _ fs => nofnF fs
  | .dk kvs => nofnK kvs
  | .fn => false
  | _ => true
def nofnA : List D → Bool
  | [] => true
  | d :: ds => d.nofn && nofnA ds
def nofnF : List (Str × D) → Bool
  | [] => true
  | (_, d) :: ds => d.nofn && nofnF ds
def nofnK : List (Key × D) → Bool
  | [] => true
  | (_, d) :: ds => d.nofn && nofnK ds
end
mutual
theorem RD.up (hz : Z.fn = none) : ∀ {v : V} {d : D}, RD Z F v d → RD (Z.wf t) F v d
  | _, _, .non => .non
  | _, _, .bl b => .bl b
  | _, _, .int i => .int i
  | _, _, .str x => .str x
  | _, _, .tup h r => .tup (Z := Z.wf t) h (r.up hz)
  | _, _, .lst h r => .lst h (r.up hz)
  | _, _, .scr h => .scr (Z := Z.wf t) h
  | _, _, .ins h r => .ins (Z := Z.wf t) h (r.up hz)
  | _, _, .exc h hd r => .exc (Z := Z.wf t) h hd (r.up hz)
  | _, _, .exc0 h => .exc0 (Z := Z.wf t) h
  | _, _, .dk h r => .dk h (r.up hz)
  | _, _, .fn h x => by rw [hz] at h; cases h
theorem RDs.up (hz : Z.fn = none) : ∀ {vs : List V} {ds : List D}, RDs Z F vs ds → RDs (Z.wf t) F vs ds
  | _, _, .nil => .nil
  | _, _, .cons h r => .cons (h.up hz) (r.up hz)
theorem RDf.up (hz : Z.fn = none) : ∀ {vs : List (Str × V)} {ds : List (Str × D)}, RDf Z F vs ds → RDf (Z.wf t) F vs ds
  | _, _, .nil => .nil
  | _, _, .cons h r => .cons (h.up hz) (r.up hz)
theorem RDk.up (hz : Z.fn = none) : ∀ {vs : List (Key × V)} {ds : List (Key × D)}, RDk Z F vs ds → RDk (Z.wf t) F vs ds
  | _, _, .nil => .nil
  | _, _, .cons h r => .cons (h.up hz) (r.up hz)
end
mutual
theorem RD.down : ∀ {v : V} {d : D}, RD (Z.wf t) F v d → d.nofn = true → RD Z F v d
  | _, _, .non, _ => .non
  | _, _, .bl b, _ => .bl b
  | _, _, .int i, _ => .int i
  | _, _, .str x, _ => .str x
  | _, _, .tup h r, n => .tup (Z := Z) h (r.down (by rw [D.nofn] at n; exact n))
  | _, _, .lst h r, n => .lst h (r.down (by rw [D.nofn] at n; exact n))
  | _, _, .scr h, _ => .scr (Z := Z) h
  | _, _, .ins h r, n => .ins (Z := Z) h (r.down (by rw [D.nofn] at n; exact n))
  | _, _, .exc h hd r, n => .exc (Z := Z) h hd (r.down (by rw [D.nofn] at n; exact n))
  | _, _, .exc0 h, _ => .exc0 (Z := Z) h
  | _, _, .dk h r, n => .dk h (r.down (by rw [D.nofn] at n; exact n))
  | _, _, .fn h x, n => by simp [D.nofn] at n
theorem RDs.down : ∀ {vs : List V} {ds : List D}, RDs (Z.wf t) F vs ds → nofnA ds = true → RDs Z F vs ds
  | _, _, .nil, _ => .nil
  | _, _, .cons h r, n => by
    rw [nofnA, Bool.and_eq_true] at n
    exact .cons (h.down n.1) (r.down n.2)
theorem RDf.down : ∀ {vs : List (Str × V)} {ds : List (Str × D)}, RDf (Z.wf t) F vs ds → nofnF ds = true → RDf Z F vs ds
  | _, _, .nil, _ => .nil
  | _, _, .cons h r, n => by
    rw [nofnF, Bool.and_eq_true] at n
    exact .cons (h.down n.1) (r.down n.2)
theorem RDk.down : ∀ {vs : List (Key × V)} {ds : List (Key × D)}, RDk (Z.wf t) F vs ds → nofnK ds = true → RDk Z F vs ds
  | _, _, .nil, _ => .nil
  | _, _, .cons h r, n => by
    rw [nofnK, Bool.and_eq_true] at n
    exact .cons (h.down n.1) (r.down n.2)
end
end
theorem ExF.up {Z : Wd} {F : Hp} {t : Addr × Hp × Addr × Str} {d : Option Addr} {fs : List (Str × D)} (hz : Z.fn = none) (h : ExF Z F d fs) : ExF (Z.wf t) F d fs := by
  rcases h with h | ⟨dx, fvs, h1, h2, h3⟩
  · exact .inl h
  · exact .inr ⟨dx, fvs, h1, h2, h3.up hz⟩
theorem ExF.down {Z : Wd} {F : Hp} {t : Addr × Hp × Addr × Str} {d : Option Addr} {fs : List (Str × D)} (h : ExF (Z.wf t) F d fs) (n : nofnF fs = true) : ExF Z F d fs := by
  rcases h with h | ⟨dx, fvs, h1, h2, h3⟩
  · exact .inl h
  · exact .inr ⟨dx, fvs, h1, h2, h3.down n⟩
/-! ### steps of a callee that owns nothing, seen by the caller -/
/-- no slot's object -/
def Nob (e : En) : Prop := ∀ (i : Nat) (s : Slot), e[i]? = some s → s.obj.isSome = true → False
theorem Sx.ofNob {Z1 Z2 : Wd} {σ1 σ2 σ3 : L2.St} {F H F' H' : Hp} {e1 e1' e2 : En} (hT : Z1.T = Z2.T) (nb : Nob e1) (s : Sq Z1 σ1 F H e1 σ3 F' H' e1') (w : WF Z2 F H σ2 e2) : Sx Z2 σ2 F H e2 F' H' e2 := by
  have nob : ∀ a, ¬ Owns σ1 e1 a := fun a ⟨i, t, h1, h2, _⟩ => nb i t h1 h2
  have ext := s.ext
  refine ⟨⟨⟨s.wf.sub, w.len, fun i t o h1 h2 => ?_, w.sep, ⟨by rw [← hT]; exact s.wf.tabs.1, by rw [← hT]; exact s.wf.tabs.2.1, fun a c F0 q hq => s.frame c _ (w.tabs.2.2 a c F0 q hq) (fun ps z => by cases z) (nob c)⟩⟩, ext, fun a o h nt _ => s.frame a o h nt (nob a), s.keep, fun a h1 h2 _ => s.new a h1 h2 (nob a), fun a h => .inl h, fun i q h => ⟨⟨q, h⟩, rfl⟩⟩, Kd.refl e2⟩
  have z := w.slot i t o h1 h2
  cases t with
  | unk => trivial
  | dat d => obtain ⟨v, h3, h4⟩ := z; exact ⟨v, h3, h4.mono ext⟩
  | own r =>
    obtain ⟨b, h3, h4, h5⟩ := z
    obtain ⟨u, h6, h7⟩ := h5.there
    exact ⟨b, h3, s.new b h4 (by rw [h6]; simp) (nob b), h5.mono ext fun o ho => by rw [h6] at ho; cases ho; exact s.frame b _ h6 h7 (nob b)⟩
  | io r =>
    obtain ⟨b, h3, h4, h5⟩ := z
    obtain ⟨u, h6, h7⟩ := h5.there
    exact ⟨b, h3, s.new b h4 (by rw [h6]; simp) (nob b), h5.mono ext fun o ho => by rw [h6] at ho; cases ho; exact s.frame b _ h6 h7 (nob b)⟩
/-! ### what a thunk sees: the caller's data -/
def capS : Slot → Slot
  | .dat d => .dat d
  | _ => .unk
def capE (e : En) : En := e.map capS
theorem nob_cap {e : En} : Nob (capE e) := fun i s h ho => by
  unfold capE at h
  rw [List.getElem?_map] at h
  cases q : e[i]? with
  | none => rw [q] at h; cases h
  | some t =>
    rw [q] at h
    cases h
    cases t <;> cases ho
theorem wf_cap {Z : Wd} {F F' H H' : Hp} {σ : L2.St} {e : En} (w : WF Z F H σ e) (x : Ex F F') (sb : Ex F' H') (tb : TabsZ Z F' H') : WF Z F' H' σ (capE e) where
  sub := sb
  len := by unfold capE; rw [List.length_map]; exact w.len
  slot := fun i s o h1 h2 => by
    unfold capE at h1
    rw [List.getElem?_map] at h1
    cases q : e[i]? with
    | none => rw [q] at h1; cases h1
    | some t =>
      rw [q] at h1
      cases h1
      have z := w.slot i t o q h2
      cases t with
      | dat d => obtain ⟨v, h3, h4⟩ := z; exact ⟨v, h3, h4.mono x⟩
      | unk => trivial
      | own r => trivial
      | io r => trivial
  sep := fun i j a s t h1 _ h3 _ _ _ => (nob_cap i s h1 h3).elim
  tabs := tb
/-- ask() in the def that got the thunk; r: what the thunk gives -/
def askR (r : R D) (e : En) : R D := match r with
  | .ok d _ => .ok d e
  | .ex c fs _ => .ex c fs e
  | .no => .no
def cAsk (i : Nat) (r : R D) : M D := fun e => match e[i]? with
  | some (.dat .fn) => askR r e
  | _ => .no
/-- f(lambda: e) -/
def lamR (r : R D) (e : En) : R D := match r with
  | .ok d _ => if d.nofn = true then .ok d e else .no
  | .ex c fs _ => if nofnF fs = true then .ex c fs e else .no
  | .no => .no
def cLam (f : R D → R D) (m : M D) : M D := fun e => lamR (f (m (capE e))) e
/-- a def that calls what it got: body by what the thunk gives, run on it -/
def runAsk (m : Nat) (body : R D → MS) : R D → R D := fun r => runFn m (body r) [.dat .fn]
section
variable {X : Cx} {Z : Wd} {W : WX} {σ : L2.St} {F H : Hp} {e : En}
/-- the thunk's context -/
theorem be_lam {A : Around} {outer : List Env} {s : Shared} {H : Hp} {E : XK} {scope : Scope} {f c' : Addr} {k : Nat} (hK : X.K = Z.K) (nd : X.N.Nodup) (hr : Room k (A.deeper (LamX.lamEnv X scope s.heap.objs.size f c'))) (hg : A.guards = some []) :
    Be Z (LamX.lamCx X A outer s H E scope f c') (fun cls d _ H' => E cls d H') k :=
  ⟨hK, hr, hg, takes_of rfl rfl rfl rfl, rfl, nd⟩
/-- the made lambda: the table alone is written -/
theorem lam_made {c P : Addr} {params : Arguments} {body : Expr} {scope : Scope} {pos : Pos} {pins : List (Addr × Obj)} {s : Shared} {Err : Value → Shared → Prop} {Q : Value → Shared → Prop} (I : Inv X pins σ H s) (TB : LamX.TabB X.base X.mg c P) (hcode : X.env.code = .ref c) (tq : LamX.TabS H P (X.env.qual ++ "<lambda>"))
    (hdef : defaultsOf params X.env = ([], [])) (hfree : ∀ y ∈ scope.names, y.2 = .free → ∃ c, X.env.cells.lookup y.1 = some c)
    (h : ∀ (f c' : Addr) (pm ctv : Value) (H1 : Hp) (s' : Shared), Inv X pins σ H1 s' → (∀ b o, H b = some o → b ≠ P → H1 b = some o) → LamX.TabS H1 P (X.env.qual ++ "<lambda>") →
      s'.heap.get? f = some (PySem.W.kla_obj "<lambda>" (X.env.qual ++ "<lambda>") params body scope (cloFrom X.env.cells scope.names []) pm c' ctv) → H1 f = none → f ∉ frs X.stack → H1 c' = some (LamX.CodeO c' (X.env.qual ++ "<lambda>")) → Q (.ref f) s') :
    wpAny (model X.prog X.w) X.A (eval (.Lambda params body scope pos) X.env) Q Err s := by
  obtain ⟨ps, hP, ht, ha⟩ := tq
  refine PySem.W.kla_eval hdef ?_
  have gP : s.heap.get? P = some { cls := .none, data := .fields ps } := I.hok P _ hP
  have off : ∀ b, s.heap.objs.size ≤ b → b ∉ frs X.stack := fun b hb z => by
    rcases List.mem_cons.mp (I.stkSub _ z) with q | q
    · have lt := I.lt
      rw [← q] at lt
      exact absurd (Nat.lt_of_lt_of_le lt hb) (Nat.lt_irrefl _)
    · exact I.nofs hb q
  cases hc : codeAmong pos ps.toList with
  | some cv =>
    obtain ⟨c', ec, hco⟩ := ha pos cv hc
    subst ec
    refine PySem.W.kla_makeFunctionHit (mg := X.mg) (c := c) (P := P) (ps := ps) (closure_ok hfree) I.ok.glob (I.mod.glob.keeps I.bk) hcode (TB.code.keeps I.bk) gP ht hc (TB.bm.keeps I.bk) fun ctv h' tk up sz => ?_
    exact h h'.objs.size c' _ ctv H _ (I.kept fun b o q => Heap.get?_push_of_some _ (up b o q)) (fun b o q _ => q) ⟨ps, hP, ht, ha⟩ (Heap.get?_push_size _ rfl) (I.hok.fresh sz) (off _ sz) hco
  | none =>
    refine PySem.W.kla_makeFunction (mg := X.mg) (c := c) (P := P) (ps := ps) (closure_ok hfree) I.ok.glob (I.mod.glob.keeps I.bk) hcode (TB.code.keeps I.bk) gP ht hc TB.gP (TB.bm.keeps I.bk) fun c' ctv h' tk up ge lt rc tb => ?_
    obtain ⟨c2, oc, vs, tt, e2, o1, o2, o3⟩ := rc
    cases e2
    have sz : s.heap.objs.size ≤ h'.objs.size := by omega
    have nC : H c' = none := I.hok.fresh ge
    have J := LamX.inv_table (t' := tk) (q := X.env.qual ++ "<lambda>") (more := #[rawInt pos.line, rawInt pos.col, .ref c']) (h' := h'.push (PySem.W.kla_obj "<lambda>" (X.env.qual ++ "<lambda>") params body scope (cloFrom X.env.cells scope.names []) ((X.mg "__name__").getD .none) c' ctv)) I hP
      (fun b o nb q => Heap.get?_push_of_some _ (up b o nb q)) (Heap.get?_push_of_some _ tb) ge ⟨oc, vs, tt, Heap.get?_push_of_some _ o1, o2, o3⟩
    have nPc : P ≠ c' := ne_of_none hP nC
    have kp : ∀ b o, H b = some o → b ≠ P → upd (upd H P (.tbl (ps ++ #[rawInt pos.line, rawInt pos.col, .ref c']))) c' (LamX.CodeO c' (X.env.qual ++ "<lambda>")) b = some o := fun b o q nb => by
      rw [upd_ne (ne_of_none q nC), upd_ne nb]
      exact q
    have eL : (ps ++ #[rawInt pos.line, rawInt pos.col, .ref c']).toList = ps.toList ++ [rawInt pos.line, rawInt pos.col, .ref c'] := by simp
    refine h h'.objs.size c' _ ctv _ _ J kp ⟨_, by rw [upd_ne nPc, upd_same], by rw [eL]; exact PySem.TriplesOk_snoc _ _ _ _ ht, fun p' cv hcv => ?_⟩ (Heap.get?_push_size _ rfl) ?_ (off _ sz) upd_same
    · rw [eL] at hcv
      rcases LamX.among_app _ ht hcv with z | z
      · obtain ⟨c0, q1, q2⟩ := ha p' cv z
        refine ⟨c0, q1, kp _ _ q2 fun zz => ?_⟩
        rw [zz, hP] at q2
        cases q2
      · exact ⟨c', z, upd_same⟩
    · have a1 : h'.objs.size ≠ c' := by omega
      have a2 : h'.objs.size ≠ P := Nat.ne_of_gt (Nat.lt_of_lt_of_le (Heap.lt_size gP) sz)
      rw [upd_ne a1, upd_ne a2]
      exact I.hok.fresh sz
/-- x(), in the def that got the thunk, the errors wished for at its slots -/
theorem pe_ask {CXg : CXT} {Eg : XK} {Ng : List Str} {qg : Str} {sg : Scope} {g f c' : Addr} {cdg pm ctv : Value} {params : Arguments} {body : Expr} {scope : Scope} {k i : Nat} {a : Str} {pn : List (Addr × Obj)} {xe : Value → Shared → Prop} {W : WX} {tb : XK → TE} {p1 p2 : Pos} {pins : List (Addr × Obj)} {s : Shared}
    (I : Inv X pins σ H s) (L : LamX.LamS X.env.scope scope) (hf : s.heap.get? f = some (PySem.W.kla_obj "<lambda>" (X.env.qual ++ "<lambda>") params body scope (cloFrom X.env.cells scope.names []) pm c' ctv)) (hfn : H f = none) (hfr : f ∉ frs X.stack)
    (hbind : bindArgs (PySem.W.kla_fn "<lambda>" (X.env.qual ++ "<lambda>") params body scope (cloFrom X.env.cells scope.names []) pm (.ref c') ctv) ⟨[], []⟩ = pure [])
    (tk : Takes ((cxOf CXg X.prog X.w X.K X.mg X.base Ng qg sg g cdg X.A X.stack s H Eg).tr pn xe) W) (hr : Room (k + 1) (X.A.deeper (envOfC qg sg s.heap.objs.size g cdg)))
    (hbody : ∀ (E : XK) (A : Around) (outer : List Env) (s1 : Shared) (H1 : Hp), A.guards = X.A.guards → Room k (A.deeper (LamX.lamEnv X scope s1.heap.objs.size f c')) → PE (LamX.lamCx X A outer s1 H1 E scope f c') body (tb E))
    (hN : Ng[i]? = some a) (hv : Vis sg a) (hd : (a == ("__debug__" : Str)) = false) (hcd : (a == ("__classdict__" : Str)) = false) :
    PE ((cxOf CXg X.prog X.w X.K X.mg X.base Ng qg sg g cdg X.A X.stack s H Eg).tr pn xe) (.Call (.Name a p1) [] [] p2)
      (fun τ G Q => τ[i]? = some (some (.ref f)) ∧ G c' = some (LamX.CodeO c' (X.env.qual ++ "<lambda>")) ∧ tb (WE W τ) σ G Q) := by
  refine ⟨fun pz sz τ G Q IZ h => ?_⟩
  obtain ⟨q1, q2, q3⟩ := h
  refine wpAny_Call_Name_kw (thn ((pe_var (pos := p1) (i := i) hN hv hd hcd).run pz sz τ G (fun v H1 => v = .ref f ∧ H1 = G) IZ ⟨.ref f, q1, rfl, rfl⟩) fun u s1 ⟨v, H1, I1, r1, ev, eH⟩ => ?_)
  subst ev eH
  obtain rfl : u = Value.ref f := r1
  have fo : s1.heap.get? f = some (PySem.W.kla_obj "<lambda>" (X.env.qual ++ "<lambda>") params body scope (cloFrom X.env.cells scope.names []) pm c' ctv) := I1.base.keep f _ hf hfn hfr (by intro z; cases (show f ∈ ([] : List Addr) from z))
  refine PySem.W.callWith_F0 ⟨_, _, _, _, fo⟩ ?_
  obtain ⟨⟨oc, vs, tt, c1, c2, c3⟩, _, _⟩ := I1.hok c' _ q2
  have run : codeAny (model X.prog X.w) (X.A.deeper (envOfC qg sg s.heap.objs.size g cdg)) (.call (.ref f) ⟨[], []⟩) (CR (L2.CX X.prog X.w) (envOfC qg sg s.heap.objs.size g cdg :: X.stack) X.prog X.w H1 s1 Q (WE W τ)) s1 := by
    refine PySem.W.kla_callFunE hr.depth fo rfl L.co L.gen rfl ⟨c', oc, vs, tt, rfl, c1, c2, c3⟩ ?_
    rw [hbind]
    refine wpAny_pure (wpAny_newFunctionEnv (fun y hy => (L.own y hy).2) (fun y hy => by cases hy) (fun h1 ns sb => ⟨I1.nolimit.fresh _ sb, ?_⟩) L.kind)
    show codeAny _ _ (.expr body (LamX.lamEnv X scope s1.heap.objs.size f c')) _ _
    have J : Inv (LamX.lamCx X (X.A.deeper (envOfC qg sg s.heap.objs.size g cdg)) (envOfC qg sg s.heap.objs.size g cdg :: X.stack) s1 H1 (WE W τ) scope f c') [] σ H1 { s1 with heap := h1, toks := s1.toks + ([] : List (Str × Value)).length } :=
      LamX.lam_start2 I L I1.env0 hr.hd I1.base ns fun b o q => sb.extBut b o (Nat.ne_of_lt (Heap.lt_size q)) (Heap.get?_push_of_some _ q)
    refine PySem.W.kla_codeExpr (wpAny_mono ((hbody (WE W τ) (X.A.deeper (envOfC qg sg s.heap.objs.size g cdg)) _ s1 H1 rfl (hr.deeper _)).run [] _ _ H1 Q J q3) (fun v s' hq => ?_) fun _ _ hq => hq)
    obtain ⟨w', H', J', rv, q⟩ := hq
    exact ⟨w', H', J'.os, J'.bare, J'.base, J'.hok, rv, q⟩
  refine wpAny_call (codeAny_mono run fun r s' hq => ?_)
  match r, hq with
  | .error er, hq => exact passAt tk τ pz H1 s1 er s' I1 hq
  | .ok (.ret u), hq => exact I1.after hq
  | .ok .next, hq => exact hq.elim
  | .ok .brk, hq => exact hq.elim
  | .ok .cont, hq => exact hq.elim
end
/-! ### the def that calls what it got -/
/-- in whatever context the def's body is walked: bf by what ask() gives -/
structure Gives (P : Program) (w : World) (Z : Wd) (mg : Str → Option Value) (base : Heap) (k m : Nat) (name ask : Str) (bf : R D → MS) : Prop where
  ex : ∃ (g : Addr) (fd : FuncData) (params : Arguments) (body : List Stmt) (scope : Scope) (N : List Str), mg name = some (.ref g) ∧ PySem.W.keepIn Z.K (.ref g) = true ∧ FunD Z.K name name params body scope [] [] g fd ∧ FnScope N [ask] scope ∧ N.length = 1 + m ∧ N[0]? = some ask ∧ Vis scope ask ∧ Binds Z.K fd [ask] [] ∧
    ∀ (t : Addr × Hp × Addr × Str) (r : R D) (cdv : Value) (A : Around) (outer : List Env) (s : Shared) (H : Hp) (E : XK), Room k (A.deeper (envOfC name scope s.heap.objs.size g cdv)) → A.guards = some [] →
      (∀ (W : WX) (pn : List (Addr × Obj)) (xe : Value → Shared → Prop), Takes ((cxOf (L2.CX P w) P w Z.K mg base N name scope g cdv A outer s H E).tr pn xe) W → ∀ p1 p2 : Pos, ME (Z.wf t) ((cxOf (L2.CX P w) P w Z.K mg base N name scope g cdv A outer s H E).tr pn xe) W (.Call (.Name ask p1) [] [] p2) (cAsk 0 r)) →
      MLs (Z.wf t) (cxOf (L2.CX P w) P w Z.K mg base N name scope g cdv A outer s H E) (fun c d _ H' => E c d H') body (bf r)
section
variable {X : Cx} {Z : Wd} {W : WX} {k kc m : Nat} {n ask : Str} {bf : R D → MS} {params : Arguments} {body : Expr} {scope : Scope} {p lpos pos : Pos} {mb : M D} {c P : Addr}
theorem e_lam (B : Be Z X W k) (hz : Z.fn = none) (G : Gives X.prog X.w Z X.mg X.base kc m n ask bf) (hkc : kc + 1 ≤ k) (TB : LamX.TabB X.base X.mg c P) (hcode : X.env.code = .ref c) (hmT : (P, X.env.qual ++ "<lambda>") ∈ Z.T) (hu : ∀ q ∈ Z.T, q.1 = P → q.2 = X.env.qual ++ "<lambda>") (j : Nat) (hj : j + 1 ≤ kc)
    (hbody : ∀ (A : Around) (outer : List Env) (s : Shared) (H : Hp) (E : XK) (f c' : Addr), Be Z (LamX.lamCx X A outer s H E scope f c') (fun cls d _ H' => E cls d H') j → ME Z (LamX.lamCx X A outer s H E scope f c') (fun cls d _ H' => E cls d H') body mb)
    (hg : Gl X n := by rfl) (L : LamX.lamSB X.env.scope scope = true := by rfl) (hdef : defaultsOf params X.env = ([], []) := by rfl)
    (hbind : ∀ (q : Str) (cl : List (Str × Addr)) (pm cv ctv : Value), bindArgs (PySem.W.kla_fn "<lambda>" q params body scope cl pm cv ctv) ⟨[], []⟩ = pure [] := by intros; rfl)
    (hdb : (n == ("__debug__" : Str)) = false := by decide) (hd : (ask == ("__debug__" : Str)) = false := by decide) (hcd : (ask == ("__classdict__" : Str)) = false := by decide) :
    ME Z X W (.Call (.Name n p) [.Lambda params body scope lpos] [] pos) (cLam (runAsk m bf) mb) := by
  obtain ⟨g, fd, pg, bg, sg, N, h1, h2, FD, S, hNl, hN0, hvs, hbnd, hbd⟩ := G.ex
  have eK := B.hK
  have LS := LamX.lamS_by L
  refine ⟨tM Z W (cLam (runAsk m bf) mb), ⟨fun pins s σ H Q I hq => ?_⟩, eve_tM⟩
  obtain ⟨F, e, w, hp⟩ := hq
  refine wpAny_Call_Name_kw (ld_glob I hg h1 ?_ hdb)
  refine PySem.W.callWith_K (h₀ := X.base) I.ok.mod.kin (by rw [eK]; exact h2) ?_ (by rfl) (by rfl)
  show wpAny _ _ (spliced ((false, eval (.Lambda params body scope lpos) X.env) :: backTo pos (starEach [] X.env))) _ _ s
  refine Calls.spliced_cons (lam_made I TB hcode (w.tabs.1 _ hmT) hdef (LS.has I.ok) fun f c' pm' ctv H1 s' I1 kp tq hf hfn hfr hco => ?_)
  refine Calls.spliced_nil ⟨I1.kIn, ?_⟩
  obtain ⟨pP, hPP, _, _⟩ := w.tabs.1 _ hmT
  have fP : F P = none := w.tabs.2.1 _ hmT
  have x1 : Ex F H1 := fun a o q => kp a o (w.sub a o q) fun z => by rw [z, fP] at q; cases q
  have tz : TabsZ Z F H1 := by
    refine ⟨fun q hq => ?_, w.tabs.2.1, fun a c F0 q hq => by rw [hz] at hq; cases hq⟩
    by_cases hqP : q.1 = P
    · have e2 := hu q hq hqP
      obtain ⟨q1, q2⟩ := q
      dsimp only at hqP e2
      subst hqP e2
      exact tq
    · obtain ⟨ps, t1, t2, t3⟩ := w.tabs.1 q hq
      refine ⟨ps, kp _ _ t1 hqP, t2, fun pos cv r => ?_⟩
      obtain ⟨c0, r1, r2⟩ := t3 pos cv r
      refine ⟨c0, r1, kp _ _ r2 fun z => ?_⟩
      rw [z, hPP] at r2
      cases r2
  have w1 : WF Z F H1 σ e := by
    refine ⟨x1, w.len, fun i t o q1 q2 => ?_, w.sep, tz⟩
    have z := w.slot i t o q1 q2
    have up : ∀ (b : Addr) (q : OO), OOk Z F H b q → OOk Z F H1 b q := fun b q hq => by
      obtain ⟨u, u1, u2⟩ := hq.there
      exact hq.mono (Ex.refl F) fun o ho => kp b o ho fun zz => by
        rw [zz, hPP] at u1
        cases u1
        exact u2 _ rfl
    cases t with
    | unk => trivial
    | dat d => exact z
    | own r => obtain ⟨b, z1, z2, z3⟩ := z; exact ⟨b, z1, z2, up b r z3⟩
    | io r => obtain ⟨b, z1, z2, z3⟩ := z; exact ⟨b, z1, z2, up b r z3⟩
  have sx1 : Sx Z σ F H e F H1 e := by
    refine ⟨⟨w1, Ex.refl F, fun a o q nt _ => kp a o q fun z => ?_, fun a q => ?_, fun a q _ _ => q, fun a q => .inl q, fun i q hq => ⟨⟨q, hq⟩, rfl⟩⟩, Kd.refl e⟩
    · rw [z, hPP] at q
      cases q
      exact nt _ rfl
    · by_cases z : a = P
      · rw [z]
        obtain ⟨ps, t1, _⟩ := tq
        rw [t1]
        simp
      · cases hh : H a with
        | none => exact absurd hh q
        | some o => rw [kp a o hh z]; simp
  have hp1 := Post.rebase sx1 hp
  -- the def is run
  obtain ⟨oc, od, dV, kV, doc, pm, an, cdv, ct, osl, rfl, lk, hcd', hD, hK'⟩ := FD.ex
  have t0 : Addr × Hp × Addr × Str := (f, F, c', X.env.qual ++ "<lambda>")
  generalize ht : (f, F, c', X.env.qual ++ "<lambda>") = t at *
  have hroom : Room (kc + 1) X.A := B.room.mono hkc
  have zT : (Z.wf t).T = Z.T := rfl
  have run : codeAny (model X.prog X.w) X.A (.call (.ref g) ⟨[.ref f], []⟩) (CR (L2.CX X.prog X.w) X.stack X.prog X.w H1 s' Q (WE W σ)) s' := by
    refine LamX.run_ofS (N := N) (ps := [ask]) (us := [.ref f]) (vs := [.ref f]) (by rw [eK]; exact lk) (by rw [eK]; exact hcd') S hroom I1.env0 (hbnd s' [.ref f] (by rw [← eK]; exact I1.kIn) rfl) (.cons rfl .nil) rfl fun hr' => ?_
    have act : ∀ (W' : WX) (pn : List (Addr × Obj)) (xe : Value → Shared → Prop), Takes ((cxOf (L2.CX X.prog X.w) X.prog X.w X.K X.mg X.base N n sg g cdv X.A X.stack s' H1 (WE W σ)).tr pn xe) W' → ∀ p1 p2 : Pos, ME (Z.wf t) ((cxOf (L2.CX X.prog X.w) X.prog X.w X.K X.mg X.base N n sg g cdv X.A X.stack s' H1 (WE W σ)).tr pn xe) W' (.Call (.Name ask p1) [] [] p2) (cAsk 0 (mb (capE e))) := fun W' pn xe tk' p1 p2 => by
      refine ⟨_, pe_ask (i := 0) (k := j) (tb := fun E => tM Z (fun cls d _ H' => E cls d H') mb) I1 LS hf hfn hfr (hbind _ _ _ _ _) tk' (hr'.mono hj) (fun E A outer s1 H2 eg hr2 => pe_tM (hbody A outer s1 H2 E f c' (be_lam eK B.nd hr2 (eg.trans B.gd)))) hN0 hvs hd hcd, fun τ F' G e' w' Q' hp' => ?_⟩
      unfold cAsk at hp'
      cases he : e'[0]? with
      | none => rw [he] at hp'; exact hp'.elim
      | some sl =>
        cases sl with
        | unk => rw [he] at hp'; exact hp'.elim
        | own _ => rw [he] at hp'; exact hp'.elim
        | io _ => rw [he] at hp'; exact hp'.elim
        | dat d0 =>
          cases d0 with
          | fn =>
            rw [he] at hp'
            obtain ⟨o, ho, v, hv, hr0⟩ := w'.slotAt he
            subst hv
            cases hr0 with
            | fn hfe hx =>
              have e3 : some t = some _ := hfe
              rw [← ht] at e3
              cases e3
              refine ⟨ho, w'.tabs.2.2 f c' F _ (by rw [← ht]; rfl), F', capE e, wf_cap w1 hx w'.sub ⟨w'.tabs.1, w'.tabs.2.1, fun a c F0 q hq => by rw [hz] at hq; cases hq⟩, ?_⟩
              have hp2 : Post (Z.wf t) W' τ F' G e' (askR (mb (capE e)) e') (fun d F' H' => ∀ v, RD (Z.wf t) F' v d → Q' v H') := hp'
              cases hm : mb (capE e) with
              | no => rw [hm] at hp2; exact hp2.elim
              | ok d e1 =>
                rw [hm] at hp2
                exact fun F2 H2 s2 v rd => hp2 F2 H2 (Sx.ofNob zT.symm nob_cap s2.toSq w') v (rd.up hz)
              | ex cx fs e1 =>
                rw [hm] at hp2
                exact fun d' F2 H2 s2 xf => hp2 d' F2 H2 (Sx.ofNob zT.symm nob_cap s2.toSq w') (xf.up hz)
          | _ => rw [he] at hp'; exact hp'.elim
    have body' := hbd t (mb (capE e)) cdv X.A X.stack s' H1 (WE W σ) hr' B.gd
    rw [← eK] at body'
    obtain ⟨ts, pd, ev⟩ := body' act
    refine ⟨ts, pd, ?_⟩
    have es : L2.start N [V.ref f] = [some (V.ref f)] ++ List.replicate m none := by
      unfold L2.start
      rw [show N.length - [V.ref f].length = m by rw [hNl]; simp]
      rfl
    have wc : WF (Z.wf t) F H1 ([some (V.ref f)] ++ List.replicate m none) ([Slot.dat .fn] ++ List.replicate m .unk) := by
      refine ⟨x1, by simp, fun i u o q1 q2 => ?_, fun i i' a u v q1 _ q3 _ _ _ => ?_, ⟨tz.1, tz.2.1, fun a c F0 q hq => ?_⟩⟩
      · cases i with
        | zero =>
          cases q1
          cases q2
          exact ⟨_, rfl, .fn (c := c') (F0 := F) (q := X.env.qual ++ "<lambda>") (by rw [← ht]; rfl) (Ex.refl F)⟩
        | succ i =>
          rw [List.getElem?_append_right (by simp)] at q1
          obtain ⟨z1, z2⟩ := List.getElem?_eq_some_iff.mp q1
          rw [List.getElem_replicate] at z2
          subst z2
          trivial
      · cases i with
        | zero => cases q1; cases q3
        | succ i =>
          rw [List.getElem?_append_right (by simp)] at q1
          obtain ⟨z1, z2⟩ := List.getElem?_eq_some_iff.mp q1
          rw [List.getElem_replicate] at z2
          subst z2
          cases q3
      · have hq' : some t = some (a, F0, c, q) := hq
        rw [← ht] at hq'
        cases hq'
        exact hco
    rw [es]
    refine ev _ F H1 _ wc _ ?_
    have nbc : Nob ([Slot.dat .fn] ++ List.replicate m .unk) := fun i u q1 q3 => by
      cases i with
      | zero => cases q1; cases q3
      | succ i =>
        rw [List.getElem?_append_right (by simp)] at q1
        obtain ⟨z1, z2⟩ := List.getElem?_eq_some_iff.mp q1
        rw [List.getElem_replicate] at z2
        subst z2
        cases q3
    have hp3 : Post Z W σ F H1 e (lamR (runFn m (bf (mb (capE e))) [.dat .fn]) e) (fun d F' H' => ∀ v, RD Z F' v d → Q v H') := hp1
    unfold runFn at hp3
    cases ho : bf (mb (capE e)) ([Slot.dat .fn] ++ List.replicate m .unk) with
    | no => rw [ho] at hp3; exact hp3.elim
    | bk e' => rw [ho] at hp3; exact hp3.elim
    | ct e' => rw [ho] at hp3; exact hp3.elim
    | nx e' =>
      rw [ho] at hp3
      exact fun σ' F' H' s2 => hp3 F' H' (Sx.ofNob zT nbc s2 w1) _ .non
    | rt d e' =>
      rw [ho] at hp3
      intro v σ' F' H' s2 rd
      change Post Z W σ F H1 e (if d.nofn = true then _ else .no) _ at hp3
      by_cases hn : d.nofn = true
      · rw [if_pos hn] at hp3
        exact hp3 F' H' (Sx.ofNob zT nbc s2 w1) v (rd.down hn)
      · rw [if_neg hn] at hp3
        exact hp3.elim
    | ex cx fs e' =>
      rw [ho] at hp3
      intro d' σ' F' H' s2 xf
      change Post Z W σ F H1 e (if nofnF fs = true then _ else .no) _ at hp3
      by_cases hn : nofnF fs = true
      · rw [if_pos hn] at hp3
        exact hp3 d' F' H' (Sx.ofNob zT nbc s2 w1) (xf.down hn)
      · rw [if_neg hn] at hp3
        exact hp3.elim
  refine wpAny_call (codeAny_mono run fun r s2 hq => ?_)
  match r, hq with
  | .error er, hq => exact passAt B.tk σ pins H1 s' er s2 I1 hq
  | .ok (.ret u), hq => exact I1.after hq
  | .ok .next, hq => exact hq.elim
  | .ok .brk, hq => exact hq.elim
  | .ok .cont, hq => exact hq.elim
end
end Md

/-! Md19: f(e, .., k = v, ..). -/
namespace Md
open PySem PySem.Spec PyProof.Rows L2
/-- places, then keywords -/
def kcat (as bs : List Ar) (e : En) : R (List Ar) := .ok (as ++ bs) e
def kca (m : M (List Ar)) (as : List Ar) (e : En) : R (List Ar) := (m e).bind (kcat as)
def cACat (m1 m2 : M (List Ar)) : M (List Ar) := fun e => (m1 e).bind (kca m2)
section
variable {X : Cx} {Z : Wd} {W : WX} {σ : L2.St} {F H F' H' : Hp} {e : En} {a : Expr} {es : List Expr} {pos p : Pos}
theorem ArOk.app {vs ws : List V} {as bs : List Ar} (h : ArOk Z F σ vs as) (k : ArOk Z F σ ws bs) : ArOk Z F σ (vs ++ ws) (as ++ bs) := by
  induction h with
  | nil => exact k
  | d r _ ih => exact .d r ih
  | v r _ ih => exact .v r ih
theorem ArOk.up {vs : List V} {as : List Ar} (x : Ex F F') (h : ArOk Z F σ vs as) : ArOk Z F' σ vs as := by
  induction h with
  | nil => exact .nil
  | d r _ ih => exact .d (r.mono x) ih
  | v r _ ih => exact .v r ih
theorem me_callM {n : Str} {f : Addr} {fd : FuncData} {ps ks : List Str} {k np : Nat} {g : Sem} {kws : List Keyword} {m1 m2 : M (List Ar)} {gv : List Value → List Value → List Value} {gV : List V → List V → List V} {gD : List D → List D} (Fn : FnG X.prog X.w X.K X.mg X.base k f fd ps (spF Z ps.length g)) (hr : Room k X.A) (hgd : X.A.guards = some []) (hg : Gl X n) (hm : X.mg n = some (.ref f))
    (hk : PySem.W.keepIn X.K (.ref f) = true) (hb : ∀ (s : Shared) (us ws : List Value), X.K.In s.heap → us.length = np → ws.length = ks.length → BindsTo s fd ⟨us, ks.zip ws⟩ (ps.zip (gv us ws))) (rv : ∀ {vs zs : List V} {us ws : List Value}, us.length = np → ws.length = ks.length → Vals vs us → Vals zs ws → Vals (gV vs zs) (gv us ws)) (rd : ∀ {F : Hp} {vs zs : List V} {ds : List D}, vs.length = np → zs.length = ks.length → RDs Z F (vs ++ zs) ds → RDs Z F (gV vs zs) (gD ds)) (hgl : ∀ vs zs : List V, vs.length = np → zs.length = ks.length → (gV vs zs).length = ps.length)
    (tk : Takes X W) (h1 : MA Z X W (a :: es) m1) (h2 : MK Z X W kws m2) (hlp : (a :: es).length = np) (hlk : kws.length = ks.length) (hall : (backToKw pos (keywordEach kws X.env)).all (·.1.isSome) = true := by rfl) (hks : (backToKw pos (keywordEach kws X.env)).filterMap (·.1) = ks := by rfl)
    (hdb : (n == ("__debug__" : Str)) = false := by decide) (hpl : ((backTo pos (starEach (a :: es) X.env)).any (·.1) || (backToKw pos (keywordEach kws X.env)).any (·.1.isNone)) = false := by rfl) (he : starEach (a :: es) X.env = (false, eval a X.env) :: starEach es X.env := by rfl) :
    ME Z X W (.Call (.Name n p) (a :: es) kws pos) (cCallK g gD (cACat m1 m2)) := by
  obtain ⟨t1, p1, e1, l1⟩ := h1
  obtain ⟨t2, p2, e2, l2⟩ := h2
  refine ⟨fun σ H Q => t1 σ H fun vs H1 => t2 σ H1 fun zs H2 => vs.length = np ∧ zs.length = ks.length ∧ spF Z ps.length g (gV vs zs) H2 Q (WE W σ), ⟨fun pins s σ H Q I h => ?_⟩, fun σ F H e w Q hp => ?_⟩
  · refine wpAny_Call_Name_kw (ld_glob I hg hm (PySem.W.callWith_KW (h₀ := X.base) I.ok.mod.kin hk hall (thn (p1.run pos pins s σ H _ I h) fun us s1 hh => ?_) hpl he) hdb)
    obtain ⟨vs, H1, I1, r1, hh⟩ := hh
    refine thn (p2.run pos pins s1 σ H1 _ I1 hh) fun ws s2 hh => ?_
    obtain ⟨zs, H2, I2, r2, hv, hz, q⟩ := hh
    refine ⟨I2.kIn, ?_⟩
    rw [hks]
    have hu : us.length = np := by rw [← r1.length]; exact hv
    have hw : ws.length = ks.length := by rw [← r2.length]; exact hz
    have run := Fn.run X.A X.stack s2 H2 ⟨us, ks.zip ws⟩ _ _ Q (WE W σ) hr hgd I2.env0 (hb s2 us ws I2.kIn hu hw) (rv hu hw r1 r2) q
    refine wpAny_call (codeAny_mono run fun q' s' hq => ?_)
    match q', hq with
    | .error er, hq => exact passAt tk σ pins H2 s2 er s' I2 hq
    | .ok (.ret u), hq => exact I2.after hq
    | .ok .next, hq => exact hq.elim
    | .ok .brk, hq => exact hq.elim
    | .ok .cont, hq => exact hq.elim
  · have hp0 : Post Z W σ F H e ((m1 e).bind fun as e3 => (kca m2 as e3).bind fun bs e4 => match datas bs with
        | some ds => (match g ((gD ds).map Slot.dat) with
          | .ok d _ => R.ok d e4
          | .ex c fs _ => .ex c fs e4
          | .no => .no)
        | none => .no) (fun d F' H' => ∀ v, RD Z F' v d → Q v H') := by
      have e0 : cCallK g gD (cACat m1 m2) e = ((m1 e).bind fun as e3 => (kca m2 as e3).bind fun bs e4 => match datas bs with
        | some ds => (match g ((gD ds).map Slot.dat) with
          | .ok d _ => R.ok d e4
          | .ex c fs _ => .ex c fs e4
          | .no => .no)
        | none => .no) := by
        unfold cCallK cACat
        cases m1 e with
        | no => rfl
        | ex c fs e3 => rfl
        | ok as e3 => rfl
      rw [e0] at hp
      exact hp
    have hq1 : ∀ as e3, m1 e = .ok as e3 → as.length = np := fun as e3 h => by rw [l1 _ _ _ h, hlp]
    refine e1 σ F H e w _ ?_
    cases hm1 : m1 e with
    | no => rw [hm1] at hp0; exact hp0.elim
    | ex c fs e3 => rw [hm1] at hp0; exact hp0
    | ok as e3 =>
      rw [hm1] at hp0
      intro F1 H1 s1 vs ra
      have hp1 : Post Z W σ F1 H1 e3 ((m2 e3).bind fun bs e4 => (kcat as bs e4).bind fun bs e4 => match datas bs with
        | some ds => (match g ((gD ds).map Slot.dat) with
          | .ok d _ => R.ok d e4
          | .ex c fs _ => .ex c fs e4
          | .no => .no)
        | none => .no) (fun d F' H' => ∀ v, RD Z F' v d → Q v H') := by
        refine Post.rebase s1 ?_
        have e0 : ((kca m2 as e3).bind fun bs e4 => match datas bs with
          | some ds => (match g ((gD ds).map Slot.dat) with
            | .ok d _ => R.ok d e4
            | .ex c fs _ => .ex c fs e4
            | .no => .no)
          | none => .no) = ((m2 e3).bind fun bs e4 => (kcat as bs e4).bind fun bs e4 => match datas bs with
          | some ds => (match g ((gD ds).map Slot.dat) with
            | .ok d _ => R.ok d e4
            | .ex c fs _ => .ex c fs e4
            | .no => .no)
          | none => .no) := by
          unfold kca
          cases m2 e3 with
          | no => rfl
          | ex c fs e3 => rfl
          | ok as e3 => rfl
        rw [← e0]
        exact hp0
      refine e2 σ F1 H1 e3 s1.wf _ ?_
      cases hm2 : m2 e3 with
      | no => rw [hm2] at hp1; exact hp1.elim
      | ex c fs e4 => rw [hm2] at hp1; exact hp1
      | ok bs e4 =>
        rw [hm2] at hp1
        intro F2 H2 s2 zs rb
        have hv : vs.length = np := by rw [ra.length, hq1 _ _ hm1]
        have hz : zs.length = ks.length := by rw [rb.length, l2 _ _ _ hm2, hlk]
        have rab := (ra.up s2.ext).app rb
        change Post Z W σ F1 H1 e3 (match datas (as ++ bs) with | some ds => _ | none => .no) _ at hp1
        cases hd : datas (as ++ bs) with
        | none => rw [hd] at hp1; exact hp1.elim
        | some ds =>
          rw [hd] at hp1
          have r3 := rd hv hz (datas_ok rab hd)
          refine ⟨hv, hz, F2, (gD ds).map Slot.dat, by rw [List.length_map, ← r3.length]; exact hgl vs zs hv hz, all_dats _, sl_dats s2.wf r3, ?_⟩
          dsimp only at hp1
          cases hf : g ((gD ds).map Slot.dat) with
          | no => rw [hf] at hp1; exact hp1.elim
          | ok d sl' => rw [hf] at hp1; exact fun F' H' c => hp1 F' H' (s2.trans (Sx.ofDats s2.wf c))
          | ex c' fs sl' => rw [hf] at hp1; exact fun d' F' H' c => hp1 d' F' H' (s2.trans (Sx.ofDats s2.wf c))
end
structure CalleeM (P : Program) (w : World) (Z : Wd) (mg : Str → Option Value) (base : Heap) (k : Nat) (name : Str) (np : Nat) (ps ks : List Str) (sp : Sp) (gD : List D → List D) : Prop where
  ex : ∃ (f : Addr) (fd : FuncData) (gv : List Value → List Value → List Value) (gV : List V → List V → List V), mg name = some (.ref f) ∧ PySem.W.keepIn Z.K (.ref f) = true ∧ FnG P w Z.K mg base k f fd ps sp ∧ (∀ (s : Shared) (us ws : List Value), Z.K.In s.heap → us.length = np → ws.length = ks.length → BindsTo s fd ⟨us, ks.zip ws⟩ (ps.zip (gv us ws))) ∧
    (∀ {vs zs : List V} {us ws : List Value}, us.length = np → ws.length = ks.length → Vals vs us → Vals zs ws → Vals (gV vs zs) (gv us ws)) ∧ (∀ {F : Hp} {vs zs : List V} {ds : List D}, vs.length = np → zs.length = ks.length → RDs Z F (vs ++ zs) ds → RDs Z F (gV vs zs) (gD ds)) ∧ ∀ vs zs : List V, vs.length = np → zs.length = ks.length → (gV vs zs).length = ps.length
section
variable {Z : Wd} {W : WX} {X : Cx} {k kc np : Nat} {a : Expr} {pos p : Pos} {es : List Expr} {ps ks : List Str} {n : Str} {g : Sem} {m1 m2 : M (List Ar)}
theorem e_callM {kws : List Keyword} {gD : List D → List D} (B : Be Z X W k) (C : CalleeM X.prog X.w Z X.mg X.base kc n np ps ks (spF Z ps.length g) gD) (hk : kc ≤ k) (h1 : MA Z X W (a :: es) m1) (h2 : MK Z X W kws m2) (hlp : (a :: es).length = np := by rfl) (hlk : kws.length = ks.length := by rfl) (hg : Gl X n := by rfl) (hall : (backToKw pos (keywordEach kws X.env)).all (·.1.isSome) = true := by rfl) (hks : (backToKw pos (keywordEach kws X.env)).filterMap (·.1) = ks := by rfl)
    (hdb : (n == ("__debug__" : Str)) = false := by decide) (hpl : ((backTo pos (starEach (a :: es) X.env)).any (·.1) || (backToKw pos (keywordEach kws X.env)).any (·.1.isNone)) = false := by rfl) (he : starEach (a :: es) X.env = (false, eval a X.env) :: starEach es X.env := by rfl) : ME Z X W (.Call (.Name n p) (a :: es) kws pos) (cCallK g gD (cACat m1 m2)) := by
  obtain ⟨f, fd, gv, gV, c1, c2, c3, c4, c5, c6, c7⟩ := C.ex
  have e := B.hK
  exact me_callM (by rw [e]; exact c3) (B.room.mono hk) B.gd hg c1 (by rw [e]; exact c2) (by rw [e]; exact c4) c5 c6 c7 B.tk h1 h2 hlp hlk hall hks hdb hpl he
end
/-- the def at f has its code at c -/
def HasC (K : PySem.W.Frag) (f c : Addr) : Prop := ∃ (oc : Value) (od : Option Addr) (fd : FuncData) (sl : Array (Option Value)), K.lookup f = some ⟨oc, od, .func fd, sl⟩ ∧ fd.code = .ref c
theorem fng_soundC {P : Program} {w : World} {Z : Wd} {K : PySem.W.Frag} {mg : Str → Option Value} {base : Heap} {x qual : Str} {params : Arguments} {bd : List Stmt} {scope : Scope} {dvs : List V} {kws : List (Str × V)} {f cl : Addr} {fd : FuncData} {N ps : List Str} {k m : Nat} {body : MS} (Fn : FunD K x qual params bd scope dvs kws f fd) (hc : HasC K f cl) (S : FnScope N ps scope) (hm : N.length = ps.length + m)
    (hb : ∀ (A : Around) (outer : List Env) (s : Shared) (H : Hp) (E : XK), Room k (A.deeper (envOfC qual scope s.heap.objs.size f (.ref cl))) → A.guards = some [] →
      MLs Z (cxOf (L2.CX P w) P w K mg base N qual scope f (.ref cl) A outer s H E) (fun c d _ H' => E c d H') bd body) :
    FnG P w K mg base (k + 1) f fd ps (spF Z ps.length (runFn m body)) := by
  have len : ∀ vs H Q E, spF Z ps.length (runFn m body) vs H Q E → vs.length = ps.length := fun vs H Q E ⟨F, sl, h1, _, h3, _⟩ => by
    have q := h3.len
    rw [List.length_map] at q
    omega
  obtain ⟨oc, od, dV, kV, doc, pm, an, cdv, ct, osl, rfl, lk, hcd, _, _⟩ := Fn.ex
  obtain ⟨oc2, od2, fd2, sl2, lk2, e2⟩ := hc
  have ecd : cdv = .ref cl := by
    rw [lk] at lk2
    have z := congrArg Obj.data (Option.some.inj lk2)
    cases z
    exact e2
  subst ecd
  refine ⟨len, fun A outer s H args us vs Q E hr hg e0 hbd r h => LamX.run_ofS lk hcd S hr e0 hbd r (len _ _ _ _ h) fun hr' => ?_⟩
  obtain ⟨F, sl, h1, h2, h3, h4⟩ := h
  have hl : vs.length = sl.length := by
    have q := h3.len
    rw [List.length_map] at q
    exact q
  obtain ⟨ts, pd, ev⟩ := hb A outer s H E hr' hg
  refine ⟨ts, pd, ?_⟩
  have es : L2.start N vs = vs.map some ++ List.replicate m none := by
    unfold L2.start
    rw [show N.length - vs.length = m by omega]
  rw [es]
  refine ev _ F H _ (h3.start (m := m)) _ ?_
  unfold runFn at h4
  cases ho : body (sl ++ List.replicate m .unk) with
  | no => rw [ho] at h4; exact h4.elim
  | nx e' => rw [ho] at h4; exact fun σ' F' H' s' => h4 F' H' (s'.finish hl h2 h3) _ .non
  | rt d e' => rw [ho] at h4; exact fun v σ' F' H' s' rd => h4 F' H' (s'.finish hl h2 h3) v rd
  | bk e' => rw [ho] at h4; exact h4.elim
  | ct e' => rw [ho] at h4; exact h4.elim
  | ex c fs e' => rw [ho] at h4; exact fun d' σ' F' H' s' xf => h4 d' F' H' (s'.finish hl h2 h3) xf
end Md

/-! Pl: what the combinators compute, at a state. -/
namespace Md
open PySem PySem.Spec PyProof.Rows L2
section
variable {α β : Type} {e : En} {a b c : MS} {ma mb mc : M D} {mt mu : M Bool}
theorem v_seq : sSeq a b e = (a e).seq b := rfl
theorem v_nx : (O.nx e).seq b = b e := rfl
theorem v_rt {d : D} : (O.rt d e).seq b = .rt d e := rfl
theorem v_bk : (O.bk e).seq b = .bk e := rfl
theorem v_ct : (O.ct e).seq b = .ct e := rfl
theorem v_ex {c : Nat} {fs : List (Str × D)} : (O.ex c fs e).seq b = .ex c fs e := rfl
theorem v_ok {x : α} {k : α → En → R β} : (R.ok x e).bind k = k x e := rfl
theorem v_bx {c : Nat} {fs : List (Str × D)} {k : α → En → R β} : (R.ex c fs e).bind k = .ex c fs e := rfl
theorem v_to {x : α} {k : α → En → O} : (R.ok x e).toO k = k x e := rfl
theorem v_tx {c : Nat} {fs : List (Str × D)} {k : α → En → O} : (R.ex c fs e).toO k = .ex c fs e := rfl
def oR (o : Option α) (e : En) : R α := match o with
  | some x => .ok x e
  | none => .no
theorem v_oR {x : α} : oR (some x) e = .ok x e := rfl
def sR (o : Option Slot) (e : En) : R D := match o with
  | some (.dat d) => .ok d e
  | _ => .no
theorem v_sR {d : D} : sR (some (.dat d)) e = .ok d e := rfl
theorem v_var {i : Nat} : cVar i e = sR e[i]? e := rfl
theorem v_k {d : D} : cK d e = .ok d e := rfl
def k3 (op : D → D → Option D) (x y : D) (e : En) : R D := oR (op x y) e
def k2 (op : D → D → Option D) (m : M D) (x : D) (e : En) : R D := (m e).bind (k3 op x)
def k1 (op : D → Option D) (x : D) (e : En) : R D := oR (op x) e
theorem v_op2 {op : D → D → Option D} : cOp2 op ma mb e = (ma e).bind (k2 op mb) := by
  unfold cOp2
  congr 1
  funext x e1
  unfold k2
  congr 1
  funext y e2
  unfold k3 oR
  cases op x y <;> rfl
theorem v_k2 {op : D → D → Option D} {x : D} : k2 op ma x e = (ma e).bind (k3 op x) := rfl
theorem v_k3 {op : D → D → Option D} {x y : D} : k3 op x y e = oR (op x y) e := rfl
theorem v_op1 {op : D → Option D} : cOp1 op ma e = (ma e).bind (k1 op) := by
  unfold cOp1
  congr 1
  funext x e1
  unfold k1 oR
  cases op x <;> rfl
theorem v_k1 {op : D → Option D} {x : D} : k1 op x e = oR (op x) e := rfl
def bR (d : D) (e : En) : R Bool := match d with
  | .bl b => .ok b e
  | _ => .no
theorem v_bR {k : Bool} : bR (.bl k) e = .ok k e := rfl
theorem v_bool : cBool ma e = (ma e).bind bR := rfl
def knot (x : Bool) (e : En) : R Bool := .ok (!x) e
def kand (m : M Bool) (x : Bool) (e : En) : R Bool := if x = true then m e else .ok false e
def kor (m : M Bool) (x : Bool) (e : En) : R Bool := if x = true then .ok true e else m e
theorem v_not : cNot mt e = (mt e).bind knot := rfl
theorem v_knot {x : Bool} : knot x e = .ok (!x) e := rfl
theorem v_and : cAnd mt mu e = (mt e).bind (kand mu) := rfl
theorem v_and1 : kand mt true e = mt e := rfl
theorem v_and0 : kand mt false e = .ok false e := rfl
theorem v_or : cOr mt mu e = (mt e).bind (kor mu) := rfl
theorem v_or1 : kor mt true e = .ok true e := rfl
theorem v_or0 : kor mt false e = mt e := rfl
def nR (d : D) (e : En) : R D := match d with
  | .bl b => .ok (.bl (!b)) e
  | _ => .no
theorem v_nR {k : Bool} : nR (.bl k) e = .ok (.bl (!k)) e := rfl
theorem v_notV : cNotV ma e = (ma e).bind nR := rfl
def aR (m : M D) (d : D) (e : En) : R D := match d with
  | .bl c => if c = true then m e else .ok (.bl false) e
  | _ => .no
theorem v_aR1 : aR ma (.bl true) e = ma e := rfl
theorem v_aR0 : aR ma (.bl false) e = .ok (.bl false) e := rfl
theorem v_andV : cAndV ma mb e = (ma e).bind (aR mb) := rfl
def orR (m : M D) (d : D) (e : En) : R D := match d with
  | .bl c => if c = true then .ok (.bl true) e else m e
  | _ => .no
theorem v_orR1 : orR ma (.bl true) e = .ok (.bl true) e := rfl
theorem v_orR0 : orR ma (.bl false) e = ma e := rfl
theorem v_orV : cOrV ma mb e = (ma e).bind (orR mb) := rfl
def kif (ma mb : M D) (x : Bool) (e : En) : R D := if x = true then ma e else mb e
theorem v_if : cIf mt ma mb e = (mt e).bind (kif ma mb) := rfl
theorem v_if1 : kif ma mb true e = ma e := rfl
theorem v_if0 : kif ma mb false e = mb e := rfl
variable {m : M (List Ar)}
theorem v_anil : cANil e = .ok [] e := rfl
def kad (a : Ar) (xs : List Ar) (e : En) : R (List Ar) := .ok (a :: xs) e
def kac (m : M (List Ar)) (x : D) (e : En) : R (List Ar) := (m e).bind (kad (.d x))
theorem v_acons : cACons ma m e = (ma e).bind (kac m) := rfl
theorem v_kac {x : D} : kac m x e = (m e).bind (kad (.d x)) := rfl
theorem v_kad {x : Ar} {xs : List Ar} : kad x xs e = .ok (x :: xs) e := rfl
def obR (s : Option Slot) (i : Nat) (m : M (List Ar)) (e : En) : R (List Ar) := match s with
  | some s => if s.obj.isSome = true then (m e).bind (kad (.v i)) else .no
  | none => .no
theorem v_ob1 {i : Nat} {q : OO} : obR (some (.io q)) i m e = (m e).bind (kad (.v i)) := rfl
theorem v_ob2 {i : Nat} {q : OO} : obR (some (.own q)) i m e = (m e).bind (kad (.v i)) := rfl
theorem v_aobj {i : Nat} : cAObj i m e = obR e[i]? i m e := rfl
def dsR (f : List D → En → R α) (as : List Ar) (e : En) : R α := match datas as with
  | some ds => f ds e
  | none => .no
theorem v_ds {f : List D → En → R α} {ds : List D} : dsR f (ds.map Ar.d) e = f ds e := by
  have : datas (ds.map Ar.d) = some ds := by
    induction ds with
    | nil => rfl
    | cons x r ih => rw [List.map_cons, datas, ih]; rfl
  unfold dsR
  rw [this]
theorem v_ds0 {f : List D → En → R α} : dsR f [] e = f [] e := rfl
theorem v_ds1 {f : List D → En → R α} {x : D} : dsR f [.d x] e = f [x] e := rfl
theorem v_ds2 {f : List D → En → R α} {x y : D} : dsR f [.d x, .d y] e = f [x, y] e := rfl
theorem v_ds3 {f : List D → En → R α} {x y z : D} : dsR f [.d x, .d y, .d z] e = f [x, y, z] e := rfl
theorem v_ds4 {f : List D → En → R α} {x y z u : D} : dsR f [.d x, .d y, .d z, .d u] e = f [x, y, z, u] e := rfl
theorem v_ds5 {f : List D → En → R α} {x y z u v : D} : dsR f [.d x, .d y, .d z, .d u, .d v] e = f [x, y, z, u, v] e := rfl
theorem v_ds6 {f : List D → En → R α} {x y z u v w : D} : dsR f [.d x, .d y, .d z, .d u, .d v, .d w] e = f [x, y, z, u, v, w] e := rfl
def dsO (o : Option (List D)) (f : List D → En → R α) (e : En) : R α := match o with
  | some ds => f ds e
  | none => .no
def dco (x : D) (o : Option (List D)) : Option (List D) := o.map (x :: ·)
theorem v_dsg {f : List D → En → R α} {as : List Ar} : dsR f as e = dsO (datas as) f e := rfl
theorem v_dso {f : List D → En → R α} {ds : List D} : dsO (some ds) f e = f ds e := rfl
theorem v_dat0 : datas [] = some [] := rfl
theorem v_datc {x : D} {as : List Ar} : datas (.d x :: as) = dco x (datas as) := rfl
theorem v_dco {x : D} {ds : List D} : dco x (some ds) = some (x :: ds) := rfl
def tupR (ds : List D) (e : En) : R D := if ds.length ≤ sizeLine then .ok (.tup ds) e else .no
def lstR (ds : List D) (e : En) : R D := if ds.length ≤ sizeLine then .ok (.lst ds) e else .no
def newR (ds : List D) (e : En) : R (List D) := if ds.length ≤ sizeLine then .ok ds e else .no
theorem sz64 {n : Nat} (h : n ≤ 1000) : n ≤ sizeLine := by rw [sizeLine_eq]; omega
theorem v_tup : cTup m e = (m e).bind (dsR tupR) := rfl
theorem v_lst : cLst m e = (m e).bind (dsR lstR) := rfl
theorem v_new : cNewL m e = (m e).bind (dsR newR) := rfl
theorem v_tup1 {x : D} : tupR [x] e = .ok (.tup [x]) e := if_pos (sz64 (by simp))
theorem v_tup2 {x y : D} : tupR [x, y] e = .ok (.tup [x, y]) e := if_pos (sz64 (by simp))
theorem v_tup3 {x y z : D} : tupR [x, y, z] e = .ok (.tup [x, y, z]) e := if_pos (sz64 (by simp))
theorem v_lst' {ds : List D} (h : ds.length ≤ 1000) : lstR ds e = .ok (.lst ds) e := if_pos (sz64 h)
theorem v_tup' {ds : List D} (h : ds.length ≤ 1000) : tupR ds e = .ok (.tup ds) e := if_pos (sz64 h)
theorem v_new' {ds : List D} (h : ds.length ≤ 1000) : newR ds e = .ok ds e := if_pos (sz64 h)
def blR (op : List D → Option D) (ds : List D) (e : En) : R D := oR (op ds) e
theorem v_blR {op : List D → Option D} {ds : List D} : blR op ds e = oR (op ds) e := rfl
theorem v_cb {op : List D → Option D} : cB op m e = (m e).bind (dsR (blR op)) := by
  unfold cB
  congr 1
  funext as e1
  unfold dsR blR oR
  cases datas as with
  | none => rfl
  | some ds =>
    simp only [Option.bind_some]
    cases op ds <;> rfl
/-! calls -/
def cbR (as : List Ar) (e : En) (r : R D) : R D := match r with
  | .no => .no
  | .ok d sl' => .ok d (back as sl' e)
  | .ex c fs sl' => .ex c fs (back as sl' e)
theorem v_cb1 {as : List Ar} {d : D} {sl : En} : cbR as e (.ok d sl) = .ok d (back as sl e) := rfl
theorem v_cb2 {as : List Ar} {c : Nat} {fs : List (Str × D)} {sl : En} : cbR as e (.ex c fs sl) = .ex c fs (back as sl e) := rfl
def slR (f : Sem) (dds : List D) (as : List Ar) (e : En) (s : Option (List Slot)) : R D := match s with
  | some sl => cbR as e (f (sl ++ dds.map Slot.dat))
  | none => .no
theorem v_slR {f : Sem} {dds : List D} {as : List Ar} {sl : List Slot} : slR f dds as e (some sl) = cbR as e (f (sl ++ dds.map Slot.dat)) := rfl
def caR (f : Sem) (dds : List D) (as : List Ar) (e : En) : R D := if nodupIx as = true then slR f dds as e (arSlots e as) else .no
theorem v_call {f : Sem} {dds : List D} : cCall f dds m e = (m e).bind (caR f dds) := rfl
theorem back_dats : ∀ (ds : List D) (sl : En) (e : En), back (ds.map Ar.d) sl e = e := by
  intro ds sl e
  have h : ∀ (ds : List D) (sl : En) (i : Nat), backAt (ds.map Ar.d) sl i = none := by
    intro ds
    induction ds with
    | nil => intro sl i; cases sl <;> rfl
    | cons x r ih =>
      intro sl i
      cases sl with
      | nil => rfl
      | cons s sl => rw [List.map_cons, backAt]; exact ih sl i; all_goals simp
  apply List.ext_getElem?
  intro i
  rw [back_get]
  cases e[i]? with
  | none => rfl
  | some s => rw [h]; rfl
theorem slots_dats : ∀ (ds : List D) (e : En), arSlots e (ds.map Ar.d) = some (ds.map Slot.dat) := by
  intro ds e
  induction ds with
  | nil => rfl
  | cons x r ih => rw [List.map_cons, arSlots, ih]; rfl
theorem nodup_dats : ∀ (ds : List D), nodupIx (ds.map Ar.d) = true := by
  intro ds
  induction ds with
  | nil => rfl
  | cons x r ih => rw [List.map_cons, nodupIx]; exact ih
/-- a call with data alone: the caller's slots stay -/
def cdR (e : En) (r : R D) : R D := match r with
  | .no => .no
  | .ok d _ => .ok d e
  | .ex c fs _ => .ex c fs e
theorem v_cd1 {d : D} {sl : En} : cdR e (.ok d sl) = .ok d e := rfl
theorem v_cd2 {c : Nat} {fs : List (Str × D)} {sl : En} : cdR e (.ex c fs sl) = .ex c fs e := rfl
theorem v_cad {f : Sem} {dds : List D} {ds : List D} : caR f dds (ds.map Ar.d) e = cdR e (f ((ds ++ dds).map Slot.dat)) := by
  unfold caR
  rw [if_pos (nodup_dats ds), slots_dats, v_slR, List.map_append]
  cases f (ds.map Slot.dat ++ dds.map Slot.dat) with
  | no => rfl
  | ok d sl => rw [v_cb1, v_cd1, back_dats]
  | ex c fs sl => rw [v_cb2, v_cd2, back_dats]
theorem v_ca0 {f : Sem} {dds : List D} : caR f dds [] e = cdR e (f (dds.map Slot.dat)) := v_cad (ds := [])
theorem v_ca1 {f : Sem} {dds : List D} {x : D} : caR f dds [.d x] e = cdR e (f (.dat x :: dds.map Slot.dat)) := v_cad (ds := [x])
theorem v_ca2 {f : Sem} {dds : List D} {x y : D} : caR f dds [.d x, .d y] e = cdR e (f (.dat x :: .dat y :: dds.map Slot.dat)) := v_cad (ds := [x, y])
theorem v_ca3 {f : Sem} {dds : List D} {x y z : D} : caR f dds [.d x, .d y, .d z] e = cdR e (f (.dat x :: .dat y :: .dat z :: dds.map Slot.dat)) := v_cad (ds := [x, y, z])
theorem v_ca4 {f : Sem} {dds : List D} {x y z u : D} : caR f dds [.d x, .d y, .d z, .d u] e = cdR e (f (.dat x :: .dat y :: .dat z :: .dat u :: dds.map Slot.dat)) := v_cad (ds := [x, y, z, u])
/-- a call with slot i's object first, then data -/
def putS (i : Nat) (sl : En) (e : En) : En := match sl, e[i]? with
  | .io q :: _, some s => e.set i (s.put q)
  | _, _ => e
def ciR (i : Nat) (e : En) (r : R D) : R D := match r with
  | .no => .no
  | .ok d sl => .ok d (putS i sl e)
  | .ex c fs sl => .ex c fs (putS i sl e)
theorem v_ci1 {i : Nat} {d : D} {sl : En} : ciR i e (.ok d sl) = .ok d (putS i sl e) := rfl
theorem v_ci2 {i : Nat} {c : Nat} {fs : List (Str × D)} {sl : En} : ciR i e (.ex c fs sl) = .ex c fs (putS i sl e) := rfl
def ioS (s : Option Slot) : Option Slot := match s with
  | some s => s.obj.map Slot.io
  | none => none
theorem back_io : ∀ (i : Nat) (ds : List D) (sl : En) (e : En), back (.v i :: ds.map Ar.d) sl e = putS i sl e := by
  intro i ds sl e
  have h : ∀ (ds : List D) (sl : En) (i : Nat), backAt (ds.map Ar.d) sl i = none := by
    intro ds
    induction ds with
    | nil => intro sl i; cases sl <;> rfl
    | cons x r ih =>
      intro sl i
      cases sl with
      | nil => rfl
      | cons s sl => rw [List.map_cons, backAt]; exact ih sl i; all_goals simp
  apply List.ext_getElem?
  intro j
  rw [back_get]
  cases sl with
  | nil => rw [show putS i [] e = e from rfl]; cases e[j]? <;> rfl
  | cons s sl =>
    have hb : backAt (.v i :: ds.map Ar.d) (s :: sl) j = match s with
      | .io q => if i = j then some q else none
      | _ => none := by
      cases s with
      | io q =>
        show (if i = j then some q else backAt (ds.map Ar.d) sl j) = _
        rw [h]
      | unk => exact h ds sl j
      | dat d => exact h ds sl j
      | own q => exact h ds sl j
    rw [hb]
    cases s with
    | io q =>
      dsimp only [putS]
      by_cases hij : i = j
      · subst hij
        rw [if_pos rfl]
        cases hq : e[i]? with
        | none => exact hq.symm
        | some t =>
          dsimp only [Option.map_some]
          rw [List.getElem?_set_self (List.getElem?_eq_some_iff.mp hq).1]
      · rw [if_neg hij]
        cases hq : e[i]? with
        | none => cases e[j]? <;> rfl
        | some t =>
          dsimp only
          rw [List.getElem?_set_ne hij]
          cases e[j]? <;> rfl
    | unk => rw [show putS i (.unk :: sl) e = e from rfl]; cases e[j]? <;> rfl
    | dat d => rw [show putS i (.dat d :: sl) e = e from rfl]; cases e[j]? <;> rfl
    | own q => rw [show putS i (.own q :: sl) e = e from rfl]; cases e[j]? <;> rfl
def ciS (f : Sem) (dds : List D) (i : Nat) (ds : List D) (e : En) (s : Option Slot) : R D := match s with
  | some s => ciR i e (f (s :: (ds ++ dds).map Slot.dat))
  | none => .no
theorem v_ciS {f : Sem} {dds ds : List D} {i : Nat} {s : Slot} : ciS f dds i ds e (some s) = ciR i e (f (s :: (ds ++ dds).map Slot.dat)) := rfl
theorem v_cai {f : Sem} {dds : List D} {i : Nat} {ds : List D} : caR f dds (.v i :: ds.map Ar.d) e = ciS f dds i ds e (ioS e[i]?) := by
  have nd : nodupIx (.v i :: ds.map Ar.d) = true := by
    have : ((ds.map Ar.d).any fun a => a.ix == some i) = false := by
      rw [List.any_eq_false]
      intro x hx
      obtain ⟨d, _, rfl⟩ := List.mem_map.mp hx
      simp [Ar.ix]
    rw [nodupIx, this, nodup_dats]; rfl
  unfold caR
  rw [if_pos nd, arSlots, slots_dats]
  have hs : arSlot e (.v i) = ioS e[i]? := rfl
  rw [hs]
  cases ioS e[i]? with
  | none => rfl
  | some s =>
    dsimp only [Option.map_some]
    rw [v_slR, v_ciS, List.map_append]
    show cbR (.v i :: ds.map Ar.d) e (f (s :: (ds.map Slot.dat ++ dds.map Slot.dat))) = _
    cases f (s :: (ds.map Slot.dat ++ dds.map Slot.dat)) with
    | no => rfl
    | ok d sl => rw [v_cb1, v_ci1, back_io]
    | ex c fs sl => rw [v_cb2, v_ci2, back_io]
theorem v_ci_0 {f : Sem} {dds : List D} {i : Nat} : caR f dds [.v i] e = ciS f dds i [] e (ioS e[i]?) := v_cai (ds := [])
theorem v_ci_1 {f : Sem} {dds : List D} {i : Nat} {x : D} : caR f dds [.v i, .d x] e = ciS f dds i [x] e (ioS e[i]?) := v_cai (ds := [x])
theorem v_ci_2 {f : Sem} {dds : List D} {i : Nat} {x y : D} : caR f dds [.v i, .d x, .d y] e = ciS f dds i [x, y] e (ioS e[i]?) := v_cai (ds := [x, y])
theorem v_io1 {q : OO} : ioS (some (.own q)) = some (.io q) := rfl
theorem v_io2 {q : OO} : ioS (some (.io q)) = some (.io q) := rfl
def puS (i : Nat) (q : OO) (e : En) (s : Option Slot) : En := match s with
  | some s => e.set i (s.put q)
  | none => e
theorem v_put {i : Nat} {q : OO} {sl : En} : putS i (.io q :: sl) e = puS i q e e[i]? := by
  unfold putS puS
  cases e[i]? <;> rfl
theorem v_pu1 {i : Nat} {q q' : OO} : puS i q e (some (.own q')) = e.set i (.own q) := rfl
theorem v_pu2 {i : Nat} {q q' : OO} : puS i q e (some (.io q')) = e.set i (.io q) := rfl
/-! statements -/
def stO (o : Option Slot) (i : Nat) (s : Slot) (e : En) : Option En := match o with
  | some (.io _) => none
  | none => none
  | _ => some (e.set i s)
theorem v_st1 {i : Nat} {s : Slot} {d : D} : stO (some (.dat d)) i s e = some (e.set i s) := rfl
theorem v_st2 {i : Nat} {s : Slot} {q : OO} : stO (some (.own q)) i s e = some (e.set i s) := rfl
theorem v_st3 {i : Nat} {s : Slot} : stO (some .unk) i s e = some (e.set i s) := rfl
theorem v_setE {i : Nat} {s : Slot} : setE i s e = stO e[i]? i s e := by
  unfold setE stO
  cases e[i]? with
  | none => rfl
  | some t => cases t <;> rfl
def nxO (o : Option En) : O := match o with
  | some e => .nx e
  | none => .no
theorem v_nxO : nxO (some e) = .nx e := rfl
def kset (i : Nat) (d : D) (e : En) : O := nxO (setE i (.dat d) e)
def knew (i : Nat) (d : List D) (e : En) : O := nxO (setE i (.own (.lst d)) e)
def kex (_ : D) (e : En) : O := .nx e
def kret (d : D) (e : En) : O := .rt d e
def kio (a b : MS) (x : Bool) (e : En) : O := if x = true then a e else b e
theorem v_set {i : Nat} : sSet i ma e = (ma e).toO (kset i) := rfl
theorem v_kset {i : Nat} {d : D} : kset i d e = nxO (setE i (.dat d) e) := rfl
theorem v_snew {i : Nat} {mn : M (List D)} : sNew i mn e = (mn e).toO (knew i) := rfl
theorem v_knew {i : Nat} {d : List D} : knew i d e = nxO (setE i (.own (.lst d)) e) := rfl
theorem v_expr : sExpr ma e = (ma e).toO kex := rfl
theorem v_kex {d : D} : kex d e = .nx e := rfl
theorem v_ret : sRet ma e = (ma e).toO kret := rfl
theorem v_kret {d : D} : kret d e = .rt d e := rfl
theorem v_retN : sRetN e = .rt .non e := rfl
theorem v_nil : sNil e = .nx e := rfl
theorem v_sif : sIf mt a b e = (mt e).toO (kio a b) := rfl
theorem v_if_t : kio a b true e = a e := rfl
theorem v_if_f : kio a b false e = b e := rfl
def frO (o : Option Slot) (i : Nat) (m : MS) (e : En) : O := match o with
  | some (.own (.lst xs)) => m (e.set i (.dat (.lst xs)))
  | _ => .no
theorem v_fr {i : Nat} {xs : List D} : frO (some (.own (.lst xs))) i a e = a (e.set i (.dat (.lst xs))) := rfl
theorem v_freeze {i : Nat} : sFreeze i a e = frO e[i]? i a e := rfl
def laO (o : Option Slot) : Option (Slot × List D) := match o with
  | some s => (match s.obj with
    | some (.lst xs) => some (s, xs)
    | _ => none)
  | none => none
theorem v_la1 {xs : List D} : laO (some (.own (.lst xs))) = some (.own (.lst xs), xs) := rfl
theorem v_la2 {xs : List D} : laO (some (.io (.lst xs))) = some (.io (.lst xs), xs) := rfl
theorem v_lst_at {i : Nat} : lstAt e i = laO e[i]? := rfl
def ixR (o : Option (Slot × List D)) (d : D) (e : En) : R D := match o, d with
  | some (_, xs), .int k => oR (atI xs k) e
  | _, _ => .no
theorem v_ixR {s : Slot} {xs : List D} {k : Int} : ixR (some (s, xs)) (.int k) e = oR (atI xs k) e := rfl
def kix (i : Nat) (d : D) (e : En) : R D := ixR (lstAt e i) d e
def gix (o : Option (Slot × List D)) (i : Nat) (m : M D) (e : En) : R D := if o.isSome = true then (m e).bind (kix i) else .no
theorem v_ixO {i : Nat} : cIxO i ma e = gix (lstAt e i) i ma e := by
  unfold cIxO gix
  by_cases h : (lstAt e i).isSome = true
  · rw [if_pos h, if_pos h]
    congr 1
    funext d e1
    unfold kix ixR oR
    cases lstAt e1 i with
    | none => rfl
    | some p =>
      obtain ⟨s, xs⟩ := p
      cases d with
      | int z =>
        dsimp only
        cases atI xs z <;> rfl
      | _ => rfl
  · rw [if_neg h, if_neg h]
theorem v_gix {i : Nat} {p : Slot × List D} : gix (some p) i ma e = (ma e).bind (kix i) := rfl
theorem v_kix {i : Nat} {d : D} : kix i d e = ixR (lstAt e i) d e := rfl
def leR (o : Option (Slot × List D)) (e : En) : R D := match o with
  | some (_, xs) => .ok (.int xs.length) e
  | none => .no
theorem v_leR {s : Slot} {xs : List D} : leR (some (s, xs)) e = .ok (.int xs.length) e := rfl
theorem v_lenO {i : Nat} : cLenO i e = leR (lstAt e i) e := rfl
def puO (o : Option (Slot × List D)) (i : Nat) (d v : D) (e : En) : O := match o, d with
  | some (s, xs), .int k => (match ixN xs.length k with
    | some j => .nx (e.set i (s.put (.lst (xs.set j v))))
    | none => .no)
  | _, _ => .no
theorem v_puO {i : Nat} {s : Slot} {xs : List D} {k : Int} {v : D} {j : Nat} (h : ixN xs.length k = some j) : puO (some (s, xs)) i (.int k) v e = .nx (e.set i (s.put (.lst (xs.set j v)))) := by
  unfold puO
  simp only [h]
def kpv (i : Nat) (v d : D) (e : En) : O := puO (lstAt e i) i d v e
def gpu (o : Option (Slot × List D)) (i : Nat) (m : M D) (v : D) (e : En) : O := if o.isSome = true then (m e).toO (kpv i v) else .no
def kpu (i : Nat) (m : M D) (v : D) (e : En) : O := gpu (lstAt e i) i m v e
theorem v_sput {i : Nat} : sPut i ma mb e = (mb e).toO (kpu i ma) := by
  unfold sPut
  congr 1
theorem v_kpu {i : Nat} {v : D} : kpu i ma v e = gpu (lstAt e i) i ma v e := rfl
theorem v_gpu {i : Nat} {v : D} {p : Slot × List D} : gpu (some p) i ma v e = (ma e).toO (kpv i v) := rfl
theorem v_kpv {i : Nat} {v d : D} : kpv i v d e = puO (lstAt e i) i d v e := rfl
def meR (op : List D → List D → Option (D × List D)) (i : Nat) (ds : List D) (e : En) (o : Option (Slot × List D)) : R D := match o with
  | some (s, xs) => (match op xs ds with
    | some (d, ys) => .ok d (e.set i (s.put (.lst ys)))
    | none => .no)
  | none => .no
def kme (op : List D → List D → Option (D × List D)) (i : Nat) (ds : List D) (e : En) : R D := meR op i ds e (lstAt e i)
def gme (o : Option (Slot × List D)) (i : Nat) (op : List D → List D → Option (D × List D)) (m : M (List Ar)) (e : En) : R D := if o.isSome = true then (m e).bind (dsR (kme op i)) else .no
theorem v_gme {i : Nat} {op : List D → List D → Option (D × List D)} {p : Slot × List D} : gme (some p) i op m e = (m e).bind (dsR (kme op i)) := rfl
theorem v_kme {i : Nat} {op : List D → List D → Option (D × List D)} {ds : List D} : kme op i ds e = meR op i ds e (lstAt e i) := rfl
theorem v_meth {i : Nat} {op : List D → List D → Option (D × List D)} : cMeth i op m e = gme (lstAt e i) i op m e := by
  unfold cMeth gme
  by_cases h : (lstAt e i).isSome = true
  · rw [if_pos h, if_pos h]
    congr 1
  · rw [if_neg h, if_neg h]
theorem v_app1 {i : Nat} {xs : List D} {d : D} (h : xs.length < 1000) : meR mAppend i [d] e (some (.own (.lst xs), xs)) = .ok .non (e.set i (.own (.lst (xs ++ [d])))) := by
  have : xs.length < sizeLine := by rw [sizeLine_eq]; omega
  unfold meR mAppend
  simp only [this, if_true]
  rfl
def raO (c : Nat) (fl : List D → Option (List (Str × D))) (as : List Ar) (e : En) : O := match (datas as).bind fl with
  | some fs => .ex c fs e
  | none => .no
theorem v_raise {c : Nat} {fl : List D → Option (List (Str × D))} : sRaise c fl m e = (m e).toO (raO c fl) := rfl
theorem v_ra1 {c : Nat} {f : Str} {x : D} : raO c (fl1 f) [.d x] e = .ex c [(f, x)] e := rfl
theorem v_ra2 {c : Nat} {f g : Str} {x y : D} : raO c (fl2 f g) [.d x, .d y] e = .ex c [(g, y), (f, x)] e := rfl
def paO (i j : Nat) (as : List Ar) (e : En) : O := match datas as with
  | some [x, y] => (match setE i (.dat x) e with
    | some e2 => nxO (setE j (.dat y) e2)
    | none => .no)
  | _ => .no
theorem v_par {i j : Nat} : sPar i j m e = (m e).toO (paO i j) := rfl
def pa2 (o : Option En) (j : Nat) (y : D) : O := match o with
  | some e2 => nxO (setE j (.dat y) e2)
  | none => .no
theorem v_pa {i j : Nat} {x y : D} : paO i j [.d x, .d y] e = pa2 (setE i (.dat x) e) j y := by
  unfold paO pa2
  simp only [datas, Option.map]
theorem v_pa2 {j : Nat} {y : D} : pa2 (some e) j y = nxO (setE j (.dat y) e) := rfl
def tkO (tab : List (Nat × Bool)) (i j : Nat) (o : O) : O := match o with
  | .ex c fs e1 => (match tab.lookup c with
    | some true => (match setE i .unk e1 with
      | some e2 => nxO (setE j (.dat (.exc c fs)) e2)
      | none => .no)
    | some false => .ex c fs e1
    | none => .no)
  | o => o
theorem v_tryK {tab : List (Nat × Bool)} {i j : Nat} : sTryK tab i j a e = tkO tab i j (a e) := rfl
theorem v_tk1 {tab : List (Nat × Bool)} {i j : Nat} : tkO tab i j (.nx e) = .nx e := rfl
def tk2 (o : Option En) (j : Nat) (d : D) : O := match o with
  | some e2 => nxO (setE j (.dat d) e2)
  | none => .no
theorem v_tk2' {e2 : En} {j : Nat} {d : D} : tk2 (some e2) j d = nxO (setE j (.dat d) e2) := rfl
theorem v_tk2 {tab : List (Nat × Bool)} {i j c : Nat} {fs : List (Str × D)} (h : tab.lookup c = some true) : tkO tab i j (.ex c fs e) = tk2 (setE i .unk e) j (.exc c fs) := by
  unfold tkO tk2
  dsimp only
  rw [h]
/-! defs -/
def ruR (sl : List Slot) (o : O) : R D := match o with
  | .nx e => .ok .non (outs sl e)
  | .rt d e => .ok d (outs sl e)
  | .ex c fs e => .ex c fs (outs sl e)
  | _ => .no
theorem v_run {k : Nat} {sl : List Slot} : runFn k a sl = ruR sl (a (sl ++ List.replicate k .unk)) := rfl
theorem v_ru1 {sl : List Slot} : ruR sl (.nx e) = .ok .non (outs sl e) := rfl
theorem v_ru2 {sl : List Slot} {d : D} : ruR sl (.rt d e) = .ok d (outs sl e) := rfl
theorem v_ru3 {sl : List Slot} {c : Nat} {fs : List (Str × D)} : ruR sl (.ex c fs e) = .ex c fs (outs sl e) := rfl
theorem v_ou0 {e : En} : outs [] e = [] := rfl
theorem v_ou1 {d : D} {s : Slot} {sl : List Slot} : outs (.dat d :: sl) (s :: e) = .dat d :: outs sl e := rfl
theorem v_ou2 {q q' : OO} {sl : List Slot} : outs (.io q :: sl) (.io q' :: e) = .io q' :: outs sl e := rfl
def itR (d : D) (e : En) : R (List D) := match d with
  | .lst ds => .ok ds e
  | .tup ds => .ok ds e
  | .str z => .ok (strD z) e
  | _ => .no
theorem v_it : iItems ma e = (ma e).bind itR := rfl
theorem v_it1 {ds : List D} : itR (.lst ds) e = .ok ds e := rfl
theorem v_it2 {ds : List D} : itR (.tup ds) e = .ok ds e := rfl
def r1R (as : List Ar) (e : En) : R (List D) := match arInts as with
  | some [n] => if -(2 ^ 62) ≤ n ∧ n < 2 ^ 62 then .ok (rgD 0 n.toNat) e else .no
  | _ => .no
theorem v_r1 : iRange1 m e = (m e).bind r1R := rfl
theorem v_r1R {n : Int} (h : -(2 ^ 62) ≤ n ∧ n < 2 ^ 62) : r1R [.d (.int n)] e = .ok (rgD 0 n.toNat) e := by
  unfold r1R
  simp only [arInts, Option.map]
  rw [if_pos h]
def kfo (t : Tg) (a : MS) (ds : List D) (e : En) : O := forGo t a ds e
theorem v_for {src : M (List D)} {t : Tg} : sFor src t a e = (src e).toO (kfo t a) := rfl
theorem v_kfo {t : Tg} {ds : List D} : kfo t a ds e = forGo t a ds e := rfl
end
end Md

/-! Pl2: evaluation lemmas of the texts Md16, Md17. -/
namespace Md
open PySem PySem.Spec PyProof.Rows L2
section
variable {ma mb mo : M D} {mt mu mv : M Bool} {m : M (List Ar)} {e : En}
def m1S (op : Str → D → Option D) (a : Str) (y : D) (e : En) : R D := oR (op a y) e
def m1R (op : Str → D → Option D) (ma : M D) (x : D) (e : En) : R D := match x with
  | .str a => (ma e).bind (m1S op a)
  | _ => .no
theorem v_m1 {op : Str → D → Option D} : cM1 op mo ma e = (mo e).bind (m1R op ma) := by
  unfold cM1
  congr 1
  funext x e1
  unfold m1R
  cases x with
  | str a =>
    dsimp only
    congr 1
    funext y e2
    unfold m1S oR
    cases op a y <;> rfl
  | _ => rfl
theorem v_m1R {op : Str → D → Option D} {a : Str} : m1R op ma (.str a) e = (ma e).bind (m1S op a) := rfl
theorem v_m1S {op : Str → D → Option D} {a : Str} {y : D} : m1S op a y e = oR (op a y) e := rfl
def kifB (ma mb : M Bool) (x : Bool) (e : En) : R Bool := if x = true then ma e else mb e
theorem v_ifB : cIfB mt mu mv e = (mt e).bind (kifB mu mv) := rfl
theorem v_ifB1 : kifB mu mv true e = mu e := rfl
theorem v_ifB0 : kifB mu mv false e = mv e := rfl
/-! C(e, ..) -/
def mkD (c : Nat) (r : R D) (e : En) : R D := match r with
  | .ok .non (.io (.ins c' fs) :: _) => if c' = c then .ok (.ins c fs) e else .no
  | .ex c' fs _ => .ex c' fs e
  | _ => .no
theorem v_mkD {c : Nat} {fs : List (Str × D)} {e1 : En} : mkD c (.ok .non (.io (.ins c fs) :: e1)) e = .ok (.ins c fs) e := if_pos rfl
theorem v_mkX {c c' : Nat} {fs : List (Str × D)} {e1 : En} : mkD c (.ex c' fs e1) e = .ex c' fs e := rfl
def mkG (c : Nat) (g : Sem) (f : List D → List D) (ds : List D) (e : En) : R D := mkD c (g (.io (.ins c []) :: (f ds).map Slot.dat)) e
theorem v_make {c : Nat} {g : Sem} {dds : List D} : cMake c g dds m e = (m e).bind (dsR (mkG c g (· ++ dds))) := by
  unfold cMake
  congr 1
theorem v_makeK {c : Nat} {g : Sem} {gD : List D → List D} : cMakeK c g gD m e = (m e).bind (dsR (mkG c g (gD · ++ []))) := by
  unfold cMakeK
  congr 1
theorem v_mkG {c : Nat} {g : Sem} {f : List D → List D} {ds : List D} : mkG c g f ds e = mkD c (g (.io (.ins c []) :: (f ds).map Slot.dat)) e := rfl
/-! self.f = e -/
def fsO (q : Option (Slot × Nat × List (Str × D))) (i : Nat) (f : Str) (tab : List Tk) (d : D) (e1 : En) : O := match q with
  | some (s, c, fs) => if tab.contains (.c c) = true ∧ fs.length < 1000 then .nx (e1.set i (s.put (.ins c (putD f d fs)))) else .no
  | none => .no
def fsR (i : Nat) (f : Str) (tab : List Tk) (d : D) (e1 : En) : O := fsO (insAt e1 i) i f tab d e1
theorem v_fldS {i : Nat} {f : Str} {tab : List Tk} : sFldS i f tab ma e = (ma e).toO (fsR i f tab) := rfl
theorem v_fsR {i : Nat} {f : Str} {tab : List Tk} {d : D} : fsR i f tab d e = fsO (insAt e i) i f tab d e := rfl
theorem v_ins0 {c : Nat} {fs : List (Str × D)} {r : En} : insAt (.io (.ins c fs) :: r) 0 = some (.io (.ins c fs), c, fs) := rfl
theorem v_fsO {i c : Nat} {f : Str} {tab : List Tk} {d : D} {s : Slot} {fs : List (Str × D)} (h : tab.contains (.c c) = true) (h2 : fs.length < 1000) : fsO (some (s, c, fs)) i f tab d e = .nx (e.set i (s.put (.ins c (putD f d fs)))) := if_pos ⟨h, h2⟩
def faR (q : Option (Slot × Nat × List (Str × D))) (f : Str) (tab : List Tk) (e : En) : R D := match q with
  | some (_, c, fs) => if tab.contains (.c c) = true then oR (fs.lookup f) e else .no
  | none => .no
theorem v_fld {i : Nat} {f : Str} {tab : List Tk} : cFldS i f tab e = faR (insAt e i) f tab e := by
  unfold cFldS faR
  cases insAt e i with
  | none => rfl
  | some q =>
    obtain ⟨s, c, fs⟩ := q
    dsimp only
    cases fs.lookup f <;> rfl
theorem v_its {z : Str} : itR (.str z) e = .ok (strD z) e := rfl
/-! comprehensions -/
def lcEnd (own : List Nat) (e1 : En) (r : R (List D)) : R (List D) := match r with
  | .ok ys e2 => if own.all (fun i => match e1[i]? with
      | some s => s.obj.isNone
      | none => true) = true then .ok ys (restE e1 e2 own) else .no
  | _ => .no
def lcR (own : List Nat) (t : Tg) (c : M Bool) (x : M D) (ds : List D) (e1 : En) : R (List D) := lcEnd own e1 (lcGo own t c x ds (wipeE e1 own) [])
variable {own : List Nat} {t : Tg} {c : M Bool} {x : M D} {src : M (List D)}
theorem v_lc : cLc src own t c x e = (src e).bind (lcR own t c x) := rfl
theorem v_lcR {ds : List D} : lcR own t c x ds e = lcEnd own e (lcGo own t c x ds (wipeE e own) []) := rfl
theorem lc_nil {acc : List D} : lcGo own t c x [] e acc = .ok acc e := rfl
theorem lc_cons {d y : D} {ds acc : List D} {e1 e2 e3 : En} (h : t d e = some e1) (hc : c e1 = .ok true e2) (hx : x e2 = .ok y e3) (hl : acc.length < 1000) : lcGo own t c x (d :: ds) e acc = lcGo own t c x ds (wipeE e3 own) (acc ++ [y]) := by
  have hl2 : acc.length < sizeLine := Nat.lt_of_lt_of_le hl (by rw [sizeLine_eq]; omega)
  rw [lcGo, h]
  simp only [hc, R.bind, if_true, hx, hl2]
theorem lc_skip {d : D} {ds acc : List D} {e1 e2 : En} (h : t d e = some e1) (hc : c e1 = .ok false e2) : lcGo own t c x (d :: ds) e acc = lcGo own t c x ds (wipeE e2 own) acc := by
  rw [lcGo, h]
  dsimp only
  rw [hc]
  rfl
theorem v_lcEnd {ys : List D} {e1 e2 : En} (h : own.all (fun i => match e1[i]? with
      | some s => s.obj.isNone
      | none => true) = true) : lcEnd own e1 (.ok ys e2) = .ok ys (restE e1 e2 own) := if_pos h
def ofR (ds : List D) (e : En) : R D := .ok (.lst ds) e
theorem v_ofNew {m : M (List D)} : cOfNew m e = (m e).bind ofR := rfl
theorem v_ofR {ds : List D} : ofR ds e = .ok (.lst ds) e := rfl
/-! chains -/
def ch3 (o2 : D → D → Option D) (y z : D) (e : En) : R D := oR (o2 y z) e
def ch2 (o : Option D) (o2 : D → D → Option D) (mc : M D) (y : D) (e : En) : R D := match o with
  | some (.bl k) => if k = true then (mc e).bind (ch3 o2 y) else .ok (.bl false) e
  | _ => .no
def chY (o1 o2 : D → D → Option D) (mc : M D) (x y : D) (e : En) : R D := ch2 (o1 x y) o2 mc y e
def ch1 (o1 o2 : D → D → Option D) (mb mc : M D) (x : D) (e : En) : R D := (mb e).bind (chY o1 o2 mc x)
theorem v_chain {o1 o2 : D → D → Option D} {mc : M D} : cChain o1 o2 ma mb mc e = (ma e).bind (ch1 o1 o2 mb mc) := by
  unfold cChain
  congr 1
  funext x e1
  unfold ch1
  congr 1
  funext y e2
  unfold chY ch2
  cases o1 x y with
  | none => rfl
  | some d =>
    cases d with
    | bl k =>
      dsimp only
      congr 1
      congr 1
      funext z e3
      unfold ch3 oR
      cases o2 y z <;> rfl
    | _ => rfl
theorem v_ch1 {o1 o2 : D → D → Option D} {mc : M D} {x : D} : ch1 o1 o2 mb mc x e = (mb e).bind (chY o1 o2 mc x) := rfl
theorem v_chY {o1 o2 : D → D → Option D} {mc : M D} {x y : D} : chY o1 o2 mc x y e = ch2 (o1 x y) o2 mc y e := rfl
theorem v_ch2t {o2 : D → D → Option D} {mc : M D} {y : D} : ch2 (some (.bl true)) o2 mc y e = (mc e).bind (ch3 o2 y) := rfl
theorem v_ch2f {o2 : D → D → Option D} {mc : M D} {y : D} : ch2 (some (.bl false)) o2 mc y e = .ok (.bl false) e := rfl
theorem v_ch3 {o2 : D → D → Option D} {y z : D} : ch3 o2 y z e = oR (o2 y z) e := rfl
/-! slices -/
def cu3 (d : D) (l h : Option Int) (e : En) : R D := oR (dCut d l h) e
def cu2 (hi : MO) (d : D) (l : Option Int) (e : En) : R D := (hi e).bind (cu3 d l)
def cu1 (lo hi : MO) (d : D) (e : En) : R D := (lo e).bind (cu2 hi d)
theorem v_cut {lo hi : MO} : cCut ma lo hi e = (ma e).bind (cu1 lo hi) := by
  unfold cCut
  congr 1
  funext d e1
  unfold cu1
  congr 1
  funext l e2
  unfold cu2
  congr 1
  funext h e3
  unfold cu3 oR
  cases dCut d l h <;> rfl
theorem v_cu1 {lo hi : MO} {d : D} : cu1 lo hi d e = (lo e).bind (cu2 hi d) := rfl
theorem v_cu2 {hi : MO} {d : D} {l : Option Int} : cu2 hi d l e = (hi e).bind (cu3 d l) := rfl
theorem v_cu3 {d : D} {l h : Option Int} : cu3 d l h e = oR (dCut d l h) e := rfl
theorem v_nop : cNoPart e = .ok none e := rfl
def ptR (d : D) (e : En) : R (Option Int) := match d with
  | .int i => .ok (some i) e
  | _ => .no
theorem v_part : cPart ma e = (ma e).bind ptR := rfl
theorem v_ptR {i : Int} : ptR (.int i) e = .ok (some i) e := rfl
/-! (x, y) = v -/
def tgO (q : Option En) : O := match q with
  | some e2 => .nx e2
  | none => .no
def unO (t : Tg) (d : D) (e : En) : O := tgO (t d e)
theorem v_unp {t : Tg} : sUnp t ma e = (ma e).toO (unO t) := rfl
theorem v_unO {t : Tg} {d : D} : unO t d e = tgO (t d e) := rfl
theorem v_tgO {e2 : En} : tgO (some e2) = .nx e2 := rfl
def tgB (ts : List Tg) (ds : List D) (q : Option En) : Option En := q.bind fun e1 => tgs ts ds e1
theorem v_tgs0 : tgs [] [] e = some e := rfl
theorem v_tgs {ts : List Tg} {t : Tg} {ds : List D} {d : D} : tgs (t :: ts) (d :: ds) e = tgB ts ds (t d e) := rfl
theorem v_tgB {ts : List Tg} {ds : List D} {e1 : En} : tgB ts ds (some e1) = tgs ts ds e1 := rfl
theorem v_ttt {ts : List Tg} {ds : List D} : tTuple ts (.tup ds) e = tgs ts ds e := rfl
theorem v_tname {i : Nat} {d : D} : tName i d e = setE i (.dat d) e := rfl
end
end Md

/-! Pl3: evaluation lemmas of loops, comprehensions over what is known, calls by keywords, errors made, steps of a goal. -/
namespace Md
open PySem PySem.Spec PyProof.Rows L2
/-- a goal about a result: the place where evaluation goes on -/
def GR {α : Type} (P : R α → Prop) (r : R α) : Prop := P r
def GO (P : O → Prop) (o : O) : Prop := P o
section
variable {ma mb mo : M D} {mt mu mv : M Bool} {m : M (List Ar)} {e e1 : En} {t : Tg} {b : MS} {ds acc : List D} {d y : D} {own : List Nat} {c : M Bool} {x : M D}
/-! for -/
def fg2 (t : Tg) (b : MS) (ds : List D) (o : O) : O := match o with
  | .nx e2 => forGo t b ds e2
  | .ct e2 => forGo t b ds e2
  | .bk e2 => .nx e2
  | .no => .no
  | .rt d e2 => .rt d e2
  | .ex c fs e2 => .ex c fs e2
def fg1 (t : Tg) (b : MS) (ds : List D) (q : Option En) : O := match q with
  | some e1 => fg2 t b ds (b e1)
  | none => .no
theorem v_fg0 : forGo t b [] e = .nx e := rfl
theorem v_fgc : forGo t b (d :: ds) e = fg1 t b ds (t d e) := by
  rw [forGo]
  cases t d e with
  | none => rfl
  | some e1 => first
    | (unfold fg1 fg2; dsimp only; done)
    | (unfold fg1 fg2; dsimp only; cases b e1 <;> rfl)
    | rfl
theorem v_fg1 : fg1 t b ds (some e1) = fg2 t b ds (b e1) := rfl
theorem v_fgn : fg2 t b ds (.nx e) = forGo t b ds e := rfl
theorem v_fgt : fg2 t b ds (.ct e) = forGo t b ds e := rfl
theorem v_fgb : fg2 t b ds (.bk e) = .nx e := rfl
theorem v_fgr : fg2 t b ds (.rt d e) = .rt d e := rfl
theorem v_fgx {c : Nat} {fs : List (Str × D)} : fg2 t b ds (.ex c fs e) = .ex c fs e := rfl
/-! comprehensions -/
def lc3 (own : List Nat) (t : Tg) (c : M Bool) (x : M D) (ds acc : List D) (y : D) (e3 : En) : R (List D) := if acc.length < sizeLine then lcGo own t c x ds (wipeE e3 own) (acc ++ [y]) else .no
def lc2 (own : List Nat) (t : Tg) (c : M Bool) (x : M D) (ds acc : List D) (b : Bool) (e2 : En) : R (List D) := if b = true then (x e2).bind (lc3 own t c x ds acc) else lcGo own t c x ds (wipeE e2 own) acc
def lc1 (own : List Nat) (t : Tg) (c : M Bool) (x : M D) (ds acc : List D) (q : Option En) : R (List D) := match q with
  | some e1 => (c e1).bind (lc2 own t c x ds acc)
  | none => .no
theorem v_lc0 : lcGo own t c x [] e acc = .ok acc e := rfl
theorem v_lcc : lcGo own t c x (d :: ds) e acc = lc1 own t c x ds acc (t d e) := by
  rw [lcGo]
  cases t d e with
  | none => rfl
  | some e1 => rfl
theorem v_lc1 : lc1 own t c x ds acc (some e1) = (c e1).bind (lc2 own t c x ds acc) := rfl
theorem v_lc2t : lc2 own t c x ds acc true e = (x e).bind (lc3 own t c x ds acc) := rfl
theorem v_lc2f : lc2 own t c x ds acc false e = lcGo own t c x ds (wipeE e own) acc := rfl
theorem v_lc3 (h : acc.length < 1000) : lc3 own t c x ds acc y e = lcGo own t c x ds (wipeE e own) (acc ++ [y]) := if_pos (Nat.lt_of_lt_of_le h (by rw [sizeLine_eq]; omega))
theorem v_yes : cYes e = .ok true e := rfl
theorem v_wi0 : wipeE e [] = e := rfl
theorem v_wi {v : Nat} {vs : List Nat} : wipeE e (v :: vs) = (wipeE e vs).set v .unk := rfl
def reS (i : Nat) (q : Option Slot) (e : En) : En := match q with
  | some s => e.set i s
  | none => e
theorem v_re0 : restE e e1 [] = e1 := rfl
theorem v_re {v : Nat} {vs : List Nat} : restE e e1 (v :: vs) = reS v e[v]? (restE e e1 vs) := by
  rw [restE]
  cases e[v]? <;> rfl
theorem v_reS {i : Nat} {s : Slot} : reS i (some s) e = e.set i s := rfl
def ownOk (e1 : En) (own : List Nat) : Bool := own.all fun i => match e1[i]? with
  | some s => s.obj.isNone
  | none => true
def okO (q : Option Slot) : Bool := match q with
  | some s => s.obj.isNone
  | none => true
theorem v_ow0 : ownOk e [] = true := rfl
theorem v_ow {v : Nat} {vs : List Nat} : ownOk e (v :: vs) = (okO e[v]? && ownOk e vs) := rfl
theorem v_oku : okO (some .unk) = true := rfl
theorem v_okd : okO (some (.dat d)) = true := rfl
def lcE (k : Bool) (own : List Nat) (e1 : En) (ys : List D) (e2 : En) : R (List D) := if k = true then .ok ys (restE e1 e2 own) else .no
theorem v_lce {ys : List D} {e2 : En} : lcEnd own e1 (.ok ys e2) = lcE (ownOk e1 own) own e1 ys e2 := rfl
theorem v_lcet {ys : List D} {e2 : En} : lcE true own e1 ys e2 = .ok ys (restE e1 e2 own) := rfl
/-! f(k = e, ..) -/
def ckR (f : Sem) (g : List D → List D) (ds : List D) (e : En) : R D := cdR e (f ((g ds).map Slot.dat))
theorem v_callK {f : Sem} {g : List D → List D} : cCallK f g m e = (m e).bind (dsR (ckR f g)) := by
  unfold cCallK
  congr 1
  funext as e1
  unfold dsR ckR
  cases datas as with
  | none => rfl
  | some ds =>
    dsimp only
    cases f ((g ds).map Slot.dat) <;> rfl
theorem v_ckR {f : Sem} {g : List D → List D} {ds : List D} : ckR f g ds e = cdR e (f ((g ds).map Slot.dat)) := rfl
/-! a new list by a def -/
def cnB (as : List Ar) (e : En) (r : R (List D)) : R (List D) := match r with
  | .no => .no
  | .ok d sl' => .ok d (back as sl' e)
  | .ex c fs sl' => .ex c fs (back as sl' e)
def cnS (f : SemN) (as : List Ar) (e : En) (s : Option (List Slot)) : R (List D) := match s with
  | some sl => cnB as e (f (sl ++ ([] : List D).map Slot.dat))
  | none => .no
def cnR (f : SemN) (as : List Ar) (e : En) : R (List D) := if nodupIx as = true then cnS f as e (arSlots e as) else .no
theorem v_callN {f : SemN} : cCallN f m e = (m e).bind (cnR f) := by
  unfold cCallN
  congr 1
def cnD (e : En) (r : R (List D)) : R (List D) := match r with
  | .no => .no
  | .ok d _ => .ok d e
  | .ex c fs _ => .ex c fs e
theorem v_cnd1 {ys : List D} {sl : En} : cnD e (.ok ys sl) = .ok ys e := rfl
theorem v_cnd2 {c : Nat} {fs : List (Str × D)} {sl : En} : cnD e (.ex c fs sl) = .ex c fs e := rfl
theorem v_cnd {f : SemN} {ds : List D} : cnR f (ds.map Ar.d) e = cnD e (f (ds.map Slot.dat)) := by
  unfold cnR
  rw [if_pos (nodup_dats ds), slots_dats]
  show cnB _ e (f (ds.map Slot.dat ++ [])) = _
  rw [List.append_nil]
  cases f (ds.map Slot.dat) with
  | no => rfl
  | ok d sl => unfold cnB cnD; dsimp only; rw [back_dats]
  | ex c fs sl => unfold cnB cnD; dsimp only; rw [back_dats]
theorem v_cn0 {f : SemN} : cnR f [] e = cnD e (f []) := v_cnd (ds := [])
theorem v_cn1 {f : SemN} {x : D} : cnR f [.d x] e = cnD e (f [.dat x]) := v_cnd (ds := [x])
theorem v_cn2 {f : SemN} {x y : D} : cnR f [.d x, .d y] e = cnD e (f [.dat x, .dat y]) := v_cnd (ds := [x, y])
theorem v_cn3 {f : SemN} {x y z : D} : cnR f [.d x, .d y, .d z] e = cnD e (f [.dat x, .dat y, .dat z]) := v_cnd (ds := [x, y, z])
/-! errors made -/
def mk1 (c : Nat) (q : Option (List (Str × D))) (e : En) : R D := match q with
  | some fs => .ok (.exc c fs) e
  | none => .no
theorem v_emk0 {c : Nat} : cMk0 c e = .ok (.exc c []) e := rfl
/-! x += e -/
def agO (i : Nat) (o : Option D) (e : En) : O := match o with
  | some z => nxO (setE i (.dat z) e)
  | none => .no
def kag (i : Nat) (op : D → D → Option D) (x y : D) (e : En) : O := agO i (op x y) e
def agS (i : Nat) (op : D → D → Option D) (m : M D) (e : En) (s : Option Slot) : O := match s with
  | some (.dat x) => (m e).toO (kag i op x)
  | _ => .no
theorem v_aug {i : Nat} {op : D → D → Option D} : sAug i op ma e = agS i op ma e e[i]? := by
  unfold sAug agS
  cases e[i]? with
  | none => rfl
  | some s =>
    cases s with
    | dat x =>
      rfl
    | _ => rfl
theorem v_agS {i : Nat} {op : D → D → Option D} {x : D} : agS i op ma e (some (.dat x)) = (ma e).toO (kag i op x) := rfl
theorem v_kag {i : Nat} {op : D → D → Option D} {x y : D} : kag i op x y e = agO i (op x y) e := rfl
theorem v_agO {i : Nat} {z : D} : agO i (some z) e = nxO (setE i (.dat z) e) := rfl
/-! ranges of two -/
def r2R (as : List Ar) (e : En) : R (List D) := match arInts as with
  | some [a, b] => if -(2 ^ 62) ≤ a ∧ a < 2 ^ 62 ∧ -(2 ^ 62) ≤ b ∧ b < 2 ^ 62 then .ok (rgD a (b - a).toNat) e else .no
  | _ => .no
theorem v_r2 : iRange2 m e = (m e).bind r2R := rfl
theorem v_r2R {a n : Int} (h0 : -4611686018427387904 ≤ a) (h1 : a < 4611686018427387904) (h2 : -4611686018427387904 ≤ n) (h3 : n < 4611686018427387904) : r2R [.d (.int a), .d (.int n)] e = .ok (rgD a (n - a).toNat) e := by
  unfold r2R
  simp only [arInts, Option.map]
  rw [if_pos ⟨by omega, by omega, by omega, by omega⟩]
theorem v_r1n {n : Int} (h0 : -4611686018427387904 ≤ n) (h1 : n < 4611686018427387904) : r1R [.d (.int n)] e = .ok (rgD 0 n.toNat) e := v_r1R ⟨by omega, by omega⟩
theorem v_rg0 {a : Int} : rgD a 0 = [] := rfl
theorem v_rgs {a : Int} {n : Nat} : rgD a (n + 1) = .int a :: rgD (a + 1) n := by
  unfold rgD
  rw [List.range_succ_eq_map, List.map_cons, List.map_map]
  congr 1
  · simp
  · congr 1
    funext i
    simp only [Function.comp, Nat.succ_eq_add_one]
    congr 1
    omega
/-! errors made -/
def mkQ (c : Nat) (q : Option (List (Str × D))) (e : En) : R D := match q with
  | some fs => .ok (.exc c fs) e
  | none => .no
theorem v_emk {c : Nat} {fl : List D → Option (List (Str × D))} : cMk c fl m e = (m e).bind (mkR c fl) := rfl
theorem v_mkR1 {c : Nat} {f : Str} {x : D} : mkR c (fl1 f) [.d x] e = .ok (.exc c [(f, x)]) e := rfl
theorem v_mkR2 {c : Nat} {f g : Str} {x y : D} : mkR c (fl2 f g) [.d x, .d y] e = .ok (.exc c [(g, y), (f, x)]) e := rfl
/-! a caught error -/
def tkL (q : Option Bool) (c : Nat) (fs : List (Str × D)) (i j : Nat) (e1 : En) : O := match q with
  | some true => (match setE i .unk e1 with
    | some e2 => nxO (setE j (.dat (.exc c fs)) e2)
    | none => .no)
  | some false => .ex c fs e1
  | none => .no
theorem v_tkx {tab : List (Nat × Bool)} {i j c : Nat} {fs : List (Str × D)} : tkO tab i j (.ex c fs e) = tkL (tab.lookup c) c fs i j e := by
  unfold tkO tkL
  first
    | (dsimp only; done)
    | (dsimp only; cases List.lookup c tab with
        | none => rfl
        | some k => cases k <;> rfl)
theorem v_tkf {i j c : Nat} {fs : List (Str × D)} : tkL (some false) c fs i j e = .ex c fs e := rfl
theorem v_tkt {i j c : Nat} {fs : List (Str × D)} : tkL (some true) c fs i j e = tk2 (setE i .unk e) j (.exc c fs) := rfl
end
theorem v_ttl {ts : List Tg} {ds : List D} {e : En} : tTuple ts (.lst ds) e = tgs ts ds e := rfl
/-- a slot that may be stored into -/
def Slot.free : Slot → Bool
  | .io _ => false
  | _ => true
theorem v_stf {i : Nat} {s t : Slot} {e : En} (h : t.free = true) : stO (some t) i s e = some (e.set i s) := by
  cases t with
  | io _ => cases h
  | _ => rfl
/-! written texts -/
theorem ofStr_inj {a b : String} (h : Str.ofString a = Str.ofString b) : a = b := by
  rw [Str.ofString_eq_toList, Str.ofString_eq_toList] at h
  have h2 : (a.toList.map Char.toNat) = (b.toList.map Char.toNat) := by
    have := congrArg (fun s : Str => s.cps.toList) h
    simpa using this
  apply String.toList_inj.mp
  have inj : ∀ (xs ys : List Char), xs.map Char.toNat = ys.map Char.toNat → xs = ys := by
    intro xs
    induction xs with
    | nil => intro ys h; cases ys with
      | nil => rfl
      | cons _ _ => simp at h
    | cons x xs ih => intro ys h; cases ys with
      | nil => simp at h
      | cons y ys =>
        simp only [List.map_cons, List.cons.injEq] at h
        have e : x = y := Char.ext (UInt32.toNat_inj.mp h.1)
        rw [e, ih ys h.2]
  exact inj _ _ h2
theorem ofStr_beq {a b : String} : (Str.ofString a == Str.ofString b) = (a == b) := by
  by_cases h : a = b
  · subst h
    simp
  · have h2 : Str.ofString a ≠ Str.ofString b := fun z => h (ofStr_inj z)
    rw [beq_eq_false_iff_ne.mpr h2, beq_eq_false_iff_ne.mpr h]
theorem ofStr_eq {a b : String} : (Str.ofString a = Str.ofString b) = (a = b) := propext ⟨ofStr_inj, fun h => by rw [h]⟩
/-! fields -/
def lkI (k : Bool) (d : D) (r : Option D) : Option D := match k with
  | true => some d
  | false => r
theorem v_lk0 {x : Str} : List.lookup x ([] : List (Str × D)) = none := rfl
theorem v_lk {x y : Str} {d : D} {r : List (Str × D)} : List.lookup x ((y, d) :: r) = lkI (x == y) d (List.lookup x r) := by
  rw [List.lookup_cons]
  cases x == y <;> rfl
theorem v_lkt {d : D} {r : Option D} : lkI true d r = some d := rfl
theorem v_lkf {d : D} {r : Option D} : lkI false d r = r := rfl
def pdI (k : Bool) (a b : List (Str × D)) : List (Str × D) := match k with
  | true => a
  | false => b
theorem v_pd0 {f : Str} {v : D} : putD f v [] = [(f, v)] := rfl
theorem v_pd {f g : Str} {v w : D} {r : List (Str × D)} : putD f v ((g, w) :: r) = pdI (g == f) ((f, v) :: r) ((g, w) :: putD f v r) := by
  rw [putD]
  by_cases h : g = f
  · subst h
    rw [if_pos rfl, beq_self_eq_true]
    rfl
  · rw [if_neg h, beq_eq_false_iff_ne.mpr h]
    rfl
theorem v_pdt {a b : List (Str × D)} : pdI true a b = a := rfl
theorem v_pdf {a b : List (Str × D)} : pdI false a b = b := rfl
theorem v_atc {tab : List Tk} {f : Str} {c : Nat} {fs : List (Str × D)} (h : tab.contains (.c c) = true) : dAt tab f (.ins c fs) = fs.lookup f := if_pos h
theorem v_atx {tab : List Tk} {f : Str} {c : Nat} {fs : List (Str × D)} (h : tab.contains (.x c) = true) : dAt tab f (.exc c fs) = fs.lookup f := if_pos h
/-! == of data -/
mutual
def eqD : D → D → Bool
  | .non, .non => true
  | .bl a, .bl b => a == b
  | .bl a, .int j => (if a then 1 else 0) == j
  | .int i, .bl b => i == (if b then 1 else 0)
  | .int i, .int j => i == j
  | .str x, .str y => x == y
  | .lst xs, .lst ys => eqDs xs ys
  | .tup xs, .tup ys => eqDs xs ys
  | _, _ => false
def eqDs : List D → List D → Bool
  | [], [] => true
  | x :: xs, y :: ys => eqD x y && eqDs xs ys
  | _, _ => false
end
mutual
/-- data that == reads: texts that are texts, no objects -/
def D.fl : D → Bool
  | .non => true
  | .bl _ => true
  | .int _ => true
  | .str x => PyData.strOk x
  | .tup xs => flA xs
  | .lst xs => flA xs
  | _ => false
def flA : List D → Bool
  | [] => true
  | x :: xs => x.fl && flA xs
end
mutual
def D.dep : D → Nat
  | .tup xs => depA xs + 1
  | .lst xs => depA xs + 1
  | _ => 0
def depA : List D → Nat
  | [] => 0
  | x :: xs => max x.dep (depA xs)
end
mutual
theorem fl_py : ∀ {d : D}, d.fl = true → ∃ p, d.py = some p ∧ PyData.canLay0 p = true ∧ p.depth = d.dep
  | .non, _ => ⟨.none, by rw [D.py], rfl, rfl⟩
  | .bl b, _ => ⟨.bool b, by rw [D.py], rfl, rfl⟩
  | .int i, _ => ⟨.int i, by rw [D.py], rfl, rfl⟩
  | .str x, h => ⟨.str x, by rw [D.py], by rw [D.fl] at h; rw [PyData.canLay0]; exact h, rfl⟩
  | .tup xs, h => by
    rw [D.fl] at h
    obtain ⟨ps, h1, h2, h3⟩ := flA_py h
    exact ⟨.tuple ps, by rw [D.py, h1]; rfl, by rw [PyData.canLay0, h2], by rw [PyData.depth, D.dep, h3]⟩
  | .lst xs, h => by
    rw [D.fl] at h
    obtain ⟨ps, h1, h2, h3⟩ := flA_py h
    exact ⟨.list ps, by rw [D.py, h1]; rfl, by rw [PyData.canLay0, h2], by rw [PyData.depth, D.dep, h3]⟩
  | .ins _ _, h => by simp [D.fl] at h
  | .exc _ _, h => by simp [D.fl] at h
  | .dk _, h => by simp [D.fl] at h
  | .scr _, h => by simp [D.fl] at h
theorem flA_py : ∀ {ds : List D}, flA ds = true → ∃ ps, pyAll ds = some ps ∧ PyData.canLayAll0 ps = true ∧ PyData.depthAll ps = depA ds
  | [], _ => ⟨[], by rw [pyAll], rfl, rfl⟩
  | x :: xs, h => by
    rw [flA, Bool.and_eq_true] at h
    obtain ⟨p, a1, a2, a3⟩ := fl_py h.1
    obtain ⟨ps, b1, b2, b3⟩ := flA_py h.2
    exact ⟨p :: ps, by rw [pyAll, a1, b1]; rfl, by rw [PyData.canLayAll0, a2, b2]; rfl, by rw [PyData.depthAll, depA, a3, b3]⟩
end
mutual
theorem eq_py : ∀ {x y : D} {p q : PyData}, x.py = some p → y.py = some q → PyData.eqv p q = eqD x y
  | x, y, p, q, hx, hy => by
    cases x <;> cases y <;> simp only [D.py, Option.some.injEq, Option.map_eq_some_iff, reduceCtorEq] at hx hy
    all_goals first
      | (subst hx hy; simp only [PyData.eqv, eqD]; done)
      | skip
    all_goals first
      | (obtain ⟨ps, h1, rfl⟩ := hx; obtain ⟨qs, h2, rfl⟩ := hy; rw [PyData.eqv, eqD]; exact eqs_py h1 h2)
      | (obtain ⟨ps, h1, rfl⟩ := hx; obtain ⟨qs, h2, rfl⟩ := hy; simp only [PyData.eqv, eqD]; done)
      | (obtain ⟨ps, h1, rfl⟩ := hx; subst hy; simp only [PyData.eqv, eqD]; done)
      | (obtain ⟨ps, h1, rfl⟩ := hy; subst hx; simp only [PyData.eqv, eqD]; done)
theorem eqs_py : ∀ {xs ys : List D} {ps qs : List PyData}, pyAll xs = some ps → pyAll ys = some qs → PyData.eqvAll ps qs = eqDs xs ys
  | [], [], ps, qs, hx, hy => by
    simp only [pyAll, Option.some.injEq] at hx hy
    subst hx hy
    simp only [PyData.eqvAll, eqDs]
  | [], y :: ys, ps, qs, hx, hy => by
    simp only [pyAll, Option.some.injEq] at hx
    subst hx
    rw [pyAll] at hy
    cases h1 : y.py with
    | none => rw [h1] at hy; cases hy
    | some q =>
      rw [h1, Option.bind_some] at hy
      cases h2 : pyAll ys with
      | none => rw [h2] at hy; cases hy
      | some qs' => rw [h2] at hy; cases hy; simp only [PyData.eqvAll, eqDs]
  | x :: xs, [], ps, qs, hx, hy => by
    simp only [pyAll, Option.some.injEq] at hy
    subst hy
    rw [pyAll] at hx
    cases h1 : x.py with
    | none => rw [h1] at hx; cases hx
    | some q =>
      rw [h1, Option.bind_some] at hx
      cases h2 : pyAll xs with
      | none => rw [h2] at hx; cases hx
      | some qs' => rw [h2] at hx; cases hx; simp only [PyData.eqvAll, eqDs]
  | x :: xs, y :: ys, ps, qs, hx, hy => by
    have hx' := hx
    have hy' := hy
    unfold pyAll at hx' hy'
    cases h1 : x.py with
    | none => rw [h1] at hx'; cases hx'
    | some p =>
      rw [h1, Option.bind_some] at hx'
      cases h2 : pyAll xs with
      | none => rw [h2] at hx'; cases hx'
      | some ps' =>
        rw [h2] at hx'
        cases hx'
        cases h3 : y.py with
        | none => rw [h3] at hy'; cases hy'
        | some q =>
          rw [h3, Option.bind_some] at hy'
          cases h4 : pyAll ys with
          | none => rw [h4] at hy'; cases hy'
          | some qs' =>
            rw [h4] at hy'
            cases hy'
            rw [PyData.eqvAll, eqDs, eq_py h1 h3, eqs_py h2 h4]
end
theorem fl_shaped {d : D} {p : PyData} (h : d.fl = true) (hd : d.dep ≤ 64) (hp : d.py = some p) : SeqAt.shaped p = true := by
  obtain ⟨p', a1, a2, a3⟩ := fl_py h
  rw [a1] at hp
  cases hp
  unfold SeqAt.shaped
  rw [a2, a3, decide_eq_true hd]
  rfl
theorem eqP_fl {x y : D} (h1 : x.fl = true) (h2 : y.fl = true) (d1 : x.dep ≤ 64) (d2 : y.dep ≤ 64) : dEqP x y = some (eqD x y) := by
  obtain ⟨p, a1, _, _⟩ := fl_py h1
  obtain ⟨q, b1, _, _⟩ := fl_py h2
  unfold dEqP
  rw [a1, Option.bind_some, b1, Option.bind_some, if_pos ⟨fl_shaped h1 d1 a1, fl_shaped h2 d2 b1⟩, eq_py a1 b1]
theorem eqB_fl {x y : D} (h1 : x.fl = true) (h2 : y.fl = true) (d1 : x.dep ≤ 64) (d2 : y.dep ≤ 64) : dEqB x y = some (eqD x y) := by
  have k := eqP_fl h1 h2 d1 d2
  cases x <;> cases y <;> first
    | exact k
    | (show some _ = some _
       rw [eqD]
       rename_i a b
       by_cases h : a = b
       · subst h; simp
       · rw [decide_eq_false h, beq_eq_false_iff_ne.mpr h])
mutual
/-- flat data, nested n deep at most -/
def D.flat : Nat → D → Bool
  | _, .non => true
  | _, .bl _ => true
  | _, .int _ => true
  | _, .str x => PyData.strOk x
  | n + 1, .tup xs => flatA n xs
  | n + 1, .lst xs => flatA n xs
  | _, _ => false
def flatA : Nat → List D → Bool
  | _, [] => true
  | n, x :: xs => x.flat n && flatA n xs
end
mutual
theorem flat_fl : ∀ {n : Nat} {d : D}, d.flat n = true → d.fl = true ∧ d.dep ≤ n
  | n, .non, _ => ⟨by rw [D.fl], by simp [D.dep]⟩
  | n, .bl b, _ => ⟨by rw [D.fl], by simp [D.dep]⟩
  | n, .int i, _ => ⟨by rw [D.fl], by simp [D.dep]⟩
  | n, .str x, h => ⟨by rw [D.flat] at h; rw [D.fl]; exact h, by simp [D.dep]⟩
  | n + 1, .tup xs, h => by
    rw [D.flat] at h
    obtain ⟨a, b⟩ := flatA_fl h
    exact ⟨by rw [D.fl]; exact a, by rw [D.dep]; omega⟩
  | n + 1, .lst xs, h => by
    rw [D.flat] at h
    obtain ⟨a, b⟩ := flatA_fl h
    exact ⟨by rw [D.fl]; exact a, by rw [D.dep]; omega⟩
  | 0, .tup xs, h => by simp [D.flat] at h
  | 0, .lst xs, h => by simp [D.flat] at h
  | _, .ins _ _, h => by simp [D.flat] at h
  | _, .exc _ _, h => by simp [D.flat] at h
  | _, .dk _, h => by simp [D.flat] at h
  | _, .scr _, h => by simp [D.flat] at h
theorem flatA_fl : ∀ {n : Nat} {ds : List D}, flatA n ds = true → flA ds = true ∧ depA ds ≤ n
  | n, [], _ => ⟨by rw [flA], by rw [depA]; omega⟩
  | n, x :: xs, h => by
    rw [flatA, Bool.and_eq_true] at h
    obtain ⟨a1, a2⟩ := flat_fl h.1
    obtain ⟨b1, b2⟩ := flatA_fl h.2
    exact ⟨by rw [flA, a1, b1]; rfl, by rw [depA]; omega⟩
end
theorem v_eq {x y : D} (h1 : x.flat 64 = true) (h2 : y.flat 64 = true) : dEq x y = some (.bl (eqD x y)) := by
  unfold dEq
  rw [eqB_fl (flat_fl h1).1 (flat_fl h2).1 (flat_fl h1).2 (flat_fl h2).2]
  rfl
theorem v_ne {x y : D} (h1 : x.flat 64 = true) (h2 : y.flat 64 = true) : dNe x y = some (.bl (!eqD x y)) := by
  unfold dNe
  rw [eqB_fl (flat_fl h1).1 (flat_fl h2).1 (flat_fl h1).2 (flat_fl h2).2]
  rfl
theorem dec_beq {a b : Str} : decide (a = b) = (a == b) := by
  by_cases h : a = b
  · subst h; simp
  · rw [decide_eq_false h, beq_eq_false_iff_ne.mpr h]
theorem v_eqs {a b : Str} : dEq (.str a) (.str b) = some (.bl (a == b)) := by
  show (some (decide (a = b))).map D.bl = _
  rw [dec_beq]
  rfl
theorem v_nes {a b : Str} : dNe (.str a) (.str b) = some (.bl (!(a == b))) := by
  show (some (decide (a = b))).map (fun k => D.bl (!k)) = _
  rw [dec_beq]
  rfl
mutual
theorem eqD_refl : ∀ {d : D}, d.fl = true → eqD d d = true
  | .non, _ => by rw [eqD]
  | .bl b, _ => by rw [eqD]; simp
  | .int i, _ => by rw [eqD]; simp
  | .str x, _ => by rw [eqD]; simp
  | .tup xs, h => by rw [D.fl] at h; rw [eqD]; exact eqDs_refl h
  | .lst xs, h => by rw [D.fl] at h; rw [eqD]; exact eqDs_refl h
  | .ins _ _, h => by simp [D.fl] at h
  | .exc _ _, h => by simp [D.fl] at h
  | .dk _, h => by simp [D.fl] at h
  | .scr _, h => by simp [D.fl] at h
theorem eqDs_refl : ∀ {ds : List D}, flA ds = true → eqDs ds ds = true
  | [], _ => by rw [eqDs]
  | x :: xs, h => by
    rw [flA, Bool.and_eq_true] at h
    rw [eqDs, eqD_refl h.1, eqDs_refl h.2]
    rfl
end
/-! in -/
def inD (x : D) : List D → Bool
  | [] => false
  | y :: ys => eqD y x || inD x ys
theorem any_py {x : D} {p : PyData} (hx : x.py = some p) : ∀ {ys : List D} {qs : List PyData}, pyAll ys = some qs → (qs.any fun z => PyData.eqv z p) = inD x ys
  | [], qs, h => by rw [pyAll] at h; cases h; rfl
  | y :: ys, qs, h => by
    rw [pyAll] at h
    cases h1 : y.py with
    | none => rw [h1] at h; cases h
    | some q =>
      rw [h1, Option.bind_some] at h
      cases h2 : pyAll ys with
      | none => rw [h2] at h; cases h
      | some qs' =>
        rw [h2] at h
        cases h
        rw [List.any_cons, inD, any_py hx h2, eq_py h1 hx]
theorem inB_l {x : D} {ys : List D} (h1 : x.fl = true) (d1 : x.dep ≤ 63) (h2 : flA ys = true) (d2 : depA ys ≤ 63) : dInB x (.lst ys) = some (inD x ys) := by
  obtain ⟨p, a1, a2, a3⟩ := fl_py h1
  obtain ⟨qs, b1, b2, b3⟩ := flA_py h2
  unfold dInB
  rw [a1, Option.bind_some]
  show ((pyAll ys).bind _) = _
  have s2 : SeqAt.shaped (.list qs) = true := by
    unfold SeqAt.shaped
    rw [PyData.canLay0, b2, PyData.depth, b3, decide_eq_true (by omega)]
    rfl
  rw [b1, Option.bind_some, if_pos ⟨fl_shaped h1 (by omega) a1, s2⟩, any_py a1 b1]
theorem inB_t {x : D} {ys : List D} (h1 : x.fl = true) (d1 : x.dep ≤ 63) (h2 : flA ys = true) (d2 : depA ys ≤ 63) : dInB x (.tup ys) = some (inD x ys) := by
  obtain ⟨p, a1, a2, a3⟩ := fl_py h1
  obtain ⟨qs, b1, b2, b3⟩ := flA_py h2
  unfold dInB
  rw [a1, Option.bind_some]
  show ((pyAll ys).bind _) = _
  have s2 : SeqAt.shaped (.list qs) = true := by
    unfold SeqAt.shaped
    rw [PyData.canLay0, b2, PyData.depth, b3, decide_eq_true (by omega)]
    rfl
  rw [b1, Option.bind_some, if_pos ⟨fl_shaped h1 (by omega) a1, s2⟩, any_py a1 b1]
theorem v_inl {x : D} {ys : List D} (h1 : x.flat 63 = true) (h2 : flatA 63 ys = true) : dIn x (.lst ys) = some (.bl (inD x ys)) := by
  unfold dIn; rw [inB_l (flat_fl h1).1 (flat_fl h1).2 (flatA_fl h2).1 (flatA_fl h2).2]; rfl
theorem v_int {x : D} {ys : List D} (h1 : x.flat 63 = true) (h2 : flatA 63 ys = true) : dIn x (.tup ys) = some (.bl (inD x ys)) := by
  unfold dIn; rw [inB_t (flat_fl h1).1 (flat_fl h1).2 (flatA_fl h2).1 (flatA_fl h2).2]; rfl
theorem v_nil' {x : D} {ys : List D} (h1 : x.flat 63 = true) (h2 : flatA 63 ys = true) : dNotIn x (.lst ys) = some (.bl (!inD x ys)) := by
  unfold dNotIn; rw [inB_l (flat_fl h1).1 (flat_fl h1).2 (flatA_fl h2).1 (flatA_fl h2).2]; rfl
theorem v_nit' {x : D} {ys : List D} (h1 : x.flat 63 = true) (h2 : flatA 63 ys = true) : dNotIn x (.tup ys) = some (.bl (!inD x ys)) := by
  unfold dNotIn; rw [inB_t (flat_fl h1).1 (flat_fl h1).2 (flatA_fl h2).1 (flatA_fl h2).2]; rfl
theorem strOk_w (s : String) : PyData.strOk (Str.ofString s) = true := by
  unfold PyData.strOk
  rw [Str.ofString_eq_toList, Array.all_eq_true']
  intro c hc
  have h2 : c ∈ s.toList.map Char.toNat := by simpa using hc
  obtain ⟨k, _, rfl⟩ := List.mem_map.mp h2
  have := k.valid
  rw [decide_eq_true_eq]
  show k.val.toNat < 0x110000
  rcases k.valid with h | ⟨_, h⟩
  · exact Nat.lt_trans h (by decide)
  · exact h
theorem v_fl0 {n : Nat} : D.non.flat n = true := by simp only [D.flat]
theorem v_fl1 {n : Nat} {b : Bool} : (D.bl b).flat n = true := by simp only [D.flat]
theorem v_fl2 {n : Nat} {i : Int} : (D.int i).flat n = true := by simp only [D.flat]
theorem v_fl3 {n : Nat} {s : String} : (D.str (Str.ofString s)).flat n = true := by rw [D.flat]; exact strOk_w s
theorem v_fl4 {n : Nat} {xs : List D} : (D.tup xs).flat (n + 1) = flatA n xs := by rw [D.flat]
theorem v_fl5 {n : Nat} {xs : List D} : (D.lst xs).flat (n + 1) = flatA n xs := by rw [D.flat]
theorem v_fa0 {n : Nat} : flatA n [] = true := by rw [flatA]
theorem v_fac {n : Nat} {x : D} {xs : List D} : flatA n (x :: xs) = (x.flat n && flatA n xs) := by rw [flatA]
theorem v_q0 : eqD .non .non = true := by rw [eqD]
theorem v_q1 {a b : Bool} : eqD (.bl a) (.bl b) = (a == b) := by rw [eqD]
theorem v_q2 {a b : Int} : eqD (.int a) (.int b) = (a == b) := by rw [eqD]
theorem v_q3 {a b : Str} : eqD (.str a) (.str b) = (a == b) := by rw [eqD]
theorem v_q4 {a b : List D} : eqD (.tup a) (.tup b) = eqDs a b := by rw [eqD]
theorem v_q5 {a b : List D} : eqD (.lst a) (.lst b) = eqDs a b := by rw [eqD]
theorem v_q6 {a : Bool} {j : Int} : eqD (.bl a) (.int j) = ((if a then 1 else 0) == j) := by rw [eqD]
theorem v_q7 {a : Bool} {j : Int} : eqD (.int j) (.bl a) = (j == (if a then 1 else 0)) := by rw [eqD]
theorem v_qs0 : eqDs [] [] = true := by rw [eqDs]
theorem v_qsc {x y : D} {xs ys : List D} : eqDs (x :: xs) (y :: ys) = (eqD x y && eqDs xs ys) := by rw [eqDs]
theorem v_qsn {x : D} {xs : List D} : eqDs (x :: xs) [] = false := by simp only [eqDs]
theorem v_qns {x : D} {xs : List D} : eqDs [] (x :: xs) = false := by simp only [eqDs]
theorem v_i0 {x : D} : inD x [] = false := rfl
theorem v_i1 {x y : D} {ys : List D} : inD x (y :: ys) = (eqD y x || inD x ys) := rfl
/-! data of two kinds -/
theorem v_qa {a : Bool} : eqD .non (.bl a) = false := by simp only [eqD]
theorem v_qb {a : Int} : eqD .non (.int a) = false := by simp only [eqD]
theorem v_qc {a : Str} : eqD .non (.str a) = false := by simp only [eqD]
theorem v_qd {a : List D} : eqD .non (.tup a) = false := by simp only [eqD]
theorem v_qe {a : List D} : eqD .non (.lst a) = false := by simp only [eqD]
theorem v_qf {a : Bool} : eqD (.bl a) .non = false := by simp only [eqD]
theorem v_qg {a : Int} : eqD (.int a) .non = false := by simp only [eqD]
theorem v_qh {a : Str} : eqD (.str a) .non = false := by simp only [eqD]
theorem v_qi {a : List D} : eqD (.tup a) .non = false := by simp only [eqD]
theorem v_qj {a : List D} : eqD (.lst a) .non = false := by simp only [eqD]
theorem v_qk {a : Str} {b : Int} : eqD (.str a) (.int b) = false := by simp only [eqD]
theorem v_ql {a : Str} {b : Int} : eqD (.int b) (.str a) = false := by simp only [eqD]
theorem v_qm {a : List D} {b : Int} : eqD (.tup a) (.int b) = false := by simp only [eqD]
theorem v_qn {a : List D} {b : Int} : eqD (.int b) (.tup a) = false := by simp only [eqD]
theorem v_qo {a : List D} {b : Int} : eqD (.lst a) (.int b) = false := by simp only [eqD]
theorem v_qp {a : List D} {b : Int} : eqD (.int b) (.lst a) = false := by simp only [eqD]
theorem v_qq {a : List D} {b : Str} : eqD (.tup a) (.str b) = false := by simp only [eqD]
theorem v_qr {a : List D} {b : Str} : eqD (.str b) (.tup a) = false := by simp only [eqD]
theorem v_qs {a : List D} {b : Str} : eqD (.lst a) (.str b) = false := by simp only [eqD]
theorem v_qt {a : List D} {b : Str} : eqD (.str b) (.lst a) = false := by simp only [eqD]
theorem v_qu {a b : List D} : eqD (.lst a) (.tup b) = false := by simp only [eqD]
theorem v_qv {a b : List D} : eqD (.tup a) (.lst b) = false := by simp only [eqD]
theorem v_qw {a : Bool} {b : Str} : eqD (.bl a) (.str b) = false := by simp only [eqD]
theorem v_qx {a : Bool} {b : Str} : eqD (.str b) (.bl a) = false := by simp only [eqD]
theorem v_qy {a : Bool} {b : List D} : eqD (.bl a) (.tup b) = false := by simp only [eqD]
theorem v_qz {a : Bool} {b : List D} : eqD (.tup b) (.bl a) = false := by simp only [eqD]
/-- what stands at a place, by a written number -/
theorem atI_nat {xs : List D} {n : Nat} : atI xs (n : Int) = xs[n]? := by
  unfold atI ixN
  rw [if_pos (by omega)]
  by_cases h : n < xs.length
  · rw [if_pos (by omega), Option.bind_some]
    rfl
  · rw [if_neg (by omega)]
    rw [List.getElem?_eq_none (by omega)]
    rfl
theorem v_atI0 {xs : List D} : atI xs 0 = xs[0]? := atI_nat (n := 0)
theorem v_atI1 {xs : List D} : atI xs 1 = xs[1]? := atI_nat (n := 1)
theorem v_atI2 {xs : List D} : atI xs 2 = xs[2]? := atI_nat (n := 2)
theorem v_atI3 {xs : List D} : atI xs 3 = xs[3]? := atI_nat (n := 3)
theorem v_atI4 {xs : List D} : atI xs 4 = xs[4]? := atI_nat (n := 4)
theorem v_atI5 {xs : List D} : atI xs 5 = xs[5]? := atI_nat (n := 5)
theorem v_atI6 {xs : List D} : atI xs 6 = xs[6]? := atI_nat (n := 6)
theorem v_atI7 {xs : List D} : atI xs 7 = xs[7]? := atI_nat (n := 7)
theorem v_atI8 {xs : List D} : atI xs 8 = xs[8]? := atI_nat (n := 8)
theorem v_atI9 {xs : List D} : atI xs 9 = xs[9]? := atI_nat (n := 9)
theorem v_atI10 {xs : List D} : atI xs 10 = xs[10]? := atI_nat (n := 10)
theorem v_atI11 {xs : List D} : atI xs 11 = xs[11]? := atI_nat (n := 11)
theorem v_atI12 {xs : List D} : atI xs 12 = xs[12]? := atI_nat (n := 12)
theorem v_ixt {xs : List D} {k : Int} : dIx (.tup xs) (.int k) = atI xs k := rfl
theorem v_ixl {xs : List D} {k : Int} : dIx (.lst xs) (.int k) = atI xs k := rfl
/-! numbers -/
theorem v_addi {i j : Int} : dAdd (.int i) (.int j) = some (.int (i + j)) := rfl
theorem v_subi {i j : Int} : dSub (.int i) (.int j) = some (.int (i - j)) := rfl
theorem v_gti {i j : Int} : dGt (.int i) (.int j) = some (.bl (decide (j < i))) := rfl
theorem v_lti {i j : Int} : dLt (.int i) (.int j) = some (.bl (decide (i < j))) := rfl
theorem v_gei {i j : Int} : dGe (.int i) (.int j) = some (.bl (decide (j ≤ i))) := rfl
theorem v_lei {i j : Int} : dLe (.int i) (.int j) = some (.bl (decide (i ≤ j))) := rfl
theorem v_eqi {i j : Int} : dEq (.int i) (.int j) = some (.bl (i == j)) := rfl
theorem v_nei {i j : Int} : dNe (.int i) (.int j) = some (.bl (!(i == j))) := rfl
theorem v_inti {i : Int} : bInt [.int i] = some (.int i) := rfl
theorem v_intb {k : Bool} : bInt [.bl k] = some (.int (if k then 1 else 0)) := rfl
theorem v_is {x : D} : dIs x .non = some (.bl x.isNon) := rfl
theorem v_isn {x : D} : dIsNot x .non = some (.bl (!x.isNon)) := rfl
theorem v_in0 : D.non.isNon = true := rfl
theorem v_in1 {k : Bool} : (D.bl k).isNon = false := rfl
theorem v_in2 {k : Int} : (D.int k).isNon = false := rfl
theorem v_in3 {k : Str} : (D.str k).isNon = false := rfl
theorem v_in4 {k : List D} : (D.tup k).isNon = false := rfl
theorem v_in5 {k : List D} : (D.lst k).isNon = false := rfl
theorem v_in6 {c : Nat} {fs : List (Str × D)} : (D.ins c fs).isNon = false := rfl
theorem v_in7 {c : Nat} {fs : List (Str × D)} : (D.exc c fs).isNon = false := rfl
theorem v_lenl {ds : List D} : bLen [.lst ds] = some (.int ds.length) := rfl
theorem v_lent {ds : List D} : bLen [.tup ds] = some (.int ds.length) := rfl
end Md

/-! Pl4: evaluation lemmas of thunks and mixed calls; sizes of numbers. -/
namespace Md
open PySem PySem.Spec PyProof.Rows L2
section
variable {m m1 m2 : M (List Ar)} {e e1 : En} {r : R D} {d : D}
theorem v_acat : cACat m1 m2 e = (m1 e).bind (kca m2) := rfl
theorem v_kca {as : List Ar} : kca m as e = (m e).bind (kcat as) := rfl
theorem v_kcat {as bs : List Ar} : kcat as bs e = .ok (as ++ bs) e := rfl
theorem v_lam {f : R D → R D} {mb : M D} : cLam f mb e = lamR (f (mb (capE e))) e := rfl
theorem v_cap0 : capE [] = [] := rfl
theorem v_capc {s : Slot} : capE (s :: e) = capS s :: capE e := rfl
theorem v_cs1 : capS (.dat d) = .dat d := rfl
theorem v_cs2 : capS .unk = .unk := rfl
theorem v_cs3 {q : OO} : capS (.own q) = .unk := rfl
theorem v_cs4 {q : OO} : capS (.io q) = .unk := rfl
theorem v_runAsk {k : Nat} {b : R D → MS} : runAsk k b r = runFn k (b r) [.dat .fn] := rfl
def askO (q : Option Slot) (r : R D) (e : En) : R D := match q with
  | some (.dat .fn) => askR r e
  | _ => .no
theorem v_ask {i : Nat} : cAsk i r e = askO e[i]? r e := rfl
theorem v_askO : askO (some (.dat .fn)) r e = askR r e := rfl
theorem v_askR1 : askR (.ok d e1) e = .ok d e := rfl
theorem v_askR2 {c : Nat} {fs : List (Str × D)} : askR (.ex c fs e1) e = .ex c fs e := rfl
theorem v_lamR1 (h : d.nofn = true) : lamR (.ok d e1) e = .ok d e := if_pos h
theorem v_lamR2 {c : Nat} {fs : List (Str × D)} (h : nofnF fs = true) : lamR (.ex c fs e1) e = .ex c fs e := if_pos h
theorem v_nf0 : D.non.nofn = true := by simp only [D.nofn]
theorem v_nf1 {b : Bool} : (D.bl b).nofn = true := by simp only [D.nofn]
theorem v_nf2 {i : Int} : (D.int i).nofn = true := by simp only [D.nofn]
theorem v_nf3 {x : Str} : (D.str x).nofn = true := by simp only [D.nofn]
theorem v_nf4 {xs : List D} : (D.tup xs).nofn = nofnA xs := by rw [D.nofn]
theorem v_nf5 {xs : List D} : (D.lst xs).nofn = nofnA xs := by rw [D.nofn]
theorem v_nfa0 : nofnA [] = true := by rw [nofnA]
theorem v_nfac {x : D} {xs : List D} : nofnA (x :: xs) = (x.nofn && nofnA xs) := by rw [nofnA]
theorem v_nff0 : nofnF [] = true := by rw [nofnF]
theorem v_nffc {f : Str} {x : D} {xs : List (Str × D)} : nofnF ((f, x) :: xs) = (x.nofn && nofnF xs) := by rw [nofnF]
theorem v_apo {i : Nat} {xs : List D} {d : D} (h : xs.length < 1000) : meR mAppend i [d] e (some (.own (.lst xs), xs)) = .ok .non (e.set i (.own (.lst (xs ++ [d])))) := by
  have : xs.length < sizeLine := by rw [sizeLine_eq]; omega
  unfold meR mAppend
  simp only [this, if_true]
  rfl
theorem v_api {i : Nat} {xs : List D} {d : D} (h : xs.length < 1000) : meR mAppend i [d] e (some (.io (.lst xs), xs)) = .ok .non (e.set i (.io (.lst (xs ++ [d])))) := by
  have : xs.length < sizeLine := by rw [sizeLine_eq]; omega
  unfold meR mAppend
  simp only [this, if_true]
  rfl
theorem v_ca5 {f : Sem} {dds : List D} {x y z u v : D} : caR f dds [.d x, .d y, .d z, .d u, .d v] e = cdR e (f (.dat x :: .dat y :: .dat z :: .dat u :: .dat v :: dds.map Slot.dat)) := v_cad (ds := [x, y, z, u, v])
theorem v_ca6 {f : Sem} {dds : List D} {x y z u v w : D} : caR f dds [.d x, .d y, .d z, .d u, .d v, .d w] e = cdR e (f (.dat x :: .dat y :: .dat z :: .dat u :: .dat v :: .dat w :: dds.map Slot.dat)) := v_cad (ds := [x, y, z, u, v, w])
theorem v_ca7 {f : Sem} {dds : List D} {x y z u v w t : D} : caR f dds [.d x, .d y, .d z, .d u, .d v, .d w, .d t] e = cdR e (f (.dat x :: .dat y :: .dat z :: .dat u :: .dat v :: .dat w :: .dat t :: dds.map Slot.dat)) := v_cad (ds := [x, y, z, u, v, w, t])
theorem v_ci_3 {f : Sem} {dds : List D} {i : Nat} {x y z : D} : caR f dds [.v i, .d x, .d y, .d z] e = ciS f dds i [x, y, z] e (ioS e[i]?) := v_cai (ds := [x, y, z])
theorem v_ci_4 {f : Sem} {dds : List D} {i : Nat} {x y z u : D} : caR f dds [.v i, .d x, .d y, .d z, .d u] e = ciS f dds i [x, y, z, u] e (ioS e[i]?) := v_cai (ds := [x, y, z, u])
theorem v_in8 : D.fn.isNon = false := rfl
end
theorem v_nc0 : ((0 : Nat) : Int) = 0 := rfl
theorem v_nc1 : ((1 : Nat) : Int) = 1 := rfl
theorem v_nc2 : ((2 : Nat) : Int) = 2 := rfl
theorem v_nc3 : ((3 : Nat) : Int) = 3 := rfl
theorem v_nc4 : ((4 : Nat) : Int) = 4 := rfl
theorem v_nc5 : ((5 : Nat) : Int) = 5 := rfl
theorem v_nc6 : ((6 : Nat) : Int) = 6 := rfl
theorem v_nc7 : ((7 : Nat) : Int) = 7 := rfl
theorem v_nc8 : ((8 : Nat) : Int) = 8 := rfl
theorem v_nc9 : ((9 : Nat) : Int) = 9 := rfl
theorem v_nc10 : ((10 : Nat) : Int) = 10 := rfl
theorem v_nc11 : ((11 : Nat) : Int) = 11 := rfl
theorem v_nc12 : ((12 : Nat) : Int) = 12 := rfl
theorem v_nc13 : ((13 : Nat) : Int) = 13 := rfl
theorem v_nc14 : ((14 : Nat) : Int) = 14 := rfl
theorem v_nc15 : ((15 : Nat) : Int) = 15 := rfl
theorem v_nc16 : ((16 : Nat) : Int) = 16 := rfl
theorem v_nc17 : ((17 : Nat) : Int) = 17 := rfl
theorem v_nc18 : ((18 : Nat) : Int) = 18 := rfl
theorem v_nc19 : ((19 : Nat) : Int) = 19 := rfl
theorem v_nc20 : ((20 : Nat) : Int) = 20 := rfl
theorem v_nc21 : ((21 : Nat) : Int) = 21 := rfl
theorem v_nc22 : ((22 : Nat) : Int) = 22 := rfl
theorem v_nc23 : ((23 : Nat) : Int) = 23 := rfl
theorem v_nc24 : ((24 : Nat) : Int) = 24 := rfl
theorem v_nc25 : ((25 : Nat) : Int) = 25 := rfl
theorem v_nc26 : ((26 : Nat) : Int) = 26 := rfl
theorem v_nc27 : ((27 : Nat) : Int) = 27 := rfl
theorem v_nc28 : ((28 : Nat) : Int) = 28 := rfl
theorem v_nc29 : ((29 : Nat) : Int) = 29 := rfl
theorem v_nc30 : ((30 : Nat) : Int) = 30 := rfl
theorem v_nc31 : ((31 : Nat) : Int) = 31 := rfl
theorem v_nc32 : ((32 : Nat) : Int) = 32 := rfl
/-! sizes -/
def Bt (n : Nat) (i : Int) : Prop := i.natAbs < 2 ^ n
theorem bt_mono {a b : Nat} {i : Int} (h : Bt a i) (k : a ≤ b) : Bt b i := Nat.lt_of_lt_of_le h (Nat.pow_le_pow_right (by decide) k)
theorem bt_sm {n : Nat} {i : Int} (h : i.natAbs < 256) (k : 8 ≤ n) : Bt n i := bt_mono (a := 8) (Nat.lt_of_lt_of_le h (by decide)) k
theorem bt_mul {a b : Nat} {i j : Int} (h : Bt a i) (k : Bt b j) : Bt (a + b) (i * j) := wide_lt h k
theorem bt_add {a : Nat} {i j : Int} (h : Bt a i) (k : Bt a j) : Bt (a + 1) (i + j) := by
  unfold Bt at *
  rw [Nat.pow_succ]
  omega
theorem bt_sub {a : Nat} {i j : Int} (h : Bt a i) (k : Bt a j) : Bt (a + 1) (i - j) := by
  unfold Bt at *
  rw [Nat.pow_succ]
  omega
theorem bt_neg {a : Nat} {i : Int} (h : Bt a i) : Bt a (-i) := by
  unfold Bt at *
  omega
theorem bt_le {a : Nat} {i j : Int} (h : Bt a j) (k : i.natAbs ≤ j.natAbs) : Bt a i := Nat.lt_of_le_of_lt k h
theorem bt_lt {a : Nat} {i j : Int} (h : Bt a j) (h0 : 0 ≤ i) (k : i ≤ j) : Bt a i := bt_le h (by omega)
theorem bt_div {a : Nat} {i j : Int} (h : Bt a i) : Bt a (i / j) := Nat.lt_of_le_of_lt (Int.natAbs_ediv_le_natAbs i j) h
theorem mul_bt {a b : Nat} {i j : Int} (h : Bt a i) (k : Bt b j) (h0 : 0 < a := by decide) (h1 : 0 < b := by decide) (hab : a + b ≤ 1000000 := by decide) : dMul (.int i) (.int j) = some (.int (i * j)) := by
  have : CMulW i j ∨ CMul i j := .inl (wide_mul h k h0 h1 hab)
  simp only [dMul, this, if_true]
theorem div_bt {b : Nat} {i j : Int} (h : 0 < j) (k : Bt b j) (h0 : 0 < b := by decide) (h1 : b ≤ 9000 := by decide) : dFloorDiv (.int i) (.int j) = some (.int (i / j)) := by
  have : CDivW i j := wide_div h k h0 h1
  simp only [dFloorDiv, this, if_true]
theorem mod_ok {i j : Int} (h : 0 < j) : dMod (.int i) (.int j) = some (.int (i % j)) := by simp only [dMod, h, if_true]
theorem neg_ok {i : Int} : dNeg (.int i) = some (.int (-i)) := rfl
theorem rep_int {n : Int} (h : Bt 1900 n) : ∃ s, bRepr [.int n] = some (.str s) := by
  have hl : n.natAbs.log2 < 1900 := PySem.Flt.log2_lt_of (by decide) h
  have hs : (PyData.shown (.int n)).length ≤ sizeLine := by
    show (Str.ofString (toString n)).length ≤ sizeLine
    rw [PySem.ofString_length]
    exact Nat.le_trans (int_text_length_le (k := 1900) (by decide) hl) (by rw [sizeLine_eq]; decide)
  have sw : PyData.showable (.int n) = true := by rw [PyData.showable, decide_eq_true (by omega)]
  refine ⟨(PyData.int n).shown, ?_⟩
  exact (if_pos ⟨sw, hs, rfl⟩ : (if (PyData.int n).showable = true ∧ (PyData.int n).shown.length ≤ sizeLine ∧ SeqAt.shaped (.int n) = true then some (D.str (PyData.int n).shown) else none) = some (D.str (PyData.int n).shown))
theorem rep_non : bRepr [.non] = some (.str (Str.ofString "None")) := by kernel_rfl
end Md

namespace Lw
open PySem PySem.Spec PyProof.Rows L2 Md
/-! ### the text by places -/
def top (i : Nat) : Stmt := PySem.Challenge.pw_whoeverrules_k53_members_for_shares.main.body.getD i (.Pass ⟨0, 0, 0, 0⟩)
abbrev st_is_integer : Stmt := top 5
abbrev st_need_integer : Stmt := top 6
abbrev st_is_share : Stmt := top 8
abbrev st_least_members : Stmt := top 9
abbrev st_members_for : Stmt := top 10
abbrev st__law_pen : Stmt := top 12
abbrev st__law_draw : Stmt := top 13
abbrev st__law_pick : Stmt := top 14
abbrev st__law_great : Stmt := top 15
abbrev st__law_has : Stmt := top 16
abbrev st__law_is_least : Stmt := top 17
abbrev st__law_refused : Stmt := top 18
abbrev st__law_refused_right : Stmt := top 19
abbrev st_law : Stmt := top 20
abbrev st_i_BadValue : Stmt := inClass (top 2) 0
abbrev st_i_BadNumber : Stmt := inClass (top 3) 0
/-! ### the tables -/
def tab_int : List (Tk × Bool) := [(.b "NoneType", false), (.b "bool", true), (.b "int", true), (.b "str", false), (.b "tuple", false), (.b "list", false), (.b "dict", false), (.x 1, false), (.x 2, false)]
def tab_bool : List (Tk × Bool) := [(.b "NoneType", false), (.b "bool", true), (.b "int", false), (.b "str", false), (.b "tuple", false), (.b "list", false), (.b "dict", false), (.x 1, false), (.x 2, false)]
def tab_list_tuple : List (Tk × Bool) := [(.b "NoneType", false), (.b "bool", false), (.b "int", false), (.b "str", false), (.b "tuple", true), (.b "list", true), (.b "dict", false), (.x 1, false), (.x 2, false)]
def tab_BadValue : List (Tk × Bool) := [(.b "NoneType", false), (.b "bool", false), (.b "int", false), (.b "str", false), (.b "tuple", false), (.b "list", false), (.b "dict", false), (.x 1, true), (.x 2, false)]
def tab_BadNumber : List (Tk × Bool) := [(.b "NoneType", false), (.b "bool", false), (.b "int", false), (.b "str", false), (.b "tuple", false), (.b "list", false), (.b "dict", false), (.x 1, false), (.x 2, true)]
def tab_a_part : List Tk := [.x 1, .x 2]
def xtab_RulesError : List (Nat × Bool) := [(1, true), (2, true)]
def perm_0 {α : Type} : List α → List α
  | [x_theirs, x_share] => [x_share, x_theirs]
  | _ => []
def xperm_0 {α : Type} : List α → List α
  | [x_share, x_theirs] => [x_share, x_theirs]
  | _ => []
/-! ### the bodies -/
def b_is_integer : MS := sSeq (sRet (cAndV (cOp1 (dIsi tab_int) (cVar 0)) (cNotV (cOp1 (dIsi tab_bool) (cVar 0))))) <|
  sNil
def sem_is_integer : Sem := runFn 0 b_is_integer
def b_need_integer_i1 : MS := sIf (cOr (cNot (cBool (cCall sem_is_integer [] (cACons (cVar 1) (cANil))))) (cBool (cOp2 dLt (cVar 1) (cVar 2)))) (sSeq (sRaise 2 (fl1 "part") (cACons (cVar 0) (cANil))) <|
  sNil) (sNil)
def b_need_integer_i2 : MS := sIf (cAnd (cBool (cOp2 dIsNot (cVar 3) (cK .non))) (cBool (cOp2 dGt (cVar 1) (cVar 3)))) (sSeq (sRaise 2 (fl1 "part") (cACons (cVar 0) (cANil))) <|
  sNil) (sNil)
def b_need_integer_s1 : MS := sSeq (sRet (cVar 1)) <|
  sNil
def b_need_integer_s2 : MS := sSeq (b_need_integer_i2) <|
  b_need_integer_s1
def b_need_integer : MS := sSeq (b_need_integer_i1) <|
  b_need_integer_s2
def sem_need_integer : Sem := runFn 0 b_need_integer
def b_is_share_i1 : MS := sIf (cOr (cNot (cBool (cOp1 (dIsi tab_list_tuple) (cVar 0)))) (cOr (cBool (cOp2 dNe (cB bLen (cACons (cVar 0) (cANil))) (cK (.int 3)))) (cNot (cBool (cOp1 (dIsi tab_bool) (cOp2 dIx (cVar 0) (cK (.int 2)))))))) (sSeq (sRet (cK (.bl false))) <|
  sNil) (sNil)
def b_is_share_i2 : MS := sIf (cOr (cNot (cBool (cCall sem_is_integer [] (cACons (cVar 1) (cANil))))) (cOr (cNot (cBool (cCall sem_is_integer [] (cACons (cVar 2) (cANil))))) (cOr (cNot (cBool (cChain dLe dLe (cK (.int 0)) (cVar 1) (cVar 2)))) (cBool (cOp2 dLt (cVar 2) (cK (.int 1))))))) (sSeq (sRet (cK (.bl false))) <|
  sNil) (sNil)
def b_is_share_s1 : MS := sSeq (sRet (cOrV (cOp2 dLt (cVar 1) (cVar 2)) (cNotV (cOp2 dIx (cVar 0) (cK (.int 2)))))) <|
  sNil
def b_is_share_s2 : MS := sSeq (b_is_share_i2) <|
  b_is_share_s1
def b_is_share_s3 : MS := sSeq (sPar 1 2 (cACons (cOp2 dIx (cVar 0) (cK (.int 0))) (cACons (cOp2 dIx (cVar 0) (cK (.int 1))) (cANil)))) <|
  b_is_share_s2
def b_is_share : MS := sSeq (b_is_share_i1) <|
  b_is_share_s3
def sem_is_share : Sem := runFn 2 b_is_share
def b_least_members_i1 : MS := sIf (cBool (cOp2 dEq (cVar 3) (cK (.int 0)))) (sSeq (sRet (cK (.int 1))) <|
  sNil) (sNil)
def b_least_members_i2 : MS := sIf (cBool (cOp2 dEq (cVar 0) (cVar 1))) (sSeq (sRet (cK .non)) <|
  sNil) (sNil)
def b_least_members_i3 : MS := sIf (cBool (cVar 2)) (sSeq (sRet (cOp2 dAdd (cOp2 dFloorDiv (cOp2 dMul (cVar 0) (cVar 3)) (cOp2 dSub (cVar 1) (cVar 0))) (cK (.int 1)))) <|
  sNil) (sNil)
def b_least_members_s1 : MS := sSeq (sRet (cOp1 dNeg (cOp2 dFloorDiv (cOp2 dMul (cOp1 dNeg (cVar 0)) (cVar 3)) (cOp2 dSub (cVar 1) (cVar 0))))) <|
  sNil
def b_least_members_s2 : MS := sSeq (b_least_members_i3) <|
  b_least_members_s1
def b_least_members_s3 : MS := sSeq (b_least_members_i2) <|
  b_least_members_s2
def b_least_members : MS := sSeq (b_least_members_i1) <|
  b_least_members_s3
def sem_least_members : Sem := runFn 0 b_least_members
def b_members_for_i1 : MS := sIf (cNot (cBool (cCall sem_is_share [] (cACons (cVar 0) (cANil))))) (sSeq (sRaise 1 (fl1 "part") (cACons (cK (.str "share")) (cANil))) <|
  sNil) (sNil)
def b_members_for_s1 : MS := sSeq (sRet (cCall sem_least_members [] (cACons (cOp2 dIx (cVar 0) (cK (.int 0))) (cACons (cOp2 dIx (cVar 0) (cK (.int 1))) (cACons (cOp2 dIx (cVar 0) (cK (.int 2))) (cACons (cVar 1) (cANil))))))) <|
  sNil
def b_members_for_s2 : MS := sSeq (sExpr (cCall sem_need_integer [D.non] (cACons (cK (.str "theirs")) (cACons (cVar 1) (cACons (cK (.int 0)) (cANil)))))) <|
  b_members_for_s1
def b_members_for : MS := sSeq (b_members_for_i1) <|
  b_members_for_s2
def sem_members_for : Sem := runFn 0 b_members_for
def b__law_pen : M (List D) := cNewL (cACons (cB bList (cACons (cCut (cVar 0) (cNoPart) (cPart (cK (.int 63)))) (cANil))) (cACons (cK (.int 0)) (cACons (cK (.int 0)) (cANil))))
def sem__law_pen : SemN := runFnN 0 b__law_pen
def b__law_draw_s1 : MS := sSeq (sRet (cVar 5)) <|
  sNil
def b__law_draw_s2 : MS := sSeq (sPut 0 (cK (.int 2)) (cOp2 dFloorDiv (cB bInt (cACons (cIxO 0 (cK (.int 2))) (cANil))) (cVar 1))) <|
  b__law_draw_s1
def b__law_draw_i1 : MS := sIf (cBool (cOp2 dGt (cIxO 0 (cK (.int 2))) (cK (.int 0)))) (sSeq (sSet 5 (cOp2 dMod (cB bInt (cACons (cIxO 0 (cK (.int 2))) (cANil))) (cVar 1))) <|
  b__law_draw_s2) (sNil)
def b__law_draw_i2 : MS := sIf (cBool (cOp2 dNe (cIxO 0 (cK (.int 0))) (cLst (cANil)))) (sSeq (sSet 3 (cOp2 dIx (cIxO 0 (cK (.int 0))) (cOp2 dMod (cB bInt (cACons (cVar 2) (cANil))) (cB bLen (cACons (cIxO 0 (cK (.int 0))) (cANil)))))) <|
  sNil) (sNil)
def b__law_draw_s3 : MS := sSeq (sRet (cOp2 dMod (cB bInt (cACons (cVar 6) (cANil))) (cVar 1))) <|
  sNil
def b__law_draw_s4 : MS := sSeq (sPut 0 (cK (.int 2)) (cOp2 dFloorDiv (cB bInt (cACons (cVar 6) (cANil))) (cVar 1))) <|
  b__law_draw_s3
def b__law_draw_i3 : MS := sIf (cAnd (cBool (cOp2 dLt (cVar 2) (cB bLen (cACons (cIxO 0 (cK (.int 0))) (cANil))))) (cBool (cOp2 dGe (cB bAbs (cACons (cVar 3) (cANil))) (cOp2 dPow (cK (.int 10)) (cK (.int 18)))))) (sSeq (sSet 6 (cOp2 dAdd (cOp2 dMul (cK (.int 2)) (cOp2 dSub (cB bAbs (cACons (cVar 3) (cANil))) (cOp2 dPow (cK (.int 10)) (cK (.int 18))))) (cB bInt (cACons (cOp2 dLt (cVar 3) (cK (.int 0))) (cANil))))) <|
  b__law_draw_s4) (sNil)
def b__law_draw_s5 : MS := sSeq (sRet (cOp2 dMod (cB bInt (cACons (cOp2 dFloorDiv (cVar 4) (cK (.int 16))) (cANil))) (cVar 1))) <|
  sNil
def b__law_draw_s6 : MS := sSeq (sSet 4 (cOp2 dMod (cB bInt (cACons (cOp2 dPow (cOp2 dAdd (cOp2 dAdd (cOp2 dMul (cVar 4) (cOp2 dAdd (cOp2 dMul (cK (.int 2)) (cVar 2)) (cK (.int 131)))) (cOp2 dMul (cOp2 dMul (cK (.int 40903)) (cVar 2)) (cVar 2))) (cK (.int 17))) (cK (.int 5))) (cANil))) (cK (.int 2147483629)))) <|
  b__law_draw_s5
def b__law_draw_s7 : MS := sSeq (sSet 4 (cOp2 dMod (cB bInt (cACons (cOp2 dPow (cOp2 dAdd (cOp2 dAdd (cOp2 dMod (cB bInt (cACons (cVar 3) (cANil))) (cK (.int 2147483543))) (cOp2 dMul (cK (.int 60037)) (cVar 2))) (cK (.int 211))) (cK (.int 3))) (cANil))) (cK (.int 2147483587)))) <|
  b__law_draw_s6
def b__law_draw_s8 : MS := sSeq (b__law_draw_i3) <|
  b__law_draw_s7
def b__law_draw_s9 : MS := sSeq (b__law_draw_i2) <|
  b__law_draw_s8
def b__law_draw_s10 : MS := sSeq (sSet 3 (cOp2 dAdd (cOp2 dMul (cK (.int 9173)) (cVar 2)) (cK (.int 4409)))) <|
  b__law_draw_s9
def b__law_draw_s11 : MS := sSeq (sPut 0 (cK (.int 1)) (cOp2 dAdd (cVar 2) (cK (.int 1)))) <|
  b__law_draw_s10
def b__law_draw_s12 : MS := sSeq (sSet 2 (cIxO 0 (cK (.int 1)))) <|
  b__law_draw_s11
def b__law_draw : MS := sSeq (b__law_draw_i1) <|
  b__law_draw_s12
def sem__law_draw : Sem := runFn 5 b__law_draw
def b__law_pick : MS := sSeq (sRet (cOp2 dIx (cVar 1) (cCall sem__law_draw [] (cAObj 0 (cACons (cB bLen (cACons (cVar 1) (cANil))) (cANil)))))) <|
  sNil
def sem__law_pick : Sem := runFn 0 b__law_pick
def b__law_great_i1 : MS := sIf (cBool (cOp2 dLt (cVar 1) (cK (.int 2)))) (sSeq (sRet (cCall sem__law_draw [] (cAObj 0 (cACons (cK (.int 12)) (cANil))))) <|
  sNil) (sNil)
def b__law_great_i2 : MS := sIf (cBool (cOp2 dEq (cVar 1) (cK (.int 2)))) (sSeq (sRet (cCall sem__law_draw [] (cAObj 0 (cACons (cK (.int 100000)) (cANil))))) <|
  sNil) (sNil)
def b__law_great_s1 : MS := sSeq (sRet (cIf (cBool (cOp2 dEq (cVar 1) (cK (.int 3)))) (cVar 2) (cOp2 dAdd (cOp2 dMul (cVar 2) (cOp2 dPow (cK (.int 10)) (cK (.int 40)))) (cCall sem__law_draw [] (cAObj 0 (cACons (cOp2 dPow (cK (.int 10)) (cK (.int 20))) (cANil))))))) <|
  sNil
def b__law_great_s2 : MS := sSeq (sSet 2 (cOp2 dAdd (cOp2 dMul (cCall sem__law_draw [] (cAObj 0 (cACons (cOp2 dPow (cK (.int 10)) (cK (.int 20))) (cANil)))) (cOp2 dPow (cK (.int 10)) (cK (.int 20)))) (cCall sem__law_draw [] (cAObj 0 (cACons (cOp2 dPow (cK (.int 10)) (cK (.int 20))) (cANil)))))) <|
  b__law_great_s1
def b__law_great_s3 : MS := sSeq (b__law_great_i2) <|
  b__law_great_s2
def b__law_great_s4 : MS := sSeq (b__law_great_i1) <|
  b__law_great_s3
def b__law_great : MS := sSeq (sSet 1 (cCall sem__law_draw [] (cAObj 0 (cACons (cK (.int 5)) (cANil))))) <|
  b__law_great_s4
def sem__law_great : Sem := runFn 2 b__law_great
def b__law_has_i1 : MS := sIf (cBool (cOp2 dEq (cVar 5) (cK (.int 0)))) (sSeq (sRet (cK (.bl false))) <|
  sNil) (sNil)
def b__law_has_s1 : MS := sSeq (sRet (cIf (cBool (cVar 4)) (cOp2 dGt (cOp2 dMul (cVar 0) (cVar 3)) (cOp2 dMul (cVar 2) (cVar 5))) (cOp2 dGe (cOp2 dMul (cVar 0) (cVar 3)) (cOp2 dMul (cVar 2) (cVar 5))))) <|
  sNil
def b__law_has_s2 : MS := sSeq (b__law_has_i1) <|
  b__law_has_s1
def b__law_has : MS := sSeq (sSet 5 (cOp2 dAdd (cVar 0) (cVar 1))) <|
  b__law_has_s2
def sem__law_has : Sem := runFn 1 b__law_has
def b__law_is_least_i1 : MS := sIf (cBool (cOp2 dIs (cVar 0) (cK .non))) (sSeq (sRet (cAndV (cOp2 dEq (cVar 2) (cVar 3)) (cOp2 dGt (cVar 1) (cK (.int 0))))) <|
  sNil) (sNil)
def b__law_is_least_i2 : MS := sIf (cOr (cNot (cBool (cOp1 (dIsi tab_int) (cVar 0)))) (cOr (cBool (cOp1 (dIsi tab_bool) (cVar 0))) (cOr (cBool (cOp2 dLt (cVar 0) (cK (.int 0)))) (cNot (cBool (cCall sem__law_has [] (cACons (cVar 0) (cACons (cVar 1) (cACons (cVar 2) (cACons (cVar 3) (cACons (cVar 4) (cANil)))))))))))) (sSeq (sRet (cK (.bl false))) <|
  sNil) (sNil)
def b__law_is_least_s1 : MS := sSeq (sRet (cOrV (cOp2 dEq (cVar 0) (cK (.int 0))) (cNotV (cCall sem__law_has [] (cACons (cOp2 dSub (cVar 0) (cK (.int 1))) (cACons (cVar 1) (cACons (cVar 2) (cACons (cVar 3) (cACons (cVar 4) (cANil)))))))))) <|
  sNil
def b__law_is_least_s2 : MS := sSeq (b__law_is_least_i2) <|
  b__law_is_least_s1
def b__law_is_least : MS := sSeq (b__law_is_least_i1) <|
  b__law_is_least_s2
def sem__law_is_least : Sem := runFn 0 b__law_is_least
def b__law_refused_t1 (r : R D) : MS := sSeq (sExpr (cAsk 0 r)) <|
  sNil
def b__law_refused_i1 (r : R D) : MS := sIf (cBool (cOp1 (dIsi tab_BadValue) (cVar 1))) (sSeq (sRet (cTup (cACons (cK (.str "value")) (cACons (cOp1 (dAt tab_a_part "part") (cVar 1)) (cANil))))) <|
  sNil) (sNil)
def b__law_refused_s1 (r : R D) : MS := sSeq (sRet (cIf (cBool (cOp1 (dIsi tab_BadNumber) (cVar 1))) (cTup (cACons (cK (.str "number")) (cACons (cOp1 (dAt tab_a_part "part") (cVar 1)) (cANil)))) (cTup (cACons (cK (.str "none")) (cACons (cK .non) (cANil)))))) <|
  sNil
def b__law_refused_s2 (r : R D) : MS := sSeq ((b__law_refused_i1 r)) <|
  (b__law_refused_s1 r)
def b__law_refused_s3 (r : R D) : MS := sSeq (sTryK xtab_RulesError 2 1 (b__law_refused_t1 r)) <|
  (b__law_refused_s2 r)
def b__law_refused (r : R D) : MS := sSeq (sSet 1 (cK .non)) <|
  (b__law_refused_s3 r)
def sem__law_refused : R D → R D := runAsk 2 b__law_refused
def b__law_refused_right_i1 : MS := sIf (cBool (cOp2 dNe (cVar 6) (cOp2 dMul (cLst (cACons (cTup (cACons (cK (.str "value")) (cACons (cK (.str "share")) (cANil)))) (cANil))) (cK (.int 2))))) (sSeq (sRet (cK (.bl false))) <|
  sNil) (sNil)
def b__law_refused_right_s1 : MS := sFreeze 6 (sSeq (b__law_refused_right_i1) <|
  sNil)
def b__law_refused_right_s2 : MS := sSeq (sExpr (cMeth 6 mAppend (cACons (cLam sem__law_refused (cCall sem_members_for [] (cACons (cVar 5) (cACons (cVar 3) (cANil))))) (cANil)))) <|
  b__law_refused_right_s1
def b__law_refused_right_l1 : MS := sSeq (sNew 6 (cNewL (cACons (cLam sem__law_refused (cCall sem_members_for [] (cACons (cVar 5) (cACons (cK (.int 5)) (cANil))))) (cANil)))) <|
  b__law_refused_right_s2
def b__law_refused_right_s3 : MS := sSeq (sRet (cOp2 dEq (cLam sem__law_refused (cCallK sem_members_for perm_0 (cACons (cVar 3) (cACons (cTup (cACons (cVar 1) (cACons (cVar 2) (cACons (cK (.bl false)) (cANil))))) (cANil))))) (cTup (cACons (cK (.str "number")) (cACons (cK (.str "theirs")) (cANil)))))) <|
  sNil
def b__law_refused_right_s4 : MS := sSeq (sFor (iItems (cVar 4)) (tName 5) b__law_refused_right_l1) <|
  b__law_refused_right_s3
def b__law_refused_right_s5 : MS := sSeq (sSet 4 (cOp2 dAdd (cVar 4) (cLst (cACons (cTup (cACons (cK (.int 0)) (cACons (cK (.int 0)) (cACons (cK (.bl false)) (cANil))))) (cACons (cTup (cACons (cVar 1) (cACons (cK (.int 0)) (cACons (cK (.bl false)) (cANil))))) (cACons (cTup (cACons (cVar 1) (cACons (cOp1 dNeg (cVar 2)) (cACons (cK (.bl false)) (cANil))))) (cACons (cTup (cACons (cVar 2) (cACons (cVar 2) (cACons (cK (.bl true)) (cANil))))) (cACons (cLst (cACons (cVar 2) (cACons (cVar 2) (cACons (cK (.bl true)) (cANil))))) (cACons (cTup (cACons (cK (.bl true)) (cACons (cVar 2) (cACons (cK (.bl false)) (cANil))))) (cACons (cTup (cACons (cVar 1) (cACons (cK (.bl true)) (cACons (cK (.bl false)) (cANil))))) (cACons (cTup (cACons (cK (.str "1")) (cACons (cK (.str "2")) (cACons (cK (.bl false)) (cANil))))) (cACons (cK (.dk [])) (cANil))))))))))))) <|
  b__law_refused_right_s4
def b__law_refused_right_s6 : MS := sSeq (sSet 4 (cLst (cACons (cK .non) (cACons (cK (.int 5)) (cACons (cK (.str "12F")) (cACons (cTup (cANil)) (cACons (cTup (cACons (cVar 1) (cACons (cVar 2) (cANil)))) (cACons (cTup (cACons (cVar 1) (cACons (cVar 2) (cACons (cK (.bl false)) (cACons (cK (.bl false)) (cANil)))))) (cACons (cTup (cACons (cVar 1) (cACons (cVar 2) (cACons (cK (.int 0)) (cANil))))) (cACons (cTup (cACons (cVar 1) (cACons (cVar 2) (cACons (cK (.int 1)) (cANil))))) (cACons (cTup (cACons (cVar 1) (cACons (cVar 2) (cACons (cK .non) (cANil))))) (cACons (cTup (cACons (cOp2 dAdd (cVar 2) (cK (.int 1))) (cACons (cVar 2) (cACons (cK (.bl false)) (cANil))))) (cACons (cTup (cACons (cOp1 dNeg (cK (.int 1))) (cACons (cVar 2) (cACons (cK (.bl false)) (cANil))))) (cANil)))))))))))))) <|
  b__law_refused_right_s5
def b__law_refused_right : MS := sSeq (sSet 3 (cCall sem__law_pick [] (cAObj 0 (cACons (cLst (cACons (cK .non) (cACons (cOp1 dNeg (cK (.int 1))) (cACons (cK (.bl true)) (cACons (cK (.str "5")) (cACons (cTup (cACons (cK (.int 5)) (cANil))) (cACons (cLst (cACons (cK (.int 5)) (cANil))) (cACons (cK (.bl false)) (cANil))))))))) (cANil))))) <|
  b__law_refused_right_s6
def sem__law_refused_right : Sem := runFn 4 b__law_refused_right
def b_law_i1 : MS := sIf (cOr (cNot (cBool (cCall sem__law_is_least [] (cACons (cVar 7) (cACons (cVar 6) (cACons (cVar 4) (cACons (cVar 3) (cACons (cVar 5) (cANil))))))))) (cBool (cOp2 dNe (cB bRepr (cACons (cCallK sem_members_for xperm_0 (cACat (cACons (cLst (cACons (cVar 4) (cACons (cVar 3) (cACons (cVar 5) (cANil))))) (cANil)) (cACons (cVar 6) (cANil)))) (cANil))) (cB bRepr (cACons (cVar 7) (cANil)))))) (sSeq (sRet (cK (.bl false))) <|
  sNil) (sNil)
def b_law_s1 : MS := sSeq (b_law_i1) <|
  sNil
def b_law_l2 : MS := sSeq (sSet 7 (cCall sem_members_for [] (cACons (cTup (cACons (cVar 4) (cACons (cVar 3) (cACons (cVar 5) (cANil))))) (cACons (cVar 6) (cANil))))) <|
  b_law_s1
def b_law_i2 : MS := sIf (cAnd (cBool (cOp2 dEq (cVar 2) (cK (.int 0)))) (cNot (cBool (cCall sem__law_refused_right [] (cAObj 1 (cACons (cVar 4) (cACons (cVar 3) (cANil)))))))) (sSeq (sRet (cK (.bl false))) <|
  sNil) (sNil)
def b_law_s2 : MS := sSeq (b_law_i2) <|
  sNil
def b_law_s3 : MS := sSeq (sFor (iItems (cLst (cACons (cCall sem__law_great [] (cAObj 1 (cANil))) (cACons (cK (.int 0)) (cACons (cK (.int 1)) (cACons (cOp2 dSub (cVar 3) (cVar 4)) (cACons (cOp2 dAdd (cOp2 dMul (cK (.int 2)) (cOp2 dSub (cVar 3) (cVar 4))) (cCall sem__law_draw [] (cAObj 1 (cACons (cK (.int 3)) (cANil))))) (cANil)))))))) (tName 6) b_law_l2) <|
  b_law_s2
def b_law_s4 : MS := sSeq (sSet 5 (cAndV (cOp2 dLt (cVar 4) (cVar 3)) (cOp2 dEq (cCall sem__law_draw [] (cAObj 1 (cACons (cK (.int 2)) (cANil)))) (cK (.int 0))))) <|
  b_law_s3
def b_law_s5 : MS := sSeq (sSet 4 (cOp2 dIx (cLst (cACons (cK (.int 0)) (cACons (cVar 3) (cACons (cOp2 dSub (cVar 3) (cK (.int 1))) (cACons (cCall sem__law_draw [] (cAObj 1 (cACons (cOp2 dAdd (cVar 3) (cK (.int 1))) (cANil)))) (cACons (cCall sem__law_draw [] (cAObj 1 (cACons (cOp2 dAdd (cVar 3) (cK (.int 1))) (cANil)))) (cACons (cCall sem__law_draw [] (cAObj 1 (cACons (cOp2 dAdd (cVar 3) (cK (.int 1))) (cANil)))) (cANil)))))))) (cCall sem__law_draw [] (cAObj 1 (cACons (cK (.int 6)) (cANil)))))) <|
  b_law_s4
def b_law_l1 : MS := sSeq (sSet 3 (cOp2 dAdd (cK (.int 1)) (cCall sem__law_great [] (cAObj 1 (cANil))))) <|
  b_law_s5
def b_law_s6 : MS := sSeq (sRet (cOp2 dEq (cB bRepr (cACons (cLst (cACons (cCall sem_members_for [] (cACons (cTup (cACons (cK (.int 2)) (cACons (cK (.int 3)) (cACons (cK (.bl false)) (cANil))))) (cACons (cK (.int 5)) (cANil)))) (cACons (cCall sem_members_for [] (cACons (cTup (cACons (cK (.int 2)) (cACons (cK (.int 3)) (cACons (cK (.bl true)) (cANil))))) (cACons (cK (.int 5)) (cANil)))) (cACons (cCall sem_members_for [] (cACons (cTup (cACons (cK (.int 0)) (cACons (cK (.int 1)) (cACons (cK (.bl true)) (cANil))))) (cACons (cK (.int 9)) (cANil)))) (cACons (cCall sem_members_for [] (cACons (cTup (cACons (cK (.int 0)) (cACons (cK (.int 1)) (cACons (cK (.bl false)) (cANil))))) (cACons (cK (.int 9)) (cANil)))) (cANil)))))) (cANil))) (cK (.str "[10, 11, 1, 0]")))) <|
  sNil
def b_law_s7 : MS := sSeq (sFor (iRange1 (cACons (cK (.int 8)) (cANil))) (tName 2) b_law_l1) <|
  b_law_s6
def b_law : MS := sSeq (sNew 1 (cCallN sem__law_pen (cACons (cVar 0) (cANil)))) <|
  b_law_s7
def sem_law : Sem := runFn 7 b_law
/-! ### what the top has written -/
structure Txt (Z : Wd) (mg : Str → Option Value) (base : Heap) : Prop where
  n_abs : mg "abs" = none
  n_bool : mg "bool" = none
  n_int : mg "int" = none
  n_isinstance : mg "isinstance" = none
  n_len : mg "len" = none
  n_list : mg "list" = none
  n_range : mg "range" = none
  n_repr : mg "repr" = none
  n_tuple : mg "tuple" = none
  m_RulesError : mg "RulesError" = some (.ref (Z.CL 0))
  m_BadValue : mg "BadValue" = some (.ref (Z.CL 1))
  m_BadNumber : mg "BadNumber" = some (.ref (Z.CL 2))
  o_BadValue : OexC Z.K (Z.CL 1)
  e_BadValue : ExcC Z.K (Z.CL 1)
  nf_BadValue_part : PySem.W.findIn Z.K (.ref (Z.CL 1)) "part" = some none
  i_BadValue : ∃ fI fd, PySem.W.findIn Z.K (.ref (Z.CL 1)) "__init__" = some (some (.ref fI)) ∧ PySem.W.typeIn Z.K (.ref fI) = some (.type "function") ∧ Fun Z.K "__init__" "BadValue.__init__" st_i_BadValue fI fd
  o_BadNumber : OexC Z.K (Z.CL 2)
  e_BadNumber : ExcC Z.K (Z.CL 2)
  nf_BadNumber_part : PySem.W.findIn Z.K (.ref (Z.CL 2)) "part" = some none
  i_BadNumber : ∃ fI fd, PySem.W.findIn Z.K (.ref (Z.CL 2)) "__init__" = some (some (.ref fI)) ∧ PySem.W.typeIn Z.K (.ref fI) = some (.type "function") ∧ Fun Z.K "__init__" "BadNumber.__init__" st_i_BadNumber fI fd
  is_int : IsOk Z (.type "int") tab_int
  is_bool : IsOk Z (.type "bool") tab_bool
  is_list_tuple : IsOkT Z [.type "list", .type "tuple"] tab_list_tuple
  is_BadValue : IsOk Z (.ref (Z.CL 1)) tab_BadValue
  is_BadNumber : IsOk Z (.ref (Z.CL 2)) tab_BadNumber
  at_a_part : AtOk Z "part" tab_a_part
  xm_RulesError : XmOk Z (.ref (Z.CL 0)) xtab_RulesError
  h_is_integer : ∃ f fd, mg "is_integer" = some (.ref f) ∧ PySem.W.keepIn Z.K (.ref f) = true ∧ FunD Z.K "is_integer" "is_integer" (defArgs st_is_integer) (defBody st_is_integer) (defScope st_is_integer) [] [] f fd
  h_need_integer : ∃ f fd, mg "need_integer" = some (.ref f) ∧ PySem.W.keepIn Z.K (.ref f) = true ∧ FunD Z.K "need_integer" "need_integer" (defArgs st_need_integer) (defBody st_need_integer) (defScope st_need_integer) [V.non] [] f fd
  h_is_share : ∃ f fd, mg "is_share" = some (.ref f) ∧ PySem.W.keepIn Z.K (.ref f) = true ∧ FunD Z.K "is_share" "is_share" (defArgs st_is_share) (defBody st_is_share) (defScope st_is_share) [] [] f fd
  h_least_members : ∃ f fd, mg "least_members" = some (.ref f) ∧ PySem.W.keepIn Z.K (.ref f) = true ∧ FunD Z.K "least_members" "least_members" (defArgs st_least_members) (defBody st_least_members) (defScope st_least_members) [] [] f fd
  h_members_for : ∃ f fd, mg "members_for" = some (.ref f) ∧ PySem.W.keepIn Z.K (.ref f) = true ∧ FunD Z.K "members_for" "members_for" (defArgs st_members_for) (defBody st_members_for) (defScope st_members_for) [] [] f fd
  h__law_pen : ∃ f fd, mg "_law_pen" = some (.ref f) ∧ PySem.W.keepIn Z.K (.ref f) = true ∧ FunD Z.K "_law_pen" "_law_pen" (defArgs st__law_pen) (defBody st__law_pen) (defScope st__law_pen) [] [] f fd
  h__law_draw : ∃ f fd, mg "_law_draw" = some (.ref f) ∧ PySem.W.keepIn Z.K (.ref f) = true ∧ FunD Z.K "_law_draw" "_law_draw" (defArgs st__law_draw) (defBody st__law_draw) (defScope st__law_draw) [] [] f fd
  h__law_pick : ∃ f fd, mg "_law_pick" = some (.ref f) ∧ PySem.W.keepIn Z.K (.ref f) = true ∧ FunD Z.K "_law_pick" "_law_pick" (defArgs st__law_pick) (defBody st__law_pick) (defScope st__law_pick) [] [] f fd
  h__law_great : ∃ f fd, mg "_law_great" = some (.ref f) ∧ PySem.W.keepIn Z.K (.ref f) = true ∧ FunD Z.K "_law_great" "_law_great" (defArgs st__law_great) (defBody st__law_great) (defScope st__law_great) [] [] f fd
  h__law_has : ∃ f fd, mg "_law_has" = some (.ref f) ∧ PySem.W.keepIn Z.K (.ref f) = true ∧ FunD Z.K "_law_has" "_law_has" (defArgs st__law_has) (defBody st__law_has) (defScope st__law_has) [] [] f fd
  h__law_is_least : ∃ f fd, mg "_law_is_least" = some (.ref f) ∧ PySem.W.keepIn Z.K (.ref f) = true ∧ FunD Z.K "_law_is_least" "_law_is_least" (defArgs st__law_is_least) (defBody st__law_is_least) (defScope st__law_is_least) [] [] f fd
  h__law_refused : ∃ f fd, mg "_law_refused" = some (.ref f) ∧ PySem.W.keepIn Z.K (.ref f) = true ∧ FunD Z.K "_law_refused" "_law_refused" (defArgs st__law_refused) (defBody st__law_refused) (defScope st__law_refused) [] [] f fd
  h__law_refused_right : ∃ f fd, mg "_law_refused_right" = some (.ref f) ∧ PySem.W.keepIn Z.K (.ref f) = true ∧ FunD Z.K "_law_refused_right" "_law_refused_right" (defArgs st__law_refused_right) (defBody st__law_refused_right) (defScope st__law_refused_right) [] [] f fd
  h_law : ∃ f fd, mg "law" = some (.ref f) ∧ PySem.W.keepIn Z.K (.ref f) = true ∧ FunD Z.K "law" "law" (defArgs st_law) (defBody st_law) (defScope st_law) [] [] f fd
  lb__law_refused_right : ∃ f c p, mg "_law_refused_right" = some (.ref f) ∧ HasC Z.K f c ∧ (p, ("_law_refused_right" : Str) ++ ".<locals>." ++ "<lambda>") ∈ Z.T ∧ (∀ q ∈ Z.T, q.1 = p → q.2 = ("_law_refused_right" : Str) ++ ".<locals>." ++ "<lambda>") ∧ LamX.TabB base mg c p
theorem Txt.wf {Z : Wd} {mg : Str → Option Value} {base : Heap} (T : Txt Z mg base) (t : Addr × Hp × Addr × Str) : Txt (Z.wf t) mg base := ⟨T.n_abs, T.n_bool, T.n_int, T.n_isinstance, T.n_len, T.n_list, T.n_range, T.n_repr, T.n_tuple, T.m_RulesError, T.m_BadValue, T.m_BadNumber, T.o_BadValue, T.e_BadValue, T.nf_BadValue_part, T.i_BadValue, T.o_BadNumber, T.e_BadNumber, T.nf_BadNumber_part, T.i_BadNumber, T.is_int, T.is_bool, T.is_list_tuple, T.is_BadValue, T.is_BadNumber, T.at_a_part, T.xm_RulesError, T.h_is_integer, T.h_need_integer, T.h_is_share, T.h_least_members, T.h_members_for, T.h__law_pen, T.h__law_draw, T.h__law_pick, T.h__law_great, T.h__law_has, T.h__law_is_least, T.h__law_refused, T.h__law_refused_right, T.h_law, T.lb__law_refused_right⟩
section
variable (P : Program) (w : World) {Z : Wd} {mg : Str → Option Value} (base : Heap)
theorem sci_BadValue : FnScope ["self", "part"] ["self", "part"] (defScope st_i_BadValue) := ⟨rfl, rfl, rfl, by decide +kernel, rfl, by decide +kernel, by decide +kernel⟩
theorem rz_BadValue (T : Txt Z mg base) : Rz P w Z.K mg base 1 (Z.CL 1) (iz1 "part" (Z.CL 1)) := by
  obtain ⟨fI, fd, h1, h2, h3⟩ := T.i_BadValue
  exact ⟨T.o_BadValue, fI, fd, _, h1, h2, iz1_ok (k := 0) h3 sci_BadValue T.o_BadValue T.nf_BadValue_part rfl (.inl rfl) (.inl rfl) (by decide) (by decide) (by decide) (by decide), h3.binds (ps := ["self", "part"]) fun _ _ _ _ _ _ us hl => match us, hl with | [_, _], _ => rfl⟩
theorem sci_BadNumber : FnScope ["self", "part"] ["self", "part"] (defScope st_i_BadNumber) := ⟨rfl, rfl, rfl, by decide +kernel, rfl, by decide +kernel, by decide +kernel⟩
theorem rz_BadNumber (T : Txt Z mg base) : Rz P w Z.K mg base 1 (Z.CL 2) (iz1 "part" (Z.CL 2)) := by
  obtain ⟨fI, fd, h1, h2, h3⟩ := T.i_BadNumber
  exact ⟨T.o_BadNumber, fI, fd, _, h1, h2, iz1_ok (k := 0) h3 sci_BadNumber T.o_BadNumber T.nf_BadNumber_part rfl (.inl rfl) (.inl rfl) (by decide) (by decide) (by decide) (by decide), h3.binds (ps := ["self", "part"]) fun _ _ _ _ _ _ us hl => match us, hl with | [_, _], _ => rfl⟩
theorem sc_is_integer : FnScope ["value"] ["value"] (defScope st_is_integer) := ⟨rfl, rfl, rfl, by decide +kernel, rfl, by decide +kernel, by decide +kernel⟩
theorem fg_is_integer (T : Txt Z mg base) : ∃ f fd, mg "is_integer" = some (.ref f) ∧ PySem.W.keepIn Z.K (.ref f) = true ∧ FnG P w Z.K mg base 1 f fd ["value"] (spF Z 1 sem_is_integer) ∧ FunD Z.K "is_integer" "is_integer" (defArgs st_is_integer) (defBody st_is_integer) (defScope st_is_integer) [] [] f fd := by
  obtain ⟨f, fd, h1, h2, F⟩ := T.h_is_integer
  refine ⟨f, fd, h1, h2, fng_soundD (m := 0) (Z := Z) (k := 0) F sc_is_integer rfl (fun cdv A outer s H E hr hg => ?_), F⟩
  have B := bd_cx (P := P) (w := w) (Z := Z) (mg := mg) (base := base) (qual := "is_integer") (scope := defScope st_is_integer) (f := f) (cdv := cdv) (outer := outer) (s := s) (H := H) (E := E) sc_is_integer.nd hr hg
  have b := B.toBe
  exact mls_cons (ml_ret (me_and (e_isi b T.n_isinstance (me_var rfl (by first | exact .inl rfl | exact .inr (.inl rfl) | exact .inr (.inr rfl))) (c_ty PyProof.Rows.Boot.«int» T.n_int) T.is_int) (me_one (me_not (e_isi b T.n_isinstance (me_var rfl (by first | exact .inl rfl | exact .inr (.inl rfl) | exact .inr (.inr rfl))) (c_ty PyProof.Rows.Boot.«bool» T.n_bool) T.is_bool))))) <|
  mls_nil
theorem c_is_integer_1 (T : Txt Z mg base) : Callee P w Z mg base 1 "is_integer" ["value"] (spF Z 1 sem_is_integer) 1 [] := by
  obtain ⟨f, fd, h1, h2, h3, F⟩ := fg_is_integer P w base T
  exact ⟨f, fd, [], [], h1, h2, h3, F.bindsN (fun _ _ _ _ _ _ us hl => match us, hl with | [_], _ => rfl), .nil, fun _ => .nil, rfl⟩
theorem sc_need_integer : FnScope ["part", "value", "least", "most"] ["part", "value", "least", "most"] (defScope st_need_integer) := ⟨rfl, rfl, rfl, by decide +kernel, rfl, by decide +kernel, by decide +kernel⟩
theorem fg_need_integer (T : Txt Z mg base) : ∃ f fd, mg "need_integer" = some (.ref f) ∧ PySem.W.keepIn Z.K (.ref f) = true ∧ FnG P w Z.K mg base 3 f fd ["part", "value", "least", "most"] (spF Z 4 sem_need_integer) ∧ FunD Z.K "need_integer" "need_integer" (defArgs st_need_integer) (defBody st_need_integer) (defScope st_need_integer) [V.non] [] f fd := by
  obtain ⟨f, fd, h1, h2, F⟩ := T.h_need_integer
  refine ⟨f, fd, h1, h2, fng_soundD (m := 0) (Z := Z) (k := 2) F sc_need_integer rfl (fun cdv A outer s H E hr hg => ?_), F⟩
  have B := bd_cx (P := P) (w := w) (Z := Z) (mg := mg) (base := base) (qual := "need_integer") (scope := defScope st_need_integer) (f := f) (cdv := cdv) (outer := outer) (s := s) (H := H) (E := E) sc_need_integer.nd hr hg
  have b := B.toBe
  exact mls_cons (ml_if (mt_ofW (mw_or (mt_not (t_val (e_call b (c_is_integer_1 P w base T) (by decide) (ma_cons (me_var rfl (by first | exact .inl rfl | exact .inr (.inl rfl) | exact .inr (.inr rfl))) (ma_nil))))) (mw_or1 (t_lt b (me_var rfl (by first | exact .inl rfl | exact .inr (.inl rfl) | exact .inr (.inr rfl))) (me_var rfl (by first | exact .inl rfl | exact .inr (.inl rfl) | exact .inr (.inr rfl))))))) (mls_cons (s_raise B (rz_BadNumber P w base T) fl1_ok (by decide) T.m_BadNumber (ma_cons (me_var rfl (by first | exact .inl rfl | exact .inr (.inl rfl) | exact .inr (.inr rfl))) (ma_nil))) <|
  mls_nil) (mls_nil)) <|
  mls_cons (ml_if (mt_ofW (mw_and (t_isnot b (me_var rfl (by first | exact .inl rfl | exact .inr (.inl rfl) | exact .inr (.inr rfl))) (me_non)) (mw_and1 (t_gt b (me_var rfl (by first | exact .inl rfl | exact .inr (.inl rfl) | exact .inr (.inr rfl))) (me_var rfl (by first | exact .inl rfl | exact .inr (.inl rfl) | exact .inr (.inr rfl))))))) (mls_cons (s_raise B (rz_BadNumber P w base T) fl1_ok (by decide) T.m_BadNumber (ma_cons (me_var rfl (by first | exact .inl rfl | exact .inr (.inl rfl) | exact .inr (.inr rfl))) (ma_nil))) <|
  mls_nil) (mls_nil)) <|
  mls_cons (ml_ret (me_var rfl (by first | exact .inl rfl | exact .inr (.inl rfl) | exact .inr (.inr rfl)))) <|
  mls_nil
theorem c_need_integer_3 (T : Txt Z mg base) : Callee P w Z mg base 3 "need_integer" ["part", "value", "least", "most"] (spF Z 4 sem_need_integer) 3 [D.non] := by
  obtain ⟨f, fd, h1, h2, h3, F⟩ := fg_need_integer P w base T
  obtain ⟨ds, hd, hb⟩ := F.binds1 (ps := ["part", "value", "least", "most"]) 3 0 (by simp) rfl (fun _ _ _ _ _ _ _ us its hl hi => match us, hl, its, hi with | [_, _, _], _, [_], _ => ⟨_, rfl, rfl⟩)
  exact ⟨f, fd, ds, _, h1, h2, h3, hb, hd, fun _ => (.cons .non .nil), rfl⟩
theorem sc_is_share : FnScope ["value", "p", "q"] ["value"] (defScope st_is_share) := ⟨rfl, rfl, rfl, by decide +kernel, rfl, by decide +kernel, by decide +kernel⟩
theorem fg_is_share (T : Txt Z mg base) : ∃ f fd, mg "is_share" = some (.ref f) ∧ PySem.W.keepIn Z.K (.ref f) = true ∧ FnG P w Z.K mg base 2 f fd ["value"] (spF Z 1 sem_is_share) ∧ FunD Z.K "is_share" "is_share" (defArgs st_is_share) (defBody st_is_share) (defScope st_is_share) [] [] f fd := by
  obtain ⟨f, fd, h1, h2, F⟩ := T.h_is_share
  refine ⟨f, fd, h1, h2, fng_soundD (m := 2) (Z := Z) (k := 1) F sc_is_share rfl (fun cdv A outer s H E hr hg => ?_), F⟩
  have B := bd_cx (P := P) (w := w) (Z := Z) (mg := mg) (base := base) (qual := "is_share") (scope := defScope st_is_share) (f := f) (cdv := cdv) (outer := outer) (s := s) (H := H) (E := E) sc_is_share.nd hr hg
  have b := B.toBe
  exact mls_cons (ml_if (mt_ofW (mw_or (mt_not (t_val (e_isiT b T.n_isinstance (me_var rfl (by first | exact .inl rfl | exact .inr (.inl rfl) | exact .inr (.inr rfl))) (mclss_cons (c_ty PyProof.Rows.Boot.«list» T.n_list) (mclss_cons (c_ty PyProof.Rows.Boot.«tuple» T.n_tuple) (mclss_nil))) T.is_list_tuple))) (mw_or (t_ne b (e_len b T.n_len (ma_cons (me_var rfl (by first | exact .inl rfl | exact .inr (.inl rfl) | exact .inr (.inr rfl))) (ma_nil))) (me_int)) (mw_or1 (mt_not (t_val (e_isi b T.n_isinstance (e_ix b (me_var rfl (by first | exact .inl rfl | exact .inr (.inl rfl) | exact .inr (.inr rfl))) (me_int)) (c_ty PyProof.Rows.Boot.«bool» T.n_bool) T.is_bool))))))) (mls_cons (ml_ret (me_bl)) <|
  mls_nil) (mls_nil)) <|
  mls_cons (s_par B (i := 1) (j := 2) rfl rfl (ma_cons (e_ix b (me_var rfl (by first | exact .inl rfl | exact .inr (.inl rfl) | exact .inr (.inr rfl))) (me_int)) (ma_cons (e_ix b (me_var rfl (by first | exact .inl rfl | exact .inr (.inl rfl) | exact .inr (.inr rfl))) (me_int)) (ma_nil)))) <|
  mls_cons (ml_if (mt_ofW (mw_or (mt_not (t_val (e_call b (c_is_integer_1 P w base T) (by decide) (ma_cons (me_var rfl (by first | exact .inl rfl | exact .inr (.inl rfl) | exact .inr (.inr rfl))) (ma_nil))))) (mw_or (mt_not (t_val (e_call b (c_is_integer_1 P w base T) (by decide) (ma_cons (me_var rfl (by first | exact .inl rfl | exact .inr (.inl rfl) | exact .inr (.inr rfl))) (ma_nil))))) (mw_or (mt_not (t_lele b (me_int) (me_var rfl (by first | exact .inl rfl | exact .inr (.inl rfl) | exact .inr (.inr rfl))) (me_var rfl (by first | exact .inl rfl | exact .inr (.inl rfl) | exact .inr (.inr rfl))))) (mw_or1 (t_lt b (me_var rfl (by first | exact .inl rfl | exact .inr (.inl rfl) | exact .inr (.inr rfl))) (me_int))))))) (mls_cons (ml_ret (me_bl)) <|
  mls_nil) (mls_nil)) <|
  mls_cons (ml_ret (me_or (e_lt b (me_var rfl (by first | exact .inl rfl | exact .inr (.inl rfl) | exact .inr (.inr rfl))) (me_var rfl (by first | exact .inl rfl | exact .inr (.inl rfl) | exact .inr (.inr rfl)))) (me_one (me_not (e_ix b (me_var rfl (by first | exact .inl rfl | exact .inr (.inl rfl) | exact .inr (.inr rfl))) (me_int)))))) <|
  mls_nil
theorem c_is_share_1 (T : Txt Z mg base) : Callee P w Z mg base 2 "is_share" ["value"] (spF Z 1 sem_is_share) 1 [] := by
  obtain ⟨f, fd, h1, h2, h3, F⟩ := fg_is_share P w base T
  exact ⟨f, fd, [], [], h1, h2, h3, F.bindsN (fun _ _ _ _ _ _ us hl => match us, hl with | [_], _ => rfl), .nil, fun _ => .nil, rfl⟩
theorem sc_least_members : FnScope ["p", "q", "more", "theirs"] ["p", "q", "more", "theirs"] (defScope st_least_members) := ⟨rfl, rfl, rfl, by decide +kernel, rfl, by decide +kernel, by decide +kernel⟩
theorem fg_least_members (T : Txt Z mg base) : ∃ f fd, mg "least_members" = some (.ref f) ∧ PySem.W.keepIn Z.K (.ref f) = true ∧ FnG P w Z.K mg base 1 f fd ["p", "q", "more", "theirs"] (spF Z 4 sem_least_members) ∧ FunD Z.K "least_members" "least_members" (defArgs st_least_members) (defBody st_least_members) (defScope st_least_members) [] [] f fd := by
  obtain ⟨f, fd, h1, h2, F⟩ := T.h_least_members
  refine ⟨f, fd, h1, h2, fng_soundD (m := 0) (Z := Z) (k := 0) F sc_least_members rfl (fun cdv A outer s H E hr hg => ?_), F⟩
  have B := bd_cx (P := P) (w := w) (Z := Z) (mg := mg) (base := base) (qual := "least_members") (scope := defScope st_least_members) (f := f) (cdv := cdv) (outer := outer) (s := s) (H := H) (E := E) sc_least_members.nd hr hg
  have b := B.toBe
  exact mls_cons (ml_if (t_eq b (me_var rfl (by first | exact .inl rfl | exact .inr (.inl rfl) | exact .inr (.inr rfl))) (me_int)) (mls_cons (ml_ret (me_int)) <|
  mls_nil) (mls_nil)) <|
  mls_cons (ml_if (t_eq b (me_var rfl (by first | exact .inl rfl | exact .inr (.inl rfl) | exact .inr (.inr rfl))) (me_var rfl (by first | exact .inl rfl | exact .inr (.inl rfl) | exact .inr (.inr rfl)))) (mls_cons (ml_ret (me_non)) <|
  mls_nil) (mls_nil)) <|
  mls_cons (ml_if (t_val (me_var rfl (by first | exact .inl rfl | exact .inr (.inl rfl) | exact .inr (.inr rfl)))) (mls_cons (ml_ret (e_add b (e_fdiv b (e_mul b (me_var rfl (by first | exact .inl rfl | exact .inr (.inl rfl) | exact .inr (.inr rfl))) (me_var rfl (by first | exact .inl rfl | exact .inr (.inl rfl) | exact .inr (.inr rfl)))) (e_sub b (me_var rfl (by first | exact .inl rfl | exact .inr (.inl rfl) | exact .inr (.inr rfl))) (me_var rfl (by first | exact .inl rfl | exact .inr (.inl rfl) | exact .inr (.inr rfl))))) (me_int))) <|
  mls_nil) (mls_nil)) <|
  mls_cons (ml_ret (me_neg (e_fdiv b (e_mul b (me_neg (me_var rfl (by first | exact .inl rfl | exact .inr (.inl rfl) | exact .inr (.inr rfl)))) (me_var rfl (by first | exact .inl rfl | exact .inr (.inl rfl) | exact .inr (.inr rfl)))) (e_sub b (me_var rfl (by first | exact .inl rfl | exact .inr (.inl rfl) | exact .inr (.inr rfl))) (me_var rfl (by first | exact .inl rfl | exact .inr (.inl rfl) | exact .inr (.inr rfl))))))) <|
  mls_nil
theorem c_least_members_4 (T : Txt Z mg base) : Callee P w Z mg base 1 "least_members" ["p", "q", "more", "theirs"] (spF Z 4 sem_least_members) 4 [] := by
  obtain ⟨f, fd, h1, h2, h3, F⟩ := fg_least_members P w base T
  exact ⟨f, fd, [], [], h1, h2, h3, F.bindsN (fun _ _ _ _ _ _ us hl => match us, hl with | [_, _, _, _], _ => rfl), .nil, fun _ => .nil, rfl⟩
theorem sc_members_for : FnScope ["share", "theirs"] ["share", "theirs"] (defScope st_members_for) := ⟨rfl, rfl, rfl, by decide +kernel, rfl, by decide +kernel, by decide +kernel⟩
theorem fg_members_for (T : Txt Z mg base) : ∃ f fd, mg "members_for" = some (.ref f) ∧ PySem.W.keepIn Z.K (.ref f) = true ∧ FnG P w Z.K mg base 4 f fd ["share", "theirs"] (spF Z 2 sem_members_for) ∧ FunD Z.K "members_for" "members_for" (defArgs st_members_for) (defBody st_members_for) (defScope st_members_for) [] [] f fd := by
  obtain ⟨f, fd, h1, h2, F⟩ := T.h_members_for
  refine ⟨f, fd, h1, h2, fng_soundD (m := 0) (Z := Z) (k := 3) F sc_members_for rfl (fun cdv A outer s H E hr hg => ?_), F⟩
  have B := bd_cx (P := P) (w := w) (Z := Z) (mg := mg) (base := base) (qual := "members_for") (scope := defScope st_members_for) (f := f) (cdv := cdv) (outer := outer) (s := s) (H := H) (E := E) sc_members_for.nd hr hg
  have b := B.toBe
  exact mls_cons (ml_if (mt_not (t_val (e_call b (c_is_share_1 P w base T) (by decide) (ma_cons (me_var rfl (by first | exact .inl rfl | exact .inr (.inl rfl) | exact .inr (.inr rfl))) (ma_nil))))) (mls_cons (s_raise B (rz_BadValue P w base T) fl1_ok (by decide) T.m_BadValue (ma_cons (me_str) (ma_nil))) <|
  mls_nil) (mls_nil)) <|
  mls_cons (ml_expr (e_call b (c_need_integer_3 P w base T) (by decide) (ma_cons (me_str) (ma_cons (me_var rfl (by first | exact .inl rfl | exact .inr (.inl rfl) | exact .inr (.inr rfl))) (ma_cons (me_int) (ma_nil)))))) <|
  mls_cons (ml_ret (e_call b (c_least_members_4 P w base T) (by decide) (ma_cons (e_ix b (me_var rfl (by first | exact .inl rfl | exact .inr (.inl rfl) | exact .inr (.inr rfl))) (me_int)) (ma_cons (e_ix b (me_var rfl (by first | exact .inl rfl | exact .inr (.inl rfl) | exact .inr (.inr rfl))) (me_int)) (ma_cons (e_ix b (me_var rfl (by first | exact .inl rfl | exact .inr (.inl rfl) | exact .inr (.inr rfl))) (me_int)) (ma_cons (me_var rfl (by first | exact .inl rfl | exact .inr (.inl rfl) | exact .inr (.inr rfl))) (ma_nil))))))) <|
  mls_nil
theorem c_members_for_2 (T : Txt Z mg base) : Callee P w Z mg base 4 "members_for" ["share", "theirs"] (spF Z 2 sem_members_for) 2 [] := by
  obtain ⟨f, fd, h1, h2, h3, F⟩ := fg_members_for P w base T
  exact ⟨f, fd, [], [], h1, h2, h3, F.bindsN (fun _ _ _ _ _ _ us hl => match us, hl with | [_, _], _ => rfl), .nil, fun _ => .nil, rfl⟩
theorem cx_0 (T : Txt Z mg base) : CalleeM P w Z mg base 4 "members_for" 1 ["share", "theirs"] ["theirs"] (spF Z 2 sem_members_for) xperm_0 := by
  obtain ⟨f, fd, h1, h2, h3, F⟩ := fg_members_for P w base T
  obtain ⟨oc, od, dV, kV, doc, pm, an, cdv, ct, osl, rfl, lk, hcd, hD, hK⟩ := F.ex
  rcases hD with ⟨_, rfl⟩ | ⟨e, _⟩
  · refine ⟨f, _, fun us ws => xperm_0 (us ++ ws), fun vs zs => xperm_0 (vs ++ zs), h1, h2, h3, fun s us ws _ hu hl => match us, hu, ws, hl with | [_], _, [_], _ => .of_eq rfl, fun {vs zs us ws} hu hl r1 r2 => ?_, fun {F vs zs ds} hv hl r => ?_, fun vs zs hv hl => match vs, hv, zs, hl with | [_], _, [_], _ => rfl⟩
    · have r := r1.append r2
      have hn : (us ++ ws).length = 2 := by rw [List.length_append, hu, hl]; rfl
      change Paired RelV _ _ at r
      change Paired RelV (xperm_0 (vs ++ zs)) (xperm_0 (us ++ ws))
      generalize vs ++ zs = l1 at r ⊢
      generalize us ++ ws = l2 at r hn ⊢
      cases r with
      | nil => simp at hn
      | cons h_share r =>
        cases r with
        | nil => simp at hn
        | cons h_theirs r =>
          cases r with
          | cons _ _ => simp at hn
          | nil => exact .cons h_share (.cons h_theirs (.nil))
    · have hn : (vs ++ zs).length = 2 := by rw [List.length_append, hv, hl]; rfl
      change RDs Z F (xperm_0 (vs ++ zs)) (xperm_0 ds)
      generalize vs ++ zs = l1 at r hn ⊢
      cases r with
      | nil => simp at hn
      | cons h_share r =>
        cases r with
        | nil => simp at hn
        | cons h_theirs r =>
          cases r with
          | cons _ _ => simp at hn
          | nil => exact .cons h_share (.cons h_theirs (.nil))
  · exact absurd rfl e
theorem ck_0 (T : Txt Z mg base) : CalleeK P w Z mg base 4 "members_for" ["share", "theirs"] ["theirs", "share"] (spF Z 2 sem_members_for) perm_0 := by
  obtain ⟨f, fd, h1, h2, h3, F⟩ := fg_members_for P w base T
  obtain ⟨oc, od, dV, kV, doc, pm, an, cdv, ct, osl, rfl, lk, hcd, hD, hK⟩ := F.ex
  rcases hD with ⟨_, rfl⟩ | ⟨e, _⟩
  · refine ⟨f, _, perm_0, perm_0, h1, h2, h3, fun s ws _ hl => match ws, hl with | [_, _], _ => .of_eq rfl, fun {zs ws} hl r => ?_, fun {F zs ds} hl r => ?_, fun zs hl => match zs, hl with | [_, _], _ => rfl⟩
    · change Paired RelV zs ws at r
      cases r with
      | nil => simp at hl
      | cons h_theirs r =>
        cases r with
        | nil => simp at hl
        | cons h_share r =>
          cases r with
          | cons _ _ => simp at hl
          | nil => exact .cons h_share (.cons h_theirs (.nil))
    · cases r with
      | nil => simp at hl
      | cons h_theirs r =>
        cases r with
        | nil => simp at hl
        | cons h_share r =>
          cases r with
          | cons _ _ => simp at hl
          | nil => exact .cons h_share (.cons h_theirs (.nil))
  · exact absurd rfl e
theorem sc__law_pen : FnScope ["script"] ["script"] (defScope st__law_pen) := ⟨rfl, rfl, rfl, by decide +kernel, rfl, by decide +kernel, by decide +kernel⟩
theorem fg__law_pen (T : Txt Z mg base) : ∃ f fd, mg "_law_pen" = some (.ref f) ∧ PySem.W.keepIn Z.K (.ref f) = true ∧ FnG P w Z.K mg base 1 f fd ["script"] (spN Z 1 sem__law_pen) ∧ FunD Z.K "_law_pen" "_law_pen" (defArgs st__law_pen) (defBody st__law_pen) (defScope st__law_pen) [] [] f fd := by
  obtain ⟨f, fd, h1, h2, F⟩ := T.h__law_pen
  refine ⟨f, fd, h1, h2, fngN_sound (m := 0) (Z := Z) (k := 0) F sc__law_pen rfl (fun cdv A outer s H E hr hg => ?_), F⟩
  have B := bd_cx (P := P) (w := w) (Z := Z) (mg := mg) (base := base) (qual := "_law_pen") (scope := defScope st__law_pen) (f := f) (cdv := cdv) (outer := outer) (s := s) (H := H) (E := E) sc__law_pen.nd hr hg
  have b := B.toBe
  exact mn_lst (ma_cons (e_list b T.n_list (ma_cons (e_slice b (me_var rfl (by first | exact .inl rfl | exact .inr (.inl rfl) | exact .inr (.inr rfl))) (mo_none) (mo_some (me_int))) (ma_nil))) (ma_cons (me_int) (ma_cons (me_int) (ma_nil))))
theorem c__law_pen_1 (T : Txt Z mg base) : Callee P w Z mg base 1 "_law_pen" ["script"] (spN Z 1 sem__law_pen) 1 [] := by
  obtain ⟨f, fd, h1, h2, h3, F⟩ := fg__law_pen P w base T
  exact ⟨f, fd, [], [], h1, h2, h3, F.bindsN (fun _ _ _ _ _ _ us hl => match us, hl with | [_], _ => rfl), .nil, fun _ => .nil, rfl⟩
theorem sc__law_draw : FnScope ["pen", "many", "at", "cell", "mixed", "digit", "great"] ["pen", "many"] (defScope st__law_draw) := ⟨rfl, rfl, rfl, by decide +kernel, rfl, by decide +kernel, by decide +kernel⟩
theorem fg__law_draw (T : Txt Z mg base) : ∃ f fd, mg "_law_draw" = some (.ref f) ∧ PySem.W.keepIn Z.K (.ref f) = true ∧ FnG P w Z.K mg base 1 f fd ["pen", "many"] (spF Z 2 sem__law_draw) ∧ FunD Z.K "_law_draw" "_law_draw" (defArgs st__law_draw) (defBody st__law_draw) (defScope st__law_draw) [] [] f fd := by
  obtain ⟨f, fd, h1, h2, F⟩ := T.h__law_draw
  refine ⟨f, fd, h1, h2, fng_soundD (m := 5) (Z := Z) (k := 0) F sc__law_draw rfl (fun cdv A outer s H E hr hg => ?_), F⟩
  have B := bd_cx (P := P) (w := w) (Z := Z) (mg := mg) (base := base) (qual := "_law_draw") (scope := defScope st__law_draw) (f := f) (cdv := cdv) (outer := outer) (s := s) (H := H) (E := E) sc__law_draw.nd hr hg
  have b := B.toBe
  exact mls_cons (ml_if (t_gt b (e_ixO b (i := 0) rfl (by first | exact .inl rfl | exact .inr (.inl rfl) | exact .inr (.inr rfl)) (me_int)) (me_int)) (mls_cons (s_set B (i := 5) rfl (by first | exact .inl rfl | exact .inr rfl) (e_mod b (e_int b T.n_int (ma_cons (e_ixO b (i := 0) rfl (by first | exact .inl rfl | exact .inr (.inl rfl) | exact .inr (.inr rfl)) (me_int)) (ma_nil))) (me_var rfl (by first | exact .inl rfl | exact .inr (.inl rfl) | exact .inr (.inr rfl))))) <|
  mls_cons (s_put (i := 0) rfl (by first | exact .inl rfl | exact .inr (.inl rfl) | exact .inr (.inr rfl)) (e_fdiv b (e_int b T.n_int (ma_cons (e_ixO b (i := 0) rfl (by first | exact .inl rfl | exact .inr (.inl rfl) | exact .inr (.inr rfl)) (me_int)) (ma_nil))) (me_var rfl (by first | exact .inl rfl | exact .inr (.inl rfl) | exact .inr (.inr rfl)))) (me_int)) <|
  mls_cons (ml_ret (me_var rfl (by first | exact .inl rfl | exact .inr (.inl rfl) | exact .inr (.inr rfl)))) <|
  mls_nil) (mls_nil)) <|
  mls_cons (s_set B (i := 2) rfl (by first | exact .inl rfl | exact .inr rfl) (e_ixO b (i := 0) rfl (by first | exact .inl rfl | exact .inr (.inl rfl) | exact .inr (.inr rfl)) (me_int))) <|
  mls_cons (s_put (i := 0) rfl (by first | exact .inl rfl | exact .inr (.inl rfl) | exact .inr (.inr rfl)) (e_add b (me_var rfl (by first | exact .inl rfl | exact .inr (.inl rfl) | exact .inr (.inr rfl))) (me_int)) (me_int)) <|
  mls_cons (s_set B (i := 3) rfl (by first | exact .inl rfl | exact .inr rfl) (e_add b (e_mul b (me_int) (me_var rfl (by first | exact .inl rfl | exact .inr (.inl rfl) | exact .inr (.inr rfl)))) (me_int))) <|
  mls_cons (ml_if (t_ne b (e_ixO b (i := 0) rfl (by first | exact .inl rfl | exact .inr (.inl rfl) | exact .inr (.inr rfl)) (me_int)) (me_lst (ma_nil))) (mls_cons (s_set B (i := 3) rfl (by first | exact .inl rfl | exact .inr rfl) (e_ix b (e_ixO b (i := 0) rfl (by first | exact .inl rfl | exact .inr (.inl rfl) | exact .inr (.inr rfl)) (me_int)) (e_mod b (e_int b T.n_int (ma_cons (me_var rfl (by first | exact .inl rfl | exact .inr (.inl rfl) | exact .inr (.inr rfl))) (ma_nil))) (e_len b T.n_len (ma_cons (e_ixO b (i := 0) rfl (by first | exact .inl rfl | exact .inr (.inl rfl) | exact .inr (.inr rfl)) (me_int)) (ma_nil)))))) <|
  mls_nil) (mls_nil)) <|
  mls_cons (ml_if (mt_ofW (mw_and (t_lt b (me_var rfl (by first | exact .inl rfl | exact .inr (.inl rfl) | exact .inr (.inr rfl))) (e_len b T.n_len (ma_cons (e_ixO b (i := 0) rfl (by first | exact .inl rfl | exact .inr (.inl rfl) | exact .inr (.inr rfl)) (me_int)) (ma_nil)))) (mw_and1 (t_ge b (e_abs b T.n_abs (ma_cons (me_var rfl (by first | exact .inl rfl | exact .inr (.inl rfl) | exact .inr (.inr rfl))) (ma_nil))) (e_pow b (me_int) (me_int)))))) (mls_cons (s_set B (i := 6) rfl (by first | exact .inl rfl | exact .inr rfl) (e_add b (e_mul b (me_int) (e_sub b (e_abs b T.n_abs (ma_cons (me_var rfl (by first | exact .inl rfl | exact .inr (.inl rfl) | exact .inr (.inr rfl))) (ma_nil))) (e_pow b (me_int) (me_int)))) (e_int b T.n_int (ma_cons (e_lt b (me_var rfl (by first | exact .inl rfl | exact .inr (.inl rfl) | exact .inr (.inr rfl))) (me_int)) (ma_nil))))) <|
  mls_cons (s_put (i := 0) rfl (by first | exact .inl rfl | exact .inr (.inl rfl) | exact .inr (.inr rfl)) (e_fdiv b (e_int b T.n_int (ma_cons (me_var rfl (by first | exact .inl rfl | exact .inr (.inl rfl) | exact .inr (.inr rfl))) (ma_nil))) (me_var rfl (by first | exact .inl rfl | exact .inr (.inl rfl) | exact .inr (.inr rfl)))) (me_int)) <|
  mls_cons (ml_ret (e_mod b (e_int b T.n_int (ma_cons (me_var rfl (by first | exact .inl rfl | exact .inr (.inl rfl) | exact .inr (.inr rfl))) (ma_nil))) (me_var rfl (by first | exact .inl rfl | exact .inr (.inl rfl) | exact .inr (.inr rfl))))) <|
  mls_nil) (mls_nil)) <|
  mls_cons (s_set B (i := 4) rfl (by first | exact .inl rfl | exact .inr rfl) (e_mod b (e_int b T.n_int (ma_cons (e_pow b (e_add b (e_add b (e_mod b (e_int b T.n_int (ma_cons (me_var rfl (by first | exact .inl rfl | exact .inr (.inl rfl) | exact .inr (.inr rfl))) (ma_nil))) (me_int)) (e_mul b (me_int) (me_var rfl (by first | exact .inl rfl | exact .inr (.inl rfl) | exact .inr (.inr rfl))))) (me_int)) (me_int)) (ma_nil))) (me_int))) <|
  mls_cons (s_set B (i := 4) rfl (by first | exact .inl rfl | exact .inr rfl) (e_mod b (e_int b T.n_int (ma_cons (e_pow b (e_add b (e_add b (e_mul b (me_var rfl (by first | exact .inl rfl | exact .inr (.inl rfl) | exact .inr (.inr rfl))) (e_add b (e_mul b (me_int) (me_var rfl (by first | exact .inl rfl | exact .inr (.inl rfl) | exact .inr (.inr rfl)))) (me_int))) (e_mul b (e_mul b (me_int) (me_var rfl (by first | exact .inl rfl | exact .inr (.inl rfl) | exact .inr (.inr rfl)))) (me_var rfl (by first | exact .inl rfl | exact .inr (.inl rfl) | exact .inr (.inr rfl))))) (me_int)) (me_int)) (ma_nil))) (me_int))) <|
  mls_cons (ml_ret (e_mod b (e_int b T.n_int (ma_cons (e_fdiv b (me_var rfl (by first | exact .inl rfl | exact .inr (.inl rfl) | exact .inr (.inr rfl))) (me_int)) (ma_nil))) (me_var rfl (by first | exact .inl rfl | exact .inr (.inl rfl) | exact .inr (.inr rfl))))) <|
  mls_nil
theorem c__law_draw_2 (T : Txt Z mg base) : Callee P w Z mg base 1 "_law_draw" ["pen", "many"] (spF Z 2 sem__law_draw) 2 [] := by
  obtain ⟨f, fd, h1, h2, h3, F⟩ := fg__law_draw P w base T
  exact ⟨f, fd, [], [], h1, h2, h3, F.bindsN (fun _ _ _ _ _ _ us hl => match us, hl with | [_, _], _ => rfl), .nil, fun _ => .nil, rfl⟩
theorem sc__law_pick : FnScope ["pen", "some"] ["pen", "some"] (defScope st__law_pick) := ⟨rfl, rfl, rfl, by decide +kernel, rfl, by decide +kernel, by decide +kernel⟩
theorem fg__law_pick (T : Txt Z mg base) : ∃ f fd, mg "_law_pick" = some (.ref f) ∧ PySem.W.keepIn Z.K (.ref f) = true ∧ FnG P w Z.K mg base 2 f fd ["pen", "some"] (spF Z 2 sem__law_pick) ∧ FunD Z.K "_law_pick" "_law_pick" (defArgs st__law_pick) (defBody st__law_pick) (defScope st__law_pick) [] [] f fd := by
  obtain ⟨f, fd, h1, h2, F⟩ := T.h__law_pick
  refine ⟨f, fd, h1, h2, fng_soundD (m := 0) (Z := Z) (k := 1) F sc__law_pick rfl (fun cdv A outer s H E hr hg => ?_), F⟩
  have B := bd_cx (P := P) (w := w) (Z := Z) (mg := mg) (base := base) (qual := "_law_pick") (scope := defScope st__law_pick) (f := f) (cdv := cdv) (outer := outer) (s := s) (H := H) (E := E) sc__law_pick.nd hr hg
  have b := B.toBe
  exact mls_cons (ml_ret (e_ix b (me_var rfl (by first | exact .inl rfl | exact .inr (.inl rfl) | exact .inr (.inr rfl))) (e_call b (c__law_draw_2 P w base T) (by decide) (ma_obj (i := 0) rfl (by first | exact .inl rfl | exact .inr (.inl rfl) | exact .inr (.inr rfl)) (ma_cons (e_len b T.n_len (ma_cons (me_var rfl (by first | exact .inl rfl | exact .inr (.inl rfl) | exact .inr (.inr rfl))) (ma_nil))) (ma_nil)))))) <|
  mls_nil
theorem c__law_pick_2 (T : Txt Z mg base) : Callee P w Z mg base 2 "_law_pick" ["pen", "some"] (spF Z 2 sem__law_pick) 2 [] := by
  obtain ⟨f, fd, h1, h2, h3, F⟩ := fg__law_pick P w base T
  exact ⟨f, fd, [], [], h1, h2, h3, F.bindsN (fun _ _ _ _ _ _ us hl => match us, hl with | [_, _], _ => rfl), .nil, fun _ => .nil, rfl⟩
theorem sc__law_great : FnScope ["pen", "kind", "low"] ["pen"] (defScope st__law_great) := ⟨rfl, rfl, rfl, by decide +kernel, rfl, by decide +kernel, by decide +kernel⟩
theorem fg__law_great (T : Txt Z mg base) : ∃ f fd, mg "_law_great" = some (.ref f) ∧ PySem.W.keepIn Z.K (.ref f) = true ∧ FnG P w Z.K mg base 2 f fd ["pen"] (spF Z 1 sem__law_great) ∧ FunD Z.K "_law_great" "_law_great" (defArgs st__law_great) (defBody st__law_great) (defScope st__law_great) [] [] f fd := by
  obtain ⟨f, fd, h1, h2, F⟩ := T.h__law_great
  refine ⟨f, fd, h1, h2, fng_soundD (m := 2) (Z := Z) (k := 1) F sc__law_great rfl (fun cdv A outer s H E hr hg => ?_), F⟩
  have B := bd_cx (P := P) (w := w) (Z := Z) (mg := mg) (base := base) (qual := "_law_great") (scope := defScope st__law_great) (f := f) (cdv := cdv) (outer := outer) (s := s) (H := H) (E := E) sc__law_great.nd hr hg
  have b := B.toBe
  exact mls_cons (s_set B (i := 1) rfl (by first | exact .inl rfl | exact .inr rfl) (e_call b (c__law_draw_2 P w base T) (by decide) (ma_obj (i := 0) rfl (by first | exact .inl rfl | exact .inr (.inl rfl) | exact .inr (.inr rfl)) (ma_cons (me_int) (ma_nil))))) <|
  mls_cons (ml_if (t_lt b (me_var rfl (by first | exact .inl rfl | exact .inr (.inl rfl) | exact .inr (.inr rfl))) (me_int)) (mls_cons (ml_ret (e_call b (c__law_draw_2 P w base T) (by decide) (ma_obj (i := 0) rfl (by first | exact .inl rfl | exact .inr (.inl rfl) | exact .inr (.inr rfl)) (ma_cons (me_int) (ma_nil))))) <|
  mls_nil) (mls_nil)) <|
  mls_cons (ml_if (t_eq b (me_var rfl (by first | exact .inl rfl | exact .inr (.inl rfl) | exact .inr (.inr rfl))) (me_int)) (mls_cons (ml_ret (e_call b (c__law_draw_2 P w base T) (by decide) (ma_obj (i := 0) rfl (by first | exact .inl rfl | exact .inr (.inl rfl) | exact .inr (.inr rfl)) (ma_cons (me_int) (ma_nil))))) <|
  mls_nil) (mls_nil)) <|
  mls_cons (s_set B (i := 2) rfl (by first | exact .inl rfl | exact .inr rfl) (e_add b (e_mul b (e_call b (c__law_draw_2 P w base T) (by decide) (ma_obj (i := 0) rfl (by first | exact .inl rfl | exact .inr (.inl rfl) | exact .inr (.inr rfl)) (ma_cons (e_pow b (me_int) (me_int)) (ma_nil)))) (e_pow b (me_int) (me_int))) (e_call b (c__law_draw_2 P w base T) (by decide) (ma_obj (i := 0) rfl (by first | exact .inl rfl | exact .inr (.inl rfl) | exact .inr (.inr rfl)) (ma_cons (e_pow b (me_int) (me_int)) (ma_nil)))))) <|
  mls_cons (ml_ret (me_ifExp (t_eq b (me_var rfl (by first | exact .inl rfl | exact .inr (.inl rfl) | exact .inr (.inr rfl))) (me_int)) (me_var rfl (by first | exact .inl rfl | exact .inr (.inl rfl) | exact .inr (.inr rfl))) (e_add b (e_mul b (me_var rfl (by first | exact .inl rfl | exact .inr (.inl rfl) | exact .inr (.inr rfl))) (e_pow b (me_int) (me_int))) (e_call b (c__law_draw_2 P w base T) (by decide) (ma_obj (i := 0) rfl (by first | exact .inl rfl | exact .inr (.inl rfl) | exact .inr (.inr rfl)) (ma_cons (e_pow b (me_int) (me_int)) (ma_nil))))))) <|
  mls_nil
theorem c__law_great_1 (T : Txt Z mg base) : Callee P w Z mg base 2 "_law_great" ["pen"] (spF Z 1 sem__law_great) 1 [] := by
  obtain ⟨f, fd, h1, h2, h3, F⟩ := fg__law_great P w base T
  exact ⟨f, fd, [], [], h1, h2, h3, F.bindsN (fun _ _ _ _ _ _ us hl => match us, hl with | [_], _ => rfl), .nil, fun _ => .nil, rfl⟩
theorem sc__law_has : FnScope ["ours", "theirs", "p", "q", "more", "every"] ["ours", "theirs", "p", "q", "more"] (defScope st__law_has) := ⟨rfl, rfl, rfl, by decide +kernel, rfl, by decide +kernel, by decide +kernel⟩
theorem fg__law_has (T : Txt Z mg base) : ∃ f fd, mg "_law_has" = some (.ref f) ∧ PySem.W.keepIn Z.K (.ref f) = true ∧ FnG P w Z.K mg base 1 f fd ["ours", "theirs", "p", "q", "more"] (spF Z 5 sem__law_has) ∧ FunD Z.K "_law_has" "_law_has" (defArgs st__law_has) (defBody st__law_has) (defScope st__law_has) [] [] f fd := by
  obtain ⟨f, fd, h1, h2, F⟩ := T.h__law_has
  refine ⟨f, fd, h1, h2, fng_soundD (m := 1) (Z := Z) (k := 0) F sc__law_has rfl (fun cdv A outer s H E hr hg => ?_), F⟩
  have B := bd_cx (P := P) (w := w) (Z := Z) (mg := mg) (base := base) (qual := "_law_has") (scope := defScope st__law_has) (f := f) (cdv := cdv) (outer := outer) (s := s) (H := H) (E := E) sc__law_has.nd hr hg
  have b := B.toBe
  exact mls_cons (s_set B (i := 5) rfl (by first | exact .inl rfl | exact .inr rfl) (e_add b (me_var rfl (by first | exact .inl rfl | exact .inr (.inl rfl) | exact .inr (.inr rfl))) (me_var rfl (by first | exact .inl rfl | exact .inr (.inl rfl) | exact .inr (.inr rfl))))) <|
  mls_cons (ml_if (t_eq b (me_var rfl (by first | exact .inl rfl | exact .inr (.inl rfl) | exact .inr (.inr rfl))) (me_int)) (mls_cons (ml_ret (me_bl)) <|
  mls_nil) (mls_nil)) <|
  mls_cons (ml_ret (me_ifExp (t_val (me_var rfl (by first | exact .inl rfl | exact .inr (.inl rfl) | exact .inr (.inr rfl)))) (e_gt b (e_mul b (me_var rfl (by first | exact .inl rfl | exact .inr (.inl rfl) | exact .inr (.inr rfl))) (me_var rfl (by first | exact .inl rfl | exact .inr (.inl rfl) | exact .inr (.inr rfl)))) (e_mul b (me_var rfl (by first | exact .inl rfl | exact .inr (.inl rfl) | exact .inr (.inr rfl))) (me_var rfl (by first | exact .inl rfl | exact .inr (.inl rfl) | exact .inr (.inr rfl))))) (e_ge b (e_mul b (me_var rfl (by first | exact .inl rfl | exact .inr (.inl rfl) | exact .inr (.inr rfl))) (me_var rfl (by first | exact .inl rfl | exact .inr (.inl rfl) | exact .inr (.inr rfl)))) (e_mul b (me_var rfl (by first | exact .inl rfl | exact .inr (.inl rfl) | exact .inr (.inr rfl))) (me_var rfl (by first | exact .inl rfl | exact .inr (.inl rfl) | exact .inr (.inr rfl))))))) <|
  mls_nil
theorem c__law_has_5 (T : Txt Z mg base) : Callee P w Z mg base 1 "_law_has" ["ours", "theirs", "p", "q", "more"] (spF Z 5 sem__law_has) 5 [] := by
  obtain ⟨f, fd, h1, h2, h3, F⟩ := fg__law_has P w base T
  exact ⟨f, fd, [], [], h1, h2, h3, F.bindsN (fun _ _ _ _ _ _ us hl => match us, hl with | [_, _, _, _, _], _ => rfl), .nil, fun _ => .nil, rfl⟩
theorem sc__law_is_least : FnScope ["found", "theirs", "p", "q", "more"] ["found", "theirs", "p", "q", "more"] (defScope st__law_is_least) := ⟨rfl, rfl, rfl, by decide +kernel, rfl, by decide +kernel, by decide +kernel⟩
theorem fg__law_is_least (T : Txt Z mg base) : ∃ f fd, mg "_law_is_least" = some (.ref f) ∧ PySem.W.keepIn Z.K (.ref f) = true ∧ FnG P w Z.K mg base 2 f fd ["found", "theirs", "p", "q", "more"] (spF Z 5 sem__law_is_least) ∧ FunD Z.K "_law_is_least" "_law_is_least" (defArgs st__law_is_least) (defBody st__law_is_least) (defScope st__law_is_least) [] [] f fd := by
  obtain ⟨f, fd, h1, h2, F⟩ := T.h__law_is_least
  refine ⟨f, fd, h1, h2, fng_soundD (m := 0) (Z := Z) (k := 1) F sc__law_is_least rfl (fun cdv A outer s H E hr hg => ?_), F⟩
  have B := bd_cx (P := P) (w := w) (Z := Z) (mg := mg) (base := base) (qual := "_law_is_least") (scope := defScope st__law_is_least) (f := f) (cdv := cdv) (outer := outer) (s := s) (H := H) (E := E) sc__law_is_least.nd hr hg
  have b := B.toBe
  exact mls_cons (ml_if (t_is b (me_var rfl (by first | exact .inl rfl | exact .inr (.inl rfl) | exact .inr (.inr rfl))) (me_non)) (mls_cons (ml_ret (me_and (e_eq b (me_var rfl (by first | exact .inl rfl | exact .inr (.inl rfl) | exact .inr (.inr rfl))) (me_var rfl (by first | exact .inl rfl | exact .inr (.inl rfl) | exact .inr (.inr rfl)))) (me_one (e_gt b (me_var rfl (by first | exact .inl rfl | exact .inr (.inl rfl) | exact .inr (.inr rfl))) (me_int))))) <|
  mls_nil) (mls_nil)) <|
  mls_cons (ml_if (mt_ofW (mw_or (mt_not (t_val (e_isi b T.n_isinstance (me_var rfl (by first | exact .inl rfl | exact .inr (.inl rfl) | exact .inr (.inr rfl))) (c_ty PyProof.Rows.Boot.«int» T.n_int) T.is_int))) (mw_or (t_val (e_isi b T.n_isinstance (me_var rfl (by first | exact .inl rfl | exact .inr (.inl rfl) | exact .inr (.inr rfl))) (c_ty PyProof.Rows.Boot.«bool» T.n_bool) T.is_bool)) (mw_or (t_lt b (me_var rfl (by first | exact .inl rfl | exact .inr (.inl rfl) | exact .inr (.inr rfl))) (me_int)) (mw_or1 (mt_not (t_val (e_call b (c__law_has_5 P w base T) (by decide) (ma_cons (me_var rfl (by first | exact .inl rfl | exact .inr (.inl rfl) | exact .inr (.inr rfl))) (ma_cons (me_var rfl (by first | exact .inl rfl | exact .inr (.inl rfl) | exact .inr (.inr rfl))) (ma_cons (me_var rfl (by first | exact .inl rfl | exact .inr (.inl rfl) | exact .inr (.inr rfl))) (ma_cons (me_var rfl (by first | exact .inl rfl | exact .inr (.inl rfl) | exact .inr (.inr rfl))) (ma_cons (me_var rfl (by first | exact .inl rfl | exact .inr (.inl rfl) | exact .inr (.inr rfl))) (ma_nil)))))))))))))) (mls_cons (ml_ret (me_bl)) <|
  mls_nil) (mls_nil)) <|
  mls_cons (ml_ret (me_or (e_eq b (me_var rfl (by first | exact .inl rfl | exact .inr (.inl rfl) | exact .inr (.inr rfl))) (me_int)) (me_one (me_not (e_call b (c__law_has_5 P w base T) (by decide) (ma_cons (e_sub b (me_var rfl (by first | exact .inl rfl | exact .inr (.inl rfl) | exact .inr (.inr rfl))) (me_int)) (ma_cons (me_var rfl (by first | exact .inl rfl | exact .inr (.inl rfl) | exact .inr (.inr rfl))) (ma_cons (me_var rfl (by first | exact .inl rfl | exact .inr (.inl rfl) | exact .inr (.inr rfl))) (ma_cons (me_var rfl (by first | exact .inl rfl | exact .inr (.inl rfl) | exact .inr (.inr rfl))) (ma_cons (me_var rfl (by first | exact .inl rfl | exact .inr (.inl rfl) | exact .inr (.inr rfl))) (ma_nil))))))))))) <|
  mls_nil
theorem c__law_is_least_5 (T : Txt Z mg base) : Callee P w Z mg base 2 "_law_is_least" ["found", "theirs", "p", "q", "more"] (spF Z 5 sem__law_is_least) 5 [] := by
  obtain ⟨f, fd, h1, h2, h3, F⟩ := fg__law_is_least P w base T
  exact ⟨f, fd, [], [], h1, h2, h3, F.bindsN (fun _ _ _ _ _ _ us hl => match us, hl with | [_, _, _, _, _], _ => rfl), .nil, fun _ => .nil, rfl⟩
theorem sc__law_refused : FnScope ["ask", "caught", "error"] ["ask"] (defScope st__law_refused) := ⟨rfl, rfl, rfl, by decide +kernel, rfl, by decide +kernel, by decide +kernel⟩
theorem gv__law_refused (T : Txt Z mg base) : Gives P w Z mg base 5 2 "_law_refused" "ask" b__law_refused := by
  obtain ⟨f, fd, h1, h2, F⟩ := T.h__law_refused
  refine ⟨f, fd, _, _, _, ["ask", "caught", "error"], h1, h2, F, sc__law_refused, rfl, rfl, (by first | exact .inl rfl | exact .inr (.inl rfl) | exact .inr (.inr rfl)), F.bindsN (fun _ _ _ _ _ _ us hl => match us, hl with | [_], _ => rfl), fun t r cdv A outer s H E hr hg act => ?_⟩
  have T := T.wf t
  have B := bd_cx (P := P) (w := w) (Z := Z.wf t) (mg := mg) (base := base) (qual := "_law_refused") (scope := defScope st__law_refused) (f := f) (cdv := cdv) (outer := outer) (s := s) (H := H) (E := E) sc__law_refused.nd hr hg
  have b := B.toBe
  exact mls_cons (s_set B (i := 1) rfl (by first | exact .inl rfl | exact .inr rfl) (me_non)) <|
  mls_cons (s_tryK B (i := 2) (j := 1) rfl rfl T.m_RulesError T.xm_RulesError (fun W' pn xe B' => mls_cons (ml_expr (act _ _ _ ((B'.toBe)).tk _ _)) <|
  mls_nil)) <|
  mls_cons (ml_if (t_val (e_isi b T.n_isinstance (me_var rfl (by first | exact .inl rfl | exact .inr (.inl rfl) | exact .inr (.inr rfl))) (c_own T.m_BadValue) T.is_BadValue)) (mls_cons (ml_ret (me_tup (ma_cons (me_str) (ma_cons (e_at b (me_var rfl (by first | exact .inl rfl | exact .inr (.inl rfl) | exact .inr (.inr rfl))) T.at_a_part) (ma_nil))))) <|
  mls_nil) (mls_nil)) <|
  mls_cons (ml_ret (me_ifExp (t_val (e_isi b T.n_isinstance (me_var rfl (by first | exact .inl rfl | exact .inr (.inl rfl) | exact .inr (.inr rfl))) (c_own T.m_BadNumber) T.is_BadNumber)) (me_tup (ma_cons (me_str) (ma_cons (e_at b (me_var rfl (by first | exact .inl rfl | exact .inr (.inl rfl) | exact .inr (.inr rfl))) T.at_a_part) (ma_nil)))) (me_tup (ma_cons (me_str) (ma_cons (me_non) (ma_nil)))))) <|
  mls_nil
theorem sc__law_refused_right : FnScope ["pen", "p", "q", "odd", "wrong", "one", "heard"] ["pen", "p", "q"] (defScope st__law_refused_right) := ⟨rfl, rfl, rfl, by decide +kernel, rfl, by decide +kernel, by decide +kernel⟩
theorem fg__law_refused_right (hz : Z.fn = none) (T : Txt Z mg base) : ∃ f fd, mg "_law_refused_right" = some (.ref f) ∧ PySem.W.keepIn Z.K (.ref f) = true ∧ FnG P w Z.K mg base 7 f fd ["pen", "p", "q"] (spF Z 3 sem__law_refused_right) ∧ FunD Z.K "_law_refused_right" "_law_refused_right" (defArgs st__law_refused_right) (defBody st__law_refused_right) (defScope st__law_refused_right) [] [] f fd := by
  obtain ⟨f, fd, h1, h2, F⟩ := T.h__law_refused_right
  obtain ⟨fl, cl, pl, l1, l2, l3, l4, l5⟩ := T.lb__law_refused_right
  have ee := h1.symm.trans l1
  cases ee
  refine ⟨f, fd, h1, h2, fng_soundC (m := 4) (Z := Z) (k := 6) F l2 sc__law_refused_right rfl (fun A outer s H E hr hg => ?_), F⟩
  have B := bd_cx (P := P) (w := w) (Z := Z) (mg := mg) (base := base) (qual := "_law_refused_right") (scope := defScope st__law_refused_right) (f := f) (cdv := .ref cl) (outer := outer) (s := s) (H := H) (E := E) sc__law_refused_right.nd hr hg
  have b := B.toBe
  exact mls_cons (s_set B (i := 3) rfl (by first | exact .inl rfl | exact .inr rfl) (e_call b (c__law_pick_2 P w base T) (by decide) (ma_obj (i := 0) rfl (by first | exact .inl rfl | exact .inr (.inl rfl) | exact .inr (.inr rfl)) (ma_cons (me_lst (ma_cons (me_non) (ma_cons (me_neg (me_int)) (ma_cons (me_bl) (ma_cons (me_str) (ma_cons (me_tup (ma_cons (me_int) (ma_nil))) (ma_cons (me_lst (ma_cons (me_int) (ma_nil))) (ma_cons (me_bl) (ma_nil))))))))) (ma_nil))))) <|
  mls_cons (s_set B (i := 4) rfl (by first | exact .inl rfl | exact .inr rfl) (me_lst (ma_cons (me_non) (ma_cons (me_int) (ma_cons (me_str) (ma_cons (me_tup (ma_nil)) (ma_cons (me_tup (ma_cons (me_var rfl (by first | exact .inl rfl | exact .inr (.inl rfl) | exact .inr (.inr rfl))) (ma_cons (me_var rfl (by first | exact .inl rfl | exact .inr (.inl rfl) | exact .inr (.inr rfl))) (ma_nil)))) (ma_cons (me_tup (ma_cons (me_var rfl (by first | exact .inl rfl | exact .inr (.inl rfl) | exact .inr (.inr rfl))) (ma_cons (me_var rfl (by first | exact .inl rfl | exact .inr (.inl rfl) | exact .inr (.inr rfl))) (ma_cons (me_bl) (ma_cons (me_bl) (ma_nil)))))) (ma_cons (me_tup (ma_cons (me_var rfl (by first | exact .inl rfl | exact .inr (.inl rfl) | exact .inr (.inr rfl))) (ma_cons (me_var rfl (by first | exact .inl rfl | exact .inr (.inl rfl) | exact .inr (.inr rfl))) (ma_cons (me_int) (ma_nil))))) (ma_cons (me_tup (ma_cons (me_var rfl (by first | exact .inl rfl | exact .inr (.inl rfl) | exact .inr (.inr rfl))) (ma_cons (me_var rfl (by first | exact .inl rfl | exact .inr (.inl rfl) | exact .inr (.inr rfl))) (ma_cons (me_int) (ma_nil))))) (ma_cons (me_tup (ma_cons (me_var rfl (by first | exact .inl rfl | exact .inr (.inl rfl) | exact .inr (.inr rfl))) (ma_cons (me_var rfl (by first | exact .inl rfl | exact .inr (.inl rfl) | exact .inr (.inr rfl))) (ma_cons (me_non) (ma_nil))))) (ma_cons (me_tup (ma_cons (e_add b (me_var rfl (by first | exact .inl rfl | exact .inr (.inl rfl) | exact .inr (.inr rfl))) (me_int)) (ma_cons (me_var rfl (by first | exact .inl rfl | exact .inr (.inl rfl) | exact .inr (.inr rfl))) (ma_cons (me_bl) (ma_nil))))) (ma_cons (me_tup (ma_cons (me_neg (me_int)) (ma_cons (me_var rfl (by first | exact .inl rfl | exact .inr (.inl rfl) | exact .inr (.inr rfl))) (ma_cons (me_bl) (ma_nil))))) (ma_nil)))))))))))))) <|
  mls_cons (s_set B (i := 4) rfl (by first | exact .inl rfl | exact .inr rfl) (e_add b (me_var rfl (by first | exact .inl rfl | exact .inr (.inl rfl) | exact .inr (.inr rfl))) (me_lst (ma_cons (me_tup (ma_cons (me_int) (ma_cons (me_int) (ma_cons (me_bl) (ma_nil))))) (ma_cons (me_tup (ma_cons (me_var rfl (by first | exact .inl rfl | exact .inr (.inl rfl) | exact .inr (.inr rfl))) (ma_cons (me_int) (ma_cons (me_bl) (ma_nil))))) (ma_cons (me_tup (ma_cons (me_var rfl (by first | exact .inl rfl | exact .inr (.inl rfl) | exact .inr (.inr rfl))) (ma_cons (me_neg (me_var rfl (by first | exact .inl rfl | exact .inr (.inl rfl) | exact .inr (.inr rfl)))) (ma_cons (me_bl) (ma_nil))))) (ma_cons (me_tup (ma_cons (me_var rfl (by first | exact .inl rfl | exact .inr (.inl rfl) | exact .inr (.inr rfl))) (ma_cons (me_var rfl (by first | exact .inl rfl | exact .inr (.inl rfl) | exact .inr (.inr rfl))) (ma_cons (me_bl) (ma_nil))))) (ma_cons (me_lst (ma_cons (me_var rfl (by first | exact .inl rfl | exact .inr (.inl rfl) | exact .inr (.inr rfl))) (ma_cons (me_var rfl (by first | exact .inl rfl | exact .inr (.inl rfl) | exact .inr (.inr rfl))) (ma_cons (me_bl) (ma_nil))))) (ma_cons (me_tup (ma_cons (me_bl) (ma_cons (me_var rfl (by first | exact .inl rfl | exact .inr (.inl rfl) | exact .inr (.inr rfl))) (ma_cons (me_bl) (ma_nil))))) (ma_cons (me_tup (ma_cons (me_var rfl (by first | exact .inl rfl | exact .inr (.inl rfl) | exact .inr (.inr rfl))) (ma_cons (me_bl) (ma_cons (me_bl) (ma_nil))))) (ma_cons (me_tup (ma_cons (me_str) (ma_cons (me_str) (ma_cons (me_bl) (ma_nil))))) (ma_cons (me_dk0) (ma_nil))))))))))))) <|
  mls_cons (s_for B (i_seq b (me_var rfl (by first | exact .inl rfl | exact .inr (.inl rfl) | exact .inr (.inr rfl)))) (g_name b (i := 5) rfl (by first | exact .inl rfl | exact .inr rfl)) (mls_cons (s_new B (i := 6) rfl (by first | exact .inl rfl | exact .inr rfl) (mn_lst (ma_cons (e_lam b hz (gv__law_refused P w base T) (by decide) l5 rfl l3 l4 4 (by decide) (fun A outer s H E f c' L => e_call L (c_members_for_2 P w base T) (by decide) (ma_cons (me_var rfl (by first | exact .inl rfl | exact .inr (.inl rfl) | exact .inr (.inr rfl))) (ma_cons (me_int) (ma_nil))))) (ma_nil)))) <|
  mls_cons (s_append B (i := 6) rfl (by first | exact .inl rfl | exact .inr (.inl rfl) | exact .inr (.inr rfl)) (ma_cons (e_lam b hz (gv__law_refused P w base T) (by decide) l5 rfl l3 l4 4 (by decide) (fun A outer s H E f c' L => e_call L (c_members_for_2 P w base T) (by decide) (ma_cons (me_var rfl (by first | exact .inl rfl | exact .inr (.inl rfl) | exact .inr (.inr rfl))) (ma_cons (me_var rfl (by first | exact .inl rfl | exact .inr (.inl rfl) | exact .inr (.inr rfl))) (ma_nil))))) (ma_nil))) <|
  mls_freeze (mls_cons (ml_if (t_ne b (me_var rfl (by first | exact .inl rfl | exact .inr (.inl rfl) | exact .inr (.inr rfl))) (e_mul b (me_lst (ma_cons (me_tup (ma_cons (me_str) (ma_cons (me_str) (ma_nil)))) (ma_nil))) (me_int))) (mls_cons (ml_ret (me_bl)) <|
  mls_nil) (mls_nil)) <|
  mls_nil))) <|
  mls_cons (ml_ret (e_eq b (e_lam b hz (gv__law_refused P w base T) (by decide) l5 rfl l3 l4 4 (by decide) (fun A outer s H E f c' L => e_callK L (ck_0 P w base T) (by decide) (mk_cons (me_var rfl (by first | exact .inl rfl | exact .inr (.inl rfl) | exact .inr (.inr rfl))) (mk_cons (me_tup (ma_cons (me_var rfl (by first | exact .inl rfl | exact .inr (.inl rfl) | exact .inr (.inr rfl))) (ma_cons (me_var rfl (by first | exact .inl rfl | exact .inr (.inl rfl) | exact .inr (.inr rfl))) (ma_cons (me_bl) (ma_nil))))) (mk_nil))))) (me_tup (ma_cons (me_str) (ma_cons (me_str) (ma_nil)))))) <|
  mls_nil
theorem c__law_refused_right_3 (hz : Z.fn = none) (T : Txt Z mg base) : Callee P w Z mg base 7 "_law_refused_right" ["pen", "p", "q"] (spF Z 3 sem__law_refused_right) 3 [] := by
  obtain ⟨f, fd, h1, h2, h3, F⟩ := fg__law_refused_right P w base hz T
  exact ⟨f, fd, [], [], h1, h2, h3, F.bindsN (fun _ _ _ _ _ _ us hl => match us, hl with | [_, _, _], _ => rfl), .nil, fun _ => .nil, rfl⟩
theorem sc_law : FnScope ["script", "pen", "turn", "q", "p", "more", "theirs", "found"] ["script"] (defScope st_law) := ⟨rfl, rfl, rfl, by decide +kernel, rfl, by decide +kernel, by decide +kernel⟩
theorem fg_law (hz : Z.fn = none) (T : Txt Z mg base) : ∃ f fd, mg "law" = some (.ref f) ∧ PySem.W.keepIn Z.K (.ref f) = true ∧ FnG P w Z.K mg base 8 f fd ["script"] (spF Z 1 sem_law) ∧ FunD Z.K "law" "law" (defArgs st_law) (defBody st_law) (defScope st_law) [] [] f fd := by
  obtain ⟨f, fd, h1, h2, F⟩ := T.h_law
  refine ⟨f, fd, h1, h2, fng_soundD (m := 7) (Z := Z) (k := 7) F sc_law rfl (fun cdv A outer s H E hr hg => ?_), F⟩
  have B := bd_cx (P := P) (w := w) (Z := Z) (mg := mg) (base := base) (qual := "law") (scope := defScope st_law) (f := f) (cdv := cdv) (outer := outer) (s := s) (H := H) (E := E) sc_law.nd hr hg
  have b := B.toBe
  exact mls_cons (s_new B (i := 1) rfl (by first | exact .inl rfl | exact .inr rfl) (n_call b (c__law_pen_1 P w base T) (by decide) (ma_cons (me_var rfl (by first | exact .inl rfl | exact .inr (.inl rfl) | exact .inr (.inr rfl))) (ma_nil)))) <|
  mls_cons (s_for B (i_range1 T.n_range (ma_cons (me_int) (ma_nil))) (g_name b (i := 2) rfl (by first | exact .inl rfl | exact .inr rfl)) (mls_cons (s_set B (i := 3) rfl (by first | exact .inl rfl | exact .inr rfl) (e_add b (me_int) (e_call b (c__law_great_1 P w base T) (by decide) (ma_obj (i := 1) rfl (by first | exact .inl rfl | exact .inr (.inl rfl) | exact .inr (.inr rfl)) (ma_nil))))) <|
  mls_cons (s_set B (i := 4) rfl (by first | exact .inl rfl | exact .inr rfl) (e_ix b (me_lst (ma_cons (me_int) (ma_cons (me_var rfl (by first | exact .inl rfl | exact .inr (.inl rfl) | exact .inr (.inr rfl))) (ma_cons (e_sub b (me_var rfl (by first | exact .inl rfl | exact .inr (.inl rfl) | exact .inr (.inr rfl))) (me_int)) (ma_cons (e_call b (c__law_draw_2 P w base T) (by decide) (ma_obj (i := 1) rfl (by first | exact .inl rfl | exact .inr (.inl rfl) | exact .inr (.inr rfl)) (ma_cons (e_add b (me_var rfl (by first | exact .inl rfl | exact .inr (.inl rfl) | exact .inr (.inr rfl))) (me_int)) (ma_nil)))) (ma_cons (e_call b (c__law_draw_2 P w base T) (by decide) (ma_obj (i := 1) rfl (by first | exact .inl rfl | exact .inr (.inl rfl) | exact .inr (.inr rfl)) (ma_cons (e_add b (me_var rfl (by first | exact .inl rfl | exact .inr (.inl rfl) | exact .inr (.inr rfl))) (me_int)) (ma_nil)))) (ma_cons (e_call b (c__law_draw_2 P w base T) (by decide) (ma_obj (i := 1) rfl (by first | exact .inl rfl | exact .inr (.inl rfl) | exact .inr (.inr rfl)) (ma_cons (e_add b (me_var rfl (by first | exact .inl rfl | exact .inr (.inl rfl) | exact .inr (.inr rfl))) (me_int)) (ma_nil)))) (ma_nil)))))))) (e_call b (c__law_draw_2 P w base T) (by decide) (ma_obj (i := 1) rfl (by first | exact .inl rfl | exact .inr (.inl rfl) | exact .inr (.inr rfl)) (ma_cons (me_int) (ma_nil)))))) <|
  mls_cons (s_set B (i := 5) rfl (by first | exact .inl rfl | exact .inr rfl) (me_and (e_lt b (me_var rfl (by first | exact .inl rfl | exact .inr (.inl rfl) | exact .inr (.inr rfl))) (me_var rfl (by first | exact .inl rfl | exact .inr (.inl rfl) | exact .inr (.inr rfl)))) (me_one (e_eq b (e_call b (c__law_draw_2 P w base T) (by decide) (ma_obj (i := 1) rfl (by first | exact .inl rfl | exact .inr (.inl rfl) | exact .inr (.inr rfl)) (ma_cons (me_int) (ma_nil)))) (me_int))))) <|
  mls_cons (s_for B (i_seq b (me_lst (ma_cons (e_call b (c__law_great_1 P w base T) (by decide) (ma_obj (i := 1) rfl (by first | exact .inl rfl | exact .inr (.inl rfl) | exact .inr (.inr rfl)) (ma_nil))) (ma_cons (me_int) (ma_cons (me_int) (ma_cons (e_sub b (me_var rfl (by first | exact .inl rfl | exact .inr (.inl rfl) | exact .inr (.inr rfl))) (me_var rfl (by first | exact .inl rfl | exact .inr (.inl rfl) | exact .inr (.inr rfl)))) (ma_cons (e_add b (e_mul b (me_int) (e_sub b (me_var rfl (by first | exact .inl rfl | exact .inr (.inl rfl) | exact .inr (.inr rfl))) (me_var rfl (by first | exact .inl rfl | exact .inr (.inl rfl) | exact .inr (.inr rfl))))) (e_call b (c__law_draw_2 P w base T) (by decide) (ma_obj (i := 1) rfl (by first | exact .inl rfl | exact .inr (.inl rfl) | exact .inr (.inr rfl)) (ma_cons (me_int) (ma_nil))))) (ma_nil)))))))) (g_name b (i := 6) rfl (by first | exact .inl rfl | exact .inr rfl)) (mls_cons (s_set B (i := 7) rfl (by first | exact .inl rfl | exact .inr rfl) (e_call b (c_members_for_2 P w base T) (by decide) (ma_cons (me_tup (ma_cons (me_var rfl (by first | exact .inl rfl | exact .inr (.inl rfl) | exact .inr (.inr rfl))) (ma_cons (me_var rfl (by first | exact .inl rfl | exact .inr (.inl rfl) | exact .inr (.inr rfl))) (ma_cons (me_var rfl (by first | exact .inl rfl | exact .inr (.inl rfl) | exact .inr (.inr rfl))) (ma_nil))))) (ma_cons (me_var rfl (by first | exact .inl rfl | exact .inr (.inl rfl) | exact .inr (.inr rfl))) (ma_nil))))) <|
  mls_cons (ml_if (mt_ofW (mw_or (mt_not (t_val (e_call b (c__law_is_least_5 P w base T) (by decide) (ma_cons (me_var rfl (by first | exact .inl rfl | exact .inr (.inl rfl) | exact .inr (.inr rfl))) (ma_cons (me_var rfl (by first | exact .inl rfl | exact .inr (.inl rfl) | exact .inr (.inr rfl))) (ma_cons (me_var rfl (by first | exact .inl rfl | exact .inr (.inl rfl) | exact .inr (.inr rfl))) (ma_cons (me_var rfl (by first | exact .inl rfl | exact .inr (.inl rfl) | exact .inr (.inr rfl))) (ma_cons (me_var rfl (by first | exact .inl rfl | exact .inr (.inl rfl) | exact .inr (.inr rfl))) (ma_nil))))))))) (mw_or1 (t_ne b (e_repr b T.n_repr (ma_cons (e_callM b (cx_0 P w base T) (by decide) (ma_cons (me_lst (ma_cons (me_var rfl (by first | exact .inl rfl | exact .inr (.inl rfl) | exact .inr (.inr rfl))) (ma_cons (me_var rfl (by first | exact .inl rfl | exact .inr (.inl rfl) | exact .inr (.inr rfl))) (ma_cons (me_var rfl (by first | exact .inl rfl | exact .inr (.inl rfl) | exact .inr (.inr rfl))) (ma_nil))))) (ma_nil)) (mk_cons (me_var rfl (by first | exact .inl rfl | exact .inr (.inl rfl) | exact .inr (.inr rfl))) (mk_nil))) (ma_nil))) (e_repr b T.n_repr (ma_cons (me_var rfl (by first | exact .inl rfl | exact .inr (.inl rfl) | exact .inr (.inr rfl))) (ma_nil))))))) (mls_cons (ml_ret (me_bl)) <|
  mls_nil) (mls_nil)) <|
  mls_nil)) <|
  mls_cons (ml_if (mt_ofW (mw_and (t_eq b (me_var rfl (by first | exact .inl rfl | exact .inr (.inl rfl) | exact .inr (.inr rfl))) (me_int)) (mw_and1 (mt_not (t_val (e_call b (c__law_refused_right_3 P w base hz T) (by decide) (ma_obj (i := 1) rfl (by first | exact .inl rfl | exact .inr (.inl rfl) | exact .inr (.inr rfl)) (ma_cons (me_var rfl (by first | exact .inl rfl | exact .inr (.inl rfl) | exact .inr (.inr rfl))) (ma_cons (me_var rfl (by first | exact .inl rfl | exact .inr (.inl rfl) | exact .inr (.inr rfl))) (ma_nil)))))))))) (mls_cons (ml_ret (me_bl)) <|
  mls_nil) (mls_nil)) <|
  mls_nil)) <|
  mls_cons (ml_ret (e_eq b (e_repr b T.n_repr (ma_cons (me_lst (ma_cons (e_call b (c_members_for_2 P w base T) (by decide) (ma_cons (me_tup (ma_cons (me_int) (ma_cons (me_int) (ma_cons (me_bl) (ma_nil))))) (ma_cons (me_int) (ma_nil)))) (ma_cons (e_call b (c_members_for_2 P w base T) (by decide) (ma_cons (me_tup (ma_cons (me_int) (ma_cons (me_int) (ma_cons (me_bl) (ma_nil))))) (ma_cons (me_int) (ma_nil)))) (ma_cons (e_call b (c_members_for_2 P w base T) (by decide) (ma_cons (me_tup (ma_cons (me_int) (ma_cons (me_int) (ma_cons (me_bl) (ma_nil))))) (ma_cons (me_int) (ma_nil)))) (ma_cons (e_call b (c_members_for_2 P w base T) (by decide) (ma_cons (me_tup (ma_cons (me_int) (ma_cons (me_int) (ma_cons (me_bl) (ma_nil))))) (ma_cons (me_int) (ma_nil)))) (ma_nil)))))) (ma_nil))) (me_str))) <|
  mls_nil
end
/-! ### the facts, the end -/
theorem all_mk {l : PySem.W.OpenLaw} {w : World} {K : PySem.W.Frag} {h : Heap} {mg : Str → Option Value} {fa : Addr} (X : K.In h) (G : h.Ns mainGlobals mg) (hfa : mg "law" = some (.ref fa))
    {f_is_integer f_need_integer f_is_share f_least_members f_members_for f__law_pen f__law_draw f__law_pick f__law_great f__law_has f__law_is_least f__law_refused f__law_refused_right f_law t_need_integer c_RulesError c_BadValue c_BadNumber fi_BadValue fi_BadNumber cc__law_refused_right pp__law_refused_right : Addr}
    {od_is_integer an_is_integer od_need_integer an_need_integer od_is_share an_is_share od_least_members an_least_members od_members_for an_members_for od__law_pen an__law_pen od__law_draw an__law_draw od__law_pick an__law_pick od__law_great an__law_great od__law_has an__law_has od__law_is_least an__law_is_least od__law_refused an__law_refused od__law_refused_right an__law_refused_right od_law an_law odi_BadValue ani_BadValue xd_BadValue odi_BadNumber ani_BadNumber xd_BadNumber td_need_integer : Option Addr}
    {sl_is_integer sl_need_integer sl_is_share sl_least_members sl_members_for sl__law_pen sl__law_draw sl__law_pick sl__law_great sl__law_has sl__law_is_least sl__law_refused sl__law_refused_right sl_law sli_BadValue sli_BadNumber ts_need_integer : Array (Option Value)}
    {oc_is_integer kv_is_integer dc_is_integer pm_is_integer cd_is_integer ct_is_integer oc_need_integer kv_need_integer dc_need_integer pm_need_integer cd_need_integer ct_need_integer oc_is_share kv_is_share dc_is_share pm_is_share cd_is_share ct_is_share oc_least_members kv_least_members dc_least_members pm_least_members cd_least_members ct_least_members oc_members_for kv_members_for dc_members_for pm_members_for cd_members_for ct_members_for oc__law_pen kv__law_pen dc__law_pen pm__law_pen cd__law_pen ct__law_pen oc__law_draw kv__law_draw dc__law_draw pm__law_draw cd__law_draw ct__law_draw oc__law_pick kv__law_pick dc__law_pick pm__law_pick cd__law_pick ct__law_pick oc__law_great kv__law_great dc__law_great pm__law_great cd__law_great ct__law_great oc__law_has kv__law_has dc__law_has pm__law_has cd__law_has ct__law_has oc__law_is_least kv__law_is_least dc__law_is_least pm__law_is_least cd__law_is_least ct__law_is_least oc__law_refused kv__law_refused dc__law_refused pm__law_refused cd__law_refused ct__law_refused oc__law_refused_right kv__law_refused_right dc__law_refused_right pm__law_refused_right ct__law_refused_right oc_law kv_law dc_law pm_law cd_law ct_law oci_BadValue kvi_BadValue dci_BadValue pmi_BadValue cdi_BadValue cti_BadValue oci_BadNumber kvi_BadNumber dci_BadNumber pmi_BadNumber cdi_BadNumber cti_BadNumber tc_need_integer : Value}
    {tn_need_integer : Nat}
    {xn_BadValue xq_BadValue xn_BadNumber xq_BadNumber : Str}
    {xN_BadValue xN_BadNumber : Addr}
    {xb_BadValue xu_BadValue xb_BadNumber xu_BadNumber : List Value}
    {xs_BadValue xs_BadNumber : List Str}
    {xa_BadValue xa_BadNumber : Bool}
    {xc_BadValue xc_BadNumber : Option Bool}
    {x0_BadValue x1_BadValue x2_BadValue x3_BadValue x5_BadValue x0_BadNumber x1_BadNumber x2_BadNumber x3_BadNumber x5_BadNumber : Option Value}
    (g_RulesError : PySem.W.nsIn K mainGlobals "RulesError" = some (some (.ref c_RulesError)))
    (g_BadValue : PySem.W.nsIn K mainGlobals "BadValue" = some (some (.ref c_BadValue)))
    (g_BadNumber : PySem.W.nsIn K mainGlobals "BadNumber" = some (some (.ref c_BadNumber)))
    (a_is_integer : PySem.W.nsIn K mainGlobals "is_integer" = some (some (.ref f_is_integer)))
    (l_is_integer : K.lookup f_is_integer = some ⟨oc_is_integer, od_is_integer, .func (PySem.W.fnOf "is_integer" "is_integer" (defArgs st_is_integer) (defBody st_is_integer) (defScope st_is_integer) .none kv_is_integer dc_is_integer pm_is_integer an_is_integer cd_is_integer ct_is_integer), sl_is_integer⟩)
    (q_is_integer : PySem.W.codeIn K cd_is_integer "is_integer" = true)
    (k_is_integer : PySem.W.keepIn K (.ref f_is_integer) = true)
    (a_need_integer : PySem.W.nsIn K mainGlobals "need_integer" = some (some (.ref f_need_integer)))
    (l_need_integer : K.lookup f_need_integer = some ⟨oc_need_integer, od_need_integer, .func (PySem.W.fnOf "need_integer" "need_integer" (defArgs st_need_integer) (defBody st_need_integer) (defScope st_need_integer) (.ref t_need_integer) kv_need_integer dc_need_integer pm_need_integer an_need_integer cd_need_integer ct_need_integer), sl_need_integer⟩)
    (q_need_integer : PySem.W.codeIn K cd_need_integer "need_integer" = true)
    (k_need_integer : PySem.W.keepIn K (.ref f_need_integer) = true)
    (d_need_integer : K.lookup t_need_integer = some ⟨tc_need_integer, td_need_integer, .seq ([Value.none] : List Value).toArray tn_need_integer, ts_need_integer⟩)
    (a_is_share : PySem.W.nsIn K mainGlobals "is_share" = some (some (.ref f_is_share)))
    (l_is_share : K.lookup f_is_share = some ⟨oc_is_share, od_is_share, .func (PySem.W.fnOf "is_share" "is_share" (defArgs st_is_share) (defBody st_is_share) (defScope st_is_share) .none kv_is_share dc_is_share pm_is_share an_is_share cd_is_share ct_is_share), sl_is_share⟩)
    (q_is_share : PySem.W.codeIn K cd_is_share "is_share" = true)
    (k_is_share : PySem.W.keepIn K (.ref f_is_share) = true)
    (a_least_members : PySem.W.nsIn K mainGlobals "least_members" = some (some (.ref f_least_members)))
    (l_least_members : K.lookup f_least_members = some ⟨oc_least_members, od_least_members, .func (PySem.W.fnOf "least_members" "least_members" (defArgs st_least_members) (defBody st_least_members) (defScope st_least_members) .none kv_least_members dc_least_members pm_least_members an_least_members cd_least_members ct_least_members), sl_least_members⟩)
    (q_least_members : PySem.W.codeIn K cd_least_members "least_members" = true)
    (k_least_members : PySem.W.keepIn K (.ref f_least_members) = true)
    (a_members_for : PySem.W.nsIn K mainGlobals "members_for" = some (some (.ref f_members_for)))
    (l_members_for : K.lookup f_members_for = some ⟨oc_members_for, od_members_for, .func (PySem.W.fnOf "members_for" "members_for" (defArgs st_members_for) (defBody st_members_for) (defScope st_members_for) .none kv_members_for dc_members_for pm_members_for an_members_for cd_members_for ct_members_for), sl_members_for⟩)
    (q_members_for : PySem.W.codeIn K cd_members_for "members_for" = true)
    (k_members_for : PySem.W.keepIn K (.ref f_members_for) = true)
    (a__law_pen : PySem.W.nsIn K mainGlobals "_law_pen" = some (some (.ref f__law_pen)))
    (l__law_pen : K.lookup f__law_pen = some ⟨oc__law_pen, od__law_pen, .func (PySem.W.fnOf "_law_pen" "_law_pen" (defArgs st__law_pen) (defBody st__law_pen) (defScope st__law_pen) .none kv__law_pen dc__law_pen pm__law_pen an__law_pen cd__law_pen ct__law_pen), sl__law_pen⟩)
    (q__law_pen : PySem.W.codeIn K cd__law_pen "_law_pen" = true)
    (k__law_pen : PySem.W.keepIn K (.ref f__law_pen) = true)
    (a__law_draw : PySem.W.nsIn K mainGlobals "_law_draw" = some (some (.ref f__law_draw)))
    (l__law_draw : K.lookup f__law_draw = some ⟨oc__law_draw, od__law_draw, .func (PySem.W.fnOf "_law_draw" "_law_draw" (defArgs st__law_draw) (defBody st__law_draw) (defScope st__law_draw) .none kv__law_draw dc__law_draw pm__law_draw an__law_draw cd__law_draw ct__law_draw), sl__law_draw⟩)
    (q__law_draw : PySem.W.codeIn K cd__law_draw "_law_draw" = true)
    (k__law_draw : PySem.W.keepIn K (.ref f__law_draw) = true)
    (a__law_pick : PySem.W.nsIn K mainGlobals "_law_pick" = some (some (.ref f__law_pick)))
    (l__law_pick : K.lookup f__law_pick = some ⟨oc__law_pick, od__law_pick, .func (PySem.W.fnOf "_law_pick" "_law_pick" (defArgs st__law_pick) (defBody st__law_pick) (defScope st__law_pick) .none kv__law_pick dc__law_pick pm__law_pick an__law_pick cd__law_pick ct__law_pick), sl__law_pick⟩)
    (q__law_pick : PySem.W.codeIn K cd__law_pick "_law_pick" = true)
    (k__law_pick : PySem.W.keepIn K (.ref f__law_pick) = true)
    (a__law_great : PySem.W.nsIn K mainGlobals "_law_great" = some (some (.ref f__law_great)))
    (l__law_great : K.lookup f__law_great = some ⟨oc__law_great, od__law_great, .func (PySem.W.fnOf "_law_great" "_law_great" (defArgs st__law_great) (defBody st__law_great) (defScope st__law_great) .none kv__law_great dc__law_great pm__law_great an__law_great cd__law_great ct__law_great), sl__law_great⟩)
    (q__law_great : PySem.W.codeIn K cd__law_great "_law_great" = true)
    (k__law_great : PySem.W.keepIn K (.ref f__law_great) = true)
    (a__law_has : PySem.W.nsIn K mainGlobals "_law_has" = some (some (.ref f__law_has)))
    (l__law_has : K.lookup f__law_has = some ⟨oc__law_has, od__law_has, .func (PySem.W.fnOf "_law_has" "_law_has" (defArgs st__law_has) (defBody st__law_has) (defScope st__law_has) .none kv__law_has dc__law_has pm__law_has an__law_has cd__law_has ct__law_has), sl__law_has⟩)
    (q__law_has : PySem.W.codeIn K cd__law_has "_law_has" = true)
    (k__law_has : PySem.W.keepIn K (.ref f__law_has) = true)
    (a__law_is_least : PySem.W.nsIn K mainGlobals "_law_is_least" = some (some (.ref f__law_is_least)))
    (l__law_is_least : K.lookup f__law_is_least = some ⟨oc__law_is_least, od__law_is_least, .func (PySem.W.fnOf "_law_is_least" "_law_is_least" (defArgs st__law_is_least) (defBody st__law_is_least) (defScope st__law_is_least) .none kv__law_is_least dc__law_is_least pm__law_is_least an__law_is_least cd__law_is_least ct__law_is_least), sl__law_is_least⟩)
    (q__law_is_least : PySem.W.codeIn K cd__law_is_least "_law_is_least" = true)
    (k__law_is_least : PySem.W.keepIn K (.ref f__law_is_least) = true)
    (a__law_refused : PySem.W.nsIn K mainGlobals "_law_refused" = some (some (.ref f__law_refused)))
    (l__law_refused : K.lookup f__law_refused = some ⟨oc__law_refused, od__law_refused, .func (PySem.W.fnOf "_law_refused" "_law_refused" (defArgs st__law_refused) (defBody st__law_refused) (defScope st__law_refused) .none kv__law_refused dc__law_refused pm__law_refused an__law_refused cd__law_refused ct__law_refused), sl__law_refused⟩)
    (q__law_refused : PySem.W.codeIn K cd__law_refused "_law_refused" = true)
    (k__law_refused : PySem.W.keepIn K (.ref f__law_refused) = true)
    (a__law_refused_right : PySem.W.nsIn K mainGlobals "_law_refused_right" = some (some (.ref f__law_refused_right)))
    (l__law_refused_right : K.lookup f__law_refused_right = some ⟨oc__law_refused_right, od__law_refused_right, .func (PySem.W.fnOf "_law_refused_right" "_law_refused_right" (defArgs st__law_refused_right) (defBody st__law_refused_right) (defScope st__law_refused_right) .none kv__law_refused_right dc__law_refused_right pm__law_refused_right an__law_refused_right (.ref cc__law_refused_right) ct__law_refused_right), sl__law_refused_right⟩)
    (q__law_refused_right : PySem.W.codeIn K (.ref cc__law_refused_right) "_law_refused_right" = true)
    (tb__law_refused_right : PySem.W.tabIn K "_law_refused_right" = some (cc__law_refused_right, pp__law_refused_right))
    (tn__law_refused_right : K.lookup pp__law_refused_right = none)
    (k__law_refused_right : PySem.W.keepIn K (.ref f__law_refused_right) = true)
    (a_law : PySem.W.nsIn K mainGlobals "law" = some (some (.ref f_law)))
    (l_law : K.lookup f_law = some ⟨oc_law, od_law, .func (PySem.W.fnOf "law" "law" (defArgs st_law) (defBody st_law) (defScope st_law) .none kv_law dc_law pm_law an_law cd_law ct_law), sl_law⟩)
    (q_law : PySem.W.codeIn K cd_law "law" = true)
    (k_law : PySem.W.keepIn K (.ref f_law) = true)
    (nb_abs : PySem.W.nsIn K mainGlobals "abs" = some none)
    (nb_bool : PySem.W.nsIn K mainGlobals "bool" = some none)
    (nb_int : PySem.W.nsIn K mainGlobals "int" = some none)
    (nb_isinstance : PySem.W.nsIn K mainGlobals "isinstance" = some none)
    (nb_len : PySem.W.nsIn K mainGlobals "len" = some none)
    (nb_list : PySem.W.nsIn K mainGlobals "list" = some none)
    (nb_range : PySem.W.nsIn K mainGlobals "range" = some none)
    (nb_repr : PySem.W.nsIn K mainGlobals "repr" = some none)
    (nb_tuple : PySem.W.nsIn K mainGlobals "tuple" = some none)
    (x_BadValue : K.lookup c_BadValue = some (excClassObj xn_BadValue xq_BadValue c_BadValue xN_BadValue xb_BadValue [.ref c_RulesError, .type "ValueError", .type "Exception", .type "BaseException", .type "object"] true xs_BadValue xu_BadValue xa_BadValue xc_BadValue xd_BadValue x0_BadValue x1_BadValue x2_BadValue x3_BadValue x5_BadValue "ValueError.__new__"))
    (sa_BadValue : PySem.W.findIn K (.ref c_BadValue) "__setattr__" = some (some (.builtin "object.__setattr__")))
    (eb_BadValue : PySem.W.subIn K (.ref c_BadValue) (.type "BaseException") = some true)
    (ty_BadValue : PySem.W.typeIn K (.ref c_BadValue) = some (.type "type"))
    (kc_BadValue : PySem.W.keepIn K (.ref c_BadValue) = true)
    (ga_BadValue : PySem.W.findIn K (.ref c_BadValue) "__getattribute__" = some (some (.builtin "BaseException.__getattribute__")))
    (gg_BadValue : PySem.W.findIn K (.ref c_BadValue) "__getattr__" = some none)
    (hd_BadValue : PySem.W.hasDictIn K c_BadValue = true)
    (ca_BadValue : PySem.W.findIn K (.ref c_BadValue) "__class__" = some (some (.builtin "object.__class__")))
    (mo_BadValue : PySem.W.mroIn K c_BadValue (.type "object") = some true)
    (nf_BadValue_part : PySem.W.findIn K (.ref c_BadValue) "part" = some none)
    (ii_BadValue : PySem.W.findIn K (.ref c_BadValue) "__init__" = some (some (.ref fi_BadValue)))
    (it_BadValue : PySem.W.typeIn K (.ref fi_BadValue) = some (.type "function"))
    (il_BadValue : K.lookup fi_BadValue = some ⟨oci_BadValue, odi_BadValue, .func (PySem.W.fnOf "__init__" "BadValue.__init__" (defArgs st_i_BadValue) (defBody st_i_BadValue) (defScope st_i_BadValue) .none kvi_BadValue dci_BadValue pmi_BadValue ani_BadValue cdi_BadValue cti_BadValue), sli_BadValue⟩)
    (iq_BadValue : PySem.W.codeIn K cdi_BadValue "BadValue.__init__" = true)
    (ik_BadValue : PySem.W.keepIn K (.ref fi_BadValue) = true)
    (x_BadNumber : K.lookup c_BadNumber = some (excClassObj xn_BadNumber xq_BadNumber c_BadNumber xN_BadNumber xb_BadNumber [.ref c_RulesError, .type "ValueError", .type "Exception", .type "BaseException", .type "object"] true xs_BadNumber xu_BadNumber xa_BadNumber xc_BadNumber xd_BadNumber x0_BadNumber x1_BadNumber x2_BadNumber x3_BadNumber x5_BadNumber "ValueError.__new__"))
    (sa_BadNumber : PySem.W.findIn K (.ref c_BadNumber) "__setattr__" = some (some (.builtin "object.__setattr__")))
    (eb_BadNumber : PySem.W.subIn K (.ref c_BadNumber) (.type "BaseException") = some true)
    (ty_BadNumber : PySem.W.typeIn K (.ref c_BadNumber) = some (.type "type"))
    (kc_BadNumber : PySem.W.keepIn K (.ref c_BadNumber) = true)
    (ga_BadNumber : PySem.W.findIn K (.ref c_BadNumber) "__getattribute__" = some (some (.builtin "BaseException.__getattribute__")))
    (gg_BadNumber : PySem.W.findIn K (.ref c_BadNumber) "__getattr__" = some none)
    (hd_BadNumber : PySem.W.hasDictIn K c_BadNumber = true)
    (ca_BadNumber : PySem.W.findIn K (.ref c_BadNumber) "__class__" = some (some (.builtin "object.__class__")))
    (mo_BadNumber : PySem.W.mroIn K c_BadNumber (.type "object") = some true)
    (nf_BadNumber_part : PySem.W.findIn K (.ref c_BadNumber) "part" = some none)
    (ii_BadNumber : PySem.W.findIn K (.ref c_BadNumber) "__init__" = some (some (.ref fi_BadNumber)))
    (it_BadNumber : PySem.W.typeIn K (.ref fi_BadNumber) = some (.type "function"))
    (il_BadNumber : K.lookup fi_BadNumber = some ⟨oci_BadNumber, odi_BadNumber, .func (PySem.W.fnOf "__init__" "BadNumber.__init__" (defArgs st_i_BadNumber) (defBody st_i_BadNumber) (defScope st_i_BadNumber) .none kvi_BadNumber dci_BadNumber pmi_BadNumber ani_BadNumber cdi_BadNumber cti_BadNumber), sli_BadNumber⟩)
    (iq_BadNumber : PySem.W.codeIn K cdi_BadNumber "BadNumber.__init__" = true)
    (ik_BadNumber : PySem.W.keepIn K (.ref fi_BadNumber) = true)
    (oc_g : PySem.W.specialIn K (.builtin "object.__class__") "__get__" = some (some (.builtin "getset_descriptor.__get__")))
    (oc_t : PySem.W.takesIn K (.builtin "object.__class__") = some true)
    (eb_RulesError : PySem.W.subIn K (.ref c_RulesError) (.type "BaseException") = some true)
    (hd_RulesError : PySem.W.hasDictIn K c_RulesError = true)
    (ty_RulesError : PySem.W.typeIn K (.ref c_RulesError) = some (.type "type"))
    (xs_RulesError_BadValue : PySem.W.subIn K (.ref c_BadValue) (.ref c_RulesError) = some true)
    (xs_RulesError_BadNumber : PySem.W.subIn K (.ref c_BadNumber) (.ref c_RulesError) = some true)
    (is_int_b_NoneType : PySem.W.kitOne K (.type "NoneType") (.type "int") = some false)
    (is_int_b_bool : PySem.W.kitOne K (.type "bool") (.type "int") = some true)
    (is_int_b_int : PySem.W.kitOne K (.type "int") (.type "int") = some true)
    (is_int_b_str : PySem.W.kitOne K (.type "str") (.type "int") = some false)
    (is_int_b_tuple : PySem.W.kitOne K (.type "tuple") (.type "int") = some false)
    (is_int_b_list : PySem.W.kitOne K (.type "list") (.type "int") = some false)
    (is_int_b_dict : PySem.W.kitOne K (.type "dict") (.type "int") = some false)
    (is_int_x_BadValue : PySem.W.kitOne K (.ref c_BadValue) (.type "int") = some false)
    (is_int_x_BadNumber : PySem.W.kitOne K (.ref c_BadNumber) (.type "int") = some false)
    (is_bool_b_NoneType : PySem.W.kitOne K (.type "NoneType") (.type "bool") = some false)
    (is_bool_b_bool : PySem.W.kitOne K (.type "bool") (.type "bool") = some true)
    (is_bool_b_int : PySem.W.kitOne K (.type "int") (.type "bool") = some false)
    (is_bool_b_str : PySem.W.kitOne K (.type "str") (.type "bool") = some false)
    (is_bool_b_tuple : PySem.W.kitOne K (.type "tuple") (.type "bool") = some false)
    (is_bool_b_list : PySem.W.kitOne K (.type "list") (.type "bool") = some false)
    (is_bool_b_dict : PySem.W.kitOne K (.type "dict") (.type "bool") = some false)
    (is_bool_x_BadValue : PySem.W.kitOne K (.ref c_BadValue) (.type "bool") = some false)
    (is_bool_x_BadNumber : PySem.W.kitOne K (.ref c_BadNumber) (.type "bool") = some false)
    (is_list_tuple_b_NoneType : PySem.W.kitAny K (.type "NoneType") [.type "list", .type "tuple"] = some false)
    (is_list_tuple_b_bool : PySem.W.kitAny K (.type "bool") [.type "list", .type "tuple"] = some false)
    (is_list_tuple_b_int : PySem.W.kitAny K (.type "int") [.type "list", .type "tuple"] = some false)
    (is_list_tuple_b_str : PySem.W.kitAny K (.type "str") [.type "list", .type "tuple"] = some false)
    (is_list_tuple_b_tuple : PySem.W.kitAny K (.type "tuple") [.type "list", .type "tuple"] = some true)
    (is_list_tuple_b_list : PySem.W.kitAny K (.type "list") [.type "list", .type "tuple"] = some true)
    (is_list_tuple_b_dict : PySem.W.kitAny K (.type "dict") [.type "list", .type "tuple"] = some false)
    (is_list_tuple_x_BadValue : PySem.W.kitAny K (.ref c_BadValue) [.type "list", .type "tuple"] = some false)
    (is_list_tuple_x_BadNumber : PySem.W.kitAny K (.ref c_BadNumber) [.type "list", .type "tuple"] = some false)
    (is_BadValue_b_NoneType : PySem.W.kitOne K (.type "NoneType") (.ref c_BadValue) = some false)
    (is_BadValue_b_bool : PySem.W.kitOne K (.type "bool") (.ref c_BadValue) = some false)
    (is_BadValue_b_int : PySem.W.kitOne K (.type "int") (.ref c_BadValue) = some false)
    (is_BadValue_b_str : PySem.W.kitOne K (.type "str") (.ref c_BadValue) = some false)
    (is_BadValue_b_tuple : PySem.W.kitOne K (.type "tuple") (.ref c_BadValue) = some false)
    (is_BadValue_b_list : PySem.W.kitOne K (.type "list") (.ref c_BadValue) = some false)
    (is_BadValue_b_dict : PySem.W.kitOne K (.type "dict") (.ref c_BadValue) = some false)
    (is_BadValue_x_BadValue : PySem.W.kitOne K (.ref c_BadValue) (.ref c_BadValue) = some true)
    (is_BadValue_x_BadNumber : PySem.W.kitOne K (.ref c_BadNumber) (.ref c_BadValue) = some false)
    (is_BadNumber_b_NoneType : PySem.W.kitOne K (.type "NoneType") (.ref c_BadNumber) = some false)
    (is_BadNumber_b_bool : PySem.W.kitOne K (.type "bool") (.ref c_BadNumber) = some false)
    (is_BadNumber_b_int : PySem.W.kitOne K (.type "int") (.ref c_BadNumber) = some false)
    (is_BadNumber_b_str : PySem.W.kitOne K (.type "str") (.ref c_BadNumber) = some false)
    (is_BadNumber_b_tuple : PySem.W.kitOne K (.type "tuple") (.ref c_BadNumber) = some false)
    (is_BadNumber_b_list : PySem.W.kitOne K (.type "list") (.ref c_BadNumber) = some false)
    (is_BadNumber_b_dict : PySem.W.kitOne K (.type "dict") (.ref c_BadNumber) = some false)
    (is_BadNumber_x_BadValue : PySem.W.kitOne K (.ref c_BadValue) (.ref c_BadNumber) = some false)
    (is_BadNumber_x_BadNumber : PySem.W.kitOne K (.ref c_BadNumber) (.ref c_BadNumber) = some true)
    : ∃ (fd : FuncData) (CL : Nat → Addr) (cs : List (Addr × Addr)), Md.TabsOf K ["_law_refused_right"] cs ∧ (∀ (s : Shared) (u : Value), BindsTo s fd ⟨[u], []⟩ [("script", u)]) ∧ ∀ base : Heap, K.In base → base.Ns mainGlobals mg → (∀ p ∈ cs, LamX.TabB base mg p.1 p.2) → FnG l.prog w K mg base 8 fa fd ["script"] (spF ⟨CL, K, Md.lamT ["_law_refused_right"] cs, none⟩ 1 sem_law) := by
  have e := hfa.symm.trans (PySem.W.mg_of X G a_law)
  cases e
  have F : FunD K "law" "law" (defArgs st_law) (defBody st_law) (defScope st_law) [] [] fa (PySem.W.fnOf "law" "law" (defArgs st_law) (defBody st_law) (defScope st_law) .none kv_law dc_law pm_law an_law (cd_law) ct_law) := ⟨⟨_, _, _, _, _, _, _, _, _, _, rfl, l_law, q_law, .inl ⟨rfl, rfl⟩, .inl rfl⟩, k_law⟩
  refine ⟨_, fun i => match i with | 0 => c_RulesError | 1 => c_BadValue | 2 => c_BadNumber | _ => 0, [(cc__law_refused_right, pp__law_refused_right)], ⟨tb__law_refused_right, tn__law_refused_right, trivial⟩, fun s u => F.bindsA (ps := ["script"]) (fun _ _ _ _ _ _ us hl => match us, hl with | [_], _ => rfl) s [u] rfl, fun base _ _ TB => ?_⟩
  have T : Txt ⟨(fun i => match i with | 0 => c_RulesError | 1 => c_BadValue | 2 => c_BadNumber | _ => 0), K, Md.lamT ["_law_refused_right"] [(cc__law_refused_right, pp__law_refused_right)], none⟩ mg base := {
    n_abs := PySem.W.mg_none_of X G nb_abs
    n_bool := PySem.W.mg_none_of X G nb_bool
    n_int := PySem.W.mg_none_of X G nb_int
    n_isinstance := PySem.W.mg_none_of X G nb_isinstance
    n_len := PySem.W.mg_none_of X G nb_len
    n_list := PySem.W.mg_none_of X G nb_list
    n_range := PySem.W.mg_none_of X G nb_range
    n_repr := PySem.W.mg_none_of X G nb_repr
    n_tuple := PySem.W.mg_none_of X G nb_tuple
    m_RulesError := PySem.W.mg_of X G g_RulesError
    m_BadValue := PySem.W.mg_of X G g_BadValue
    m_BadNumber := PySem.W.mg_of X G g_BadNumber
    o_BadValue := ⟨⟨_, _, _, _, _, _, _, _, _, _, _, _, _, _, _, x_BadValue, (show PySem.HandSPX.refsVE [.type "ValueError", .type "Exception", .type "BaseException", .type "object"] = true by decide +kernel)⟩, sa_BadValue, eb_BadValue, ty_BadValue, kc_BadValue⟩
    e_BadValue := ⟨ga_BadValue, gg_BadValue, eb_BadValue, hd_BadValue, ca_BadValue, oc_g, oc_t, mo_BadValue⟩
    nf_BadValue_part := nf_BadValue_part
    i_BadValue := ⟨_, _, ii_BadValue, it_BadValue, fun_mk (st := st_i_BadValue) il_BadValue iq_BadValue ik_BadValue⟩
    o_BadNumber := ⟨⟨_, _, _, _, _, _, _, _, _, _, _, _, _, _, _, x_BadNumber, (show PySem.HandSPX.refsVE [.type "ValueError", .type "Exception", .type "BaseException", .type "object"] = true by decide +kernel)⟩, sa_BadNumber, eb_BadNumber, ty_BadNumber, kc_BadNumber⟩
    e_BadNumber := ⟨ga_BadNumber, gg_BadNumber, eb_BadNumber, hd_BadNumber, ca_BadNumber, oc_g, oc_t, mo_BadNumber⟩
    nf_BadNumber_part := nf_BadNumber_part
    i_BadNumber := ⟨_, _, ii_BadNumber, it_BadNumber, fun_mk (st := st_i_BadNumber) il_BadNumber iq_BadNumber ik_BadNumber⟩
    is_int := ⟨⟨trivial, is_int_b_NoneType⟩, ⟨trivial, is_int_b_bool⟩, ⟨trivial, is_int_b_int⟩, ⟨trivial, is_int_b_str⟩, ⟨trivial, is_int_b_tuple⟩, ⟨trivial, is_int_b_list⟩, ⟨trivial, is_int_b_dict⟩, ⟨⟨ga_BadValue, gg_BadValue, eb_BadValue, hd_BadValue, ca_BadValue, oc_g, oc_t, mo_BadValue⟩, is_int_x_BadValue⟩, ⟨⟨ga_BadNumber, gg_BadNumber, eb_BadNumber, hd_BadNumber, ca_BadNumber, oc_g, oc_t, mo_BadNumber⟩, is_int_x_BadNumber⟩, trivial⟩
    is_bool := ⟨⟨trivial, is_bool_b_NoneType⟩, ⟨trivial, is_bool_b_bool⟩, ⟨trivial, is_bool_b_int⟩, ⟨trivial, is_bool_b_str⟩, ⟨trivial, is_bool_b_tuple⟩, ⟨trivial, is_bool_b_list⟩, ⟨trivial, is_bool_b_dict⟩, ⟨⟨ga_BadValue, gg_BadValue, eb_BadValue, hd_BadValue, ca_BadValue, oc_g, oc_t, mo_BadValue⟩, is_bool_x_BadValue⟩, ⟨⟨ga_BadNumber, gg_BadNumber, eb_BadNumber, hd_BadNumber, ca_BadNumber, oc_g, oc_t, mo_BadNumber⟩, is_bool_x_BadNumber⟩, trivial⟩
    is_list_tuple := ⟨⟨trivial, is_list_tuple_b_NoneType⟩, ⟨trivial, is_list_tuple_b_bool⟩, ⟨trivial, is_list_tuple_b_int⟩, ⟨trivial, is_list_tuple_b_str⟩, ⟨trivial, is_list_tuple_b_tuple⟩, ⟨trivial, is_list_tuple_b_list⟩, ⟨trivial, is_list_tuple_b_dict⟩, ⟨⟨ga_BadValue, gg_BadValue, eb_BadValue, hd_BadValue, ca_BadValue, oc_g, oc_t, mo_BadValue⟩, is_list_tuple_x_BadValue⟩, ⟨⟨ga_BadNumber, gg_BadNumber, eb_BadNumber, hd_BadNumber, ca_BadNumber, oc_g, oc_t, mo_BadNumber⟩, is_list_tuple_x_BadNumber⟩, trivial⟩
    is_BadValue := ⟨⟨trivial, is_BadValue_b_NoneType⟩, ⟨trivial, is_BadValue_b_bool⟩, ⟨trivial, is_BadValue_b_int⟩, ⟨trivial, is_BadValue_b_str⟩, ⟨trivial, is_BadValue_b_tuple⟩, ⟨trivial, is_BadValue_b_list⟩, ⟨trivial, is_BadValue_b_dict⟩, ⟨⟨ga_BadValue, gg_BadValue, eb_BadValue, hd_BadValue, ca_BadValue, oc_g, oc_t, mo_BadValue⟩, is_BadValue_x_BadValue⟩, ⟨⟨ga_BadNumber, gg_BadNumber, eb_BadNumber, hd_BadNumber, ca_BadNumber, oc_g, oc_t, mo_BadNumber⟩, is_BadValue_x_BadNumber⟩, trivial⟩
    is_BadNumber := ⟨⟨trivial, is_BadNumber_b_NoneType⟩, ⟨trivial, is_BadNumber_b_bool⟩, ⟨trivial, is_BadNumber_b_int⟩, ⟨trivial, is_BadNumber_b_str⟩, ⟨trivial, is_BadNumber_b_tuple⟩, ⟨trivial, is_BadNumber_b_list⟩, ⟨trivial, is_BadNumber_b_dict⟩, ⟨⟨ga_BadValue, gg_BadValue, eb_BadValue, hd_BadValue, ca_BadValue, oc_g, oc_t, mo_BadValue⟩, is_BadNumber_x_BadValue⟩, ⟨⟨ga_BadNumber, gg_BadNumber, eb_BadNumber, hd_BadNumber, ca_BadNumber, oc_g, oc_t, mo_BadNumber⟩, is_BadNumber_x_BadNumber⟩, trivial⟩
    at_a_part := ⟨⟨⟨ga_BadValue, gg_BadValue, eb_BadValue, hd_BadValue, ca_BadValue, oc_g, oc_t, mo_BadValue⟩, nf_BadValue_part⟩, ⟨⟨ga_BadNumber, gg_BadNumber, eb_BadNumber, hd_BadNumber, ca_BadNumber, oc_g, oc_t, mo_BadNumber⟩, nf_BadNumber_part⟩, trivial⟩
    xm_RulesError := ⟨PySem.W.exm_ref eb_RulesError hd_RulesError ty_RulesError xs_RulesError_BadValue, PySem.W.exm_ref eb_RulesError hd_RulesError ty_RulesError xs_RulesError_BadNumber, trivial⟩
    h_is_integer := ⟨_, _, PySem.W.mg_of X G a_is_integer, k_is_integer, ⟨_, _, _, _, _, _, _, _, _, _, rfl, l_is_integer, q_is_integer, .inl ⟨rfl, rfl⟩, .inl rfl⟩, k_is_integer⟩
    h_need_integer := ⟨_, _, PySem.W.mg_of X G a_need_integer, k_need_integer, ⟨_, _, _, _, _, _, _, _, _, _, rfl, l_need_integer, q_need_integer, .inr ⟨by simp, _, _, _, _, rfl, d_need_integer, rfl, .cons rfl (.nil)⟩, .inl rfl⟩, k_need_integer⟩
    h_is_share := ⟨_, _, PySem.W.mg_of X G a_is_share, k_is_share, ⟨_, _, _, _, _, _, _, _, _, _, rfl, l_is_share, q_is_share, .inl ⟨rfl, rfl⟩, .inl rfl⟩, k_is_share⟩
    h_least_members := ⟨_, _, PySem.W.mg_of X G a_least_members, k_least_members, ⟨_, _, _, _, _, _, _, _, _, _, rfl, l_least_members, q_least_members, .inl ⟨rfl, rfl⟩, .inl rfl⟩, k_least_members⟩
    h_members_for := ⟨_, _, PySem.W.mg_of X G a_members_for, k_members_for, ⟨_, _, _, _, _, _, _, _, _, _, rfl, l_members_for, q_members_for, .inl ⟨rfl, rfl⟩, .inl rfl⟩, k_members_for⟩
    h__law_pen := ⟨_, _, PySem.W.mg_of X G a__law_pen, k__law_pen, ⟨_, _, _, _, _, _, _, _, _, _, rfl, l__law_pen, q__law_pen, .inl ⟨rfl, rfl⟩, .inl rfl⟩, k__law_pen⟩
    h__law_draw := ⟨_, _, PySem.W.mg_of X G a__law_draw, k__law_draw, ⟨_, _, _, _, _, _, _, _, _, _, rfl, l__law_draw, q__law_draw, .inl ⟨rfl, rfl⟩, .inl rfl⟩, k__law_draw⟩
    h__law_pick := ⟨_, _, PySem.W.mg_of X G a__law_pick, k__law_pick, ⟨_, _, _, _, _, _, _, _, _, _, rfl, l__law_pick, q__law_pick, .inl ⟨rfl, rfl⟩, .inl rfl⟩, k__law_pick⟩
    h__law_great := ⟨_, _, PySem.W.mg_of X G a__law_great, k__law_great, ⟨_, _, _, _, _, _, _, _, _, _, rfl, l__law_great, q__law_great, .inl ⟨rfl, rfl⟩, .inl rfl⟩, k__law_great⟩
    h__law_has := ⟨_, _, PySem.W.mg_of X G a__law_has, k__law_has, ⟨_, _, _, _, _, _, _, _, _, _, rfl, l__law_has, q__law_has, .inl ⟨rfl, rfl⟩, .inl rfl⟩, k__law_has⟩
    h__law_is_least := ⟨_, _, PySem.W.mg_of X G a__law_is_least, k__law_is_least, ⟨_, _, _, _, _, _, _, _, _, _, rfl, l__law_is_least, q__law_is_least, .inl ⟨rfl, rfl⟩, .inl rfl⟩, k__law_is_least⟩
    h__law_refused := ⟨_, _, PySem.W.mg_of X G a__law_refused, k__law_refused, ⟨_, _, _, _, _, _, _, _, _, _, rfl, l__law_refused, q__law_refused, .inl ⟨rfl, rfl⟩, .inl rfl⟩, k__law_refused⟩
    h__law_refused_right := ⟨_, _, PySem.W.mg_of X G a__law_refused_right, k__law_refused_right, ⟨_, _, _, _, _, _, _, _, _, _, rfl, l__law_refused_right, q__law_refused_right, .inl ⟨rfl, rfl⟩, .inl rfl⟩, k__law_refused_right⟩
    h_law := ⟨_, _, PySem.W.mg_of X G a_law, k_law, ⟨_, _, _, _, _, _, _, _, _, _, rfl, l_law, q_law, .inl ⟨rfl, rfl⟩, .inl rfl⟩, k_law⟩
    lb__law_refused_right := ⟨_, _, _, PySem.W.mg_of X G a__law_refused_right, ⟨_, _, _, _, l__law_refused_right, rfl⟩, .head _, fun q hq e => by simp only [Md.lamT, List.mem_cons, List.not_mem_nil, or_false] at hq; rcases hq with rfl <;> first | rfl | (exfalso; revert e; exact fun e => by simp at e), TB _ (.head _)⟩
  }
  obtain ⟨f', fd', h1', h2', h3', F'⟩ := fg_law l.prog w base rfl T
  have e := (PySem.W.mg_of X G a_law).symm.trans h1'
  cases e
  have e2 := fd_uniq F' F
  rw [← e2]
  exact h3'
end Lw

namespace Lw
open PySem PySem.Spec PyProof.Rows L2 Md
section
variable {b : Bool} {n : Int} {x : Str} {ds : List D} {kv : List (Key × D)} {fs : List (Str × D)}
theorem ti_int_non : dIsi tab_int .non = some (.bl false) := rfl
theorem ti_int_bl : dIsi tab_int (.bl b) = some (.bl true) := rfl
theorem ti_int_int : dIsi tab_int (.int n) = some (.bl true) := rfl
theorem ti_int_str : dIsi tab_int (.str x) = some (.bl false) := rfl
theorem ti_int_tup : dIsi tab_int (.tup ds) = some (.bl false) := rfl
theorem ti_int_lst : dIsi tab_int (.lst ds) = some (.bl false) := rfl
theorem ti_int_dk : dIsi tab_int (.dk kv) = some (.bl false) := rfl
theorem ti_int_x1 : dIsi tab_int (.exc 1 fs) = some (.bl false) := rfl
theorem ti_int_x2 : dIsi tab_int (.exc 2 fs) = some (.bl false) := rfl
theorem ti_bool_non : dIsi tab_bool .non = some (.bl false) := rfl
theorem ti_bool_bl : dIsi tab_bool (.bl b) = some (.bl true) := rfl
theorem ti_bool_int : dIsi tab_bool (.int n) = some (.bl false) := rfl
theorem ti_bool_str : dIsi tab_bool (.str x) = some (.bl false) := rfl
theorem ti_bool_tup : dIsi tab_bool (.tup ds) = some (.bl false) := rfl
theorem ti_bool_lst : dIsi tab_bool (.lst ds) = some (.bl false) := rfl
theorem ti_bool_dk : dIsi tab_bool (.dk kv) = some (.bl false) := rfl
theorem ti_bool_x1 : dIsi tab_bool (.exc 1 fs) = some (.bl false) := rfl
theorem ti_bool_x2 : dIsi tab_bool (.exc 2 fs) = some (.bl false) := rfl
theorem ti_list_tuple_non : dIsi tab_list_tuple .non = some (.bl false) := rfl
theorem ti_list_tuple_bl : dIsi tab_list_tuple (.bl b) = some (.bl false) := rfl
theorem ti_list_tuple_int : dIsi tab_list_tuple (.int n) = some (.bl false) := rfl
theorem ti_list_tuple_str : dIsi tab_list_tuple (.str x) = some (.bl false) := rfl
theorem ti_list_tuple_tup : dIsi tab_list_tuple (.tup ds) = some (.bl true) := rfl
theorem ti_list_tuple_lst : dIsi tab_list_tuple (.lst ds) = some (.bl true) := rfl
theorem ti_list_tuple_dk : dIsi tab_list_tuple (.dk kv) = some (.bl false) := rfl
theorem ti_list_tuple_x1 : dIsi tab_list_tuple (.exc 1 fs) = some (.bl false) := rfl
theorem ti_list_tuple_x2 : dIsi tab_list_tuple (.exc 2 fs) = some (.bl false) := rfl
theorem ti_BadValue_non : dIsi tab_BadValue .non = some (.bl false) := rfl
theorem ti_BadValue_bl : dIsi tab_BadValue (.bl b) = some (.bl false) := rfl
theorem ti_BadValue_int : dIsi tab_BadValue (.int n) = some (.bl false) := rfl
theorem ti_BadValue_str : dIsi tab_BadValue (.str x) = some (.bl false) := rfl
theorem ti_BadValue_tup : dIsi tab_BadValue (.tup ds) = some (.bl false) := rfl
theorem ti_BadValue_lst : dIsi tab_BadValue (.lst ds) = some (.bl false) := rfl
theorem ti_BadValue_dk : dIsi tab_BadValue (.dk kv) = some (.bl false) := rfl
theorem ti_BadValue_x1 : dIsi tab_BadValue (.exc 1 fs) = some (.bl true) := rfl
theorem ti_BadValue_x2 : dIsi tab_BadValue (.exc 2 fs) = some (.bl false) := rfl
theorem ti_BadNumber_non : dIsi tab_BadNumber .non = some (.bl false) := rfl
theorem ti_BadNumber_bl : dIsi tab_BadNumber (.bl b) = some (.bl false) := rfl
theorem ti_BadNumber_int : dIsi tab_BadNumber (.int n) = some (.bl false) := rfl
theorem ti_BadNumber_str : dIsi tab_BadNumber (.str x) = some (.bl false) := rfl
theorem ti_BadNumber_tup : dIsi tab_BadNumber (.tup ds) = some (.bl false) := rfl
theorem ti_BadNumber_lst : dIsi tab_BadNumber (.lst ds) = some (.bl false) := rfl
theorem ti_BadNumber_dk : dIsi tab_BadNumber (.dk kv) = some (.bl false) := rfl
theorem ti_BadNumber_x1 : dIsi tab_BadNumber (.exc 1 fs) = some (.bl false) := rfl
theorem ti_BadNumber_x2 : dIsi tab_BadNumber (.exc 2 fs) = some (.bl true) := rfl
theorem ta_part_x1 : dAt tab_a_part "part" (.exc 1 fs) = fs.lookup ("part" : Str) := v_atx (by decide)
theorem ta_part_x2 : dAt tab_a_part "part" (.exc 2 fs) = fs.lookup ("part" : Str) := v_atx (by decide)
theorem tx_RulesError_1 : xtab_RulesError.lookup 1 = some true := rfl
theorem tx_RulesError_2 : xtab_RulesError.lookup 2 = some true := rfl
end
end Lw

namespace Lw
open PySem PySem.Spec PyProof.Rows L2 Md
def pen (cs : List Int) (t r : Int) : OO := .lst [.lst (cs.map D.int), .int t, .int r]
theorem m_ok {i j : Int} (h : 0 < j) : dMod (.int i) (.int j) = some (.int (i % j)) := by simp only [dMod, h, if_true]
theorem f_ok {i j : Int} (h : 0 < j) (h2 : j < 2 ^ 4000) : dFloorDiv (.int i) (.int j) = some (.int (i / j)) := by
  have : CDivW i j := wide_div (b := 4000) h (by omega) (by decide) (by decide)
  simp only [dFloorDiv, this, if_true]
theorem x_ok {i j : Int} (h : -(2 ^ 64) < i ∧ i < 2 ^ 64 ∨ -(2 ^ 64) < j ∧ j < 2 ^ 64) : dMul (.int i) (.int j) = some (.int (i * j)) := by
  have : CMulW i j ∨ CMul i j := .inr h
  simp only [dMul, this, if_true]
theorem p_ok {i j : Int} (h0 : 0 ≤ j) (h1 : j ≤ 1000000) (h2 : i.natAbs < 2 ^ 64) : dPow (.int i) (.int j) = some (.int (i ^ j.toNat)) := by
  have : CPow i j := ⟨h0, h1, h2⟩
  simp only [dPow, this, if_true]
theorem a_ok {i j : Int} : dAdd (.int i) (.int j) = some (.int (i + j)) := rfl
theorem s_ok {i j : Int} : dSub (.int i) (.int j) = some (.int (i - j)) := rfl
theorem gt_ok {i j : Int} : dGt (.int i) (.int j) = some (.bl (decide (j < i))) := rfl
theorem lt_ok {i j : Int} : dLt (.int i) (.int j) = some (.bl (decide (i < j))) := rfl
theorem ge_ok {i j : Int} : dGe (.int i) (.int j) = some (.bl (decide (j ≤ i))) := rfl
theorem le_ok {i j : Int} : dLe (.int i) (.int j) = some (.bl (decide (i ≤ j))) := rfl
theorem i_ok {i : Int} : bInt [.int i] = some (.int i) := rfl
theorem ib_ok {k : Bool} : bInt [.bl k] = some (.int (if k then 1 else 0)) := rfl
theorem at0 {x : D} {r : List D} : atI (x :: r) 0 = some x := by
  unfold atI ixN
  rw [if_pos (by decide), if_pos (by simp only [List.length_cons]; omega)]
  rfl
theorem at1 {x y : D} {r : List D} : atI (x :: y :: r) 1 = some y := by
  unfold atI ixN
  rw [if_pos (by decide), if_pos (by simp only [List.length_cons]; omega)]
  rfl
theorem at2 {x y z : D} {r : List D} : atI (x :: y :: z :: r) 2 = some z := by
  unfold atI ixN
  rw [if_pos (by decide), if_pos (by simp only [List.length_cons]; omega)]
  rfl
theorem n1 : ixN 3 1 = some 1 := rfl
theorem n2 : ixN 3 2 = some 2 := rfl
theorem pu1 {i : Nat} {s : Slot} {x y z v : D} {e : En} : puO (some (s, [x, y, z])) i (.int 1) v e = .nx (e.set i (s.put (.lst [x, v, z]))) := v_puO (j := 1) rfl
theorem pu2 {i : Nat} {s : Slot} {x y z v : D} {e : En} : puO (some (s, [x, y, z])) i (.int 2) v e = .nx (e.set i (s.put (.lst [x, y, v]))) := v_puO (j := 2) rfl
theorem py_ints : ∀ cs : List Int, pyAll (cs.map D.int) = some (cs.map PyData.int)
  | [] => rfl
  | c :: cs => by rw [List.map_cons, pyAll, py_ints cs]; rfl
theorem lay_ints : ∀ cs : List Int, PyData.canLayAll0 (cs.map PyData.int) = true
  | [] => rfl
  | c :: cs => by rw [List.map_cons, PyData.canLayAll0, lay_ints cs]; rfl
theorem dep_ints : ∀ cs : List Int, PyData.depthAll (cs.map PyData.int) = 0
  | [] => rfl
  | c :: cs => by rw [List.map_cons, PyData.depthAll, dep_ints cs]; rfl
theorem shp_ints (cs : List Int) : SeqAt.shaped (.list (cs.map PyData.int)) = true := by
  unfold SeqAt.shaped
  rw [PyData.canLay0, lay_ints, PyData.depth, dep_ints]
  rfl
theorem ne_nil (cs : List Int) : dNe (.lst (cs.map D.int)) (.lst []) = some (.bl (!cs.isEmpty)) := by
  have h : dEqB (.lst (cs.map D.int)) (.lst []) = some cs.isEmpty := by
    show dEqP (.lst (cs.map D.int)) (.lst []) = _
    unfold dEqP
    rw [D.py, py_ints, D.py, pyAll]
    simp only [Option.map_some, Option.bind_some]
    rw [if_pos ⟨shp_ints cs, by rfl⟩]
    cases cs <;> rfl
  unfold dNe
  rw [h]
  rfl
theorem len_ints (cs : List Int) : bLen [.lst (cs.map D.int)] = some (.int cs.length) := by
  show some (D.int ((cs.map D.int).length : Int)) = _
  rw [List.length_map]
theorem abs_ok {i : Int} : bAbs [.int i] = some (.int (if i < 0 then -i else i)) := rfl
theorem ix_ints {cs : List Int} {k : Int} (h0 : 0 ≤ k) (h1 : k < cs.length) : ∃ c, dIx (.lst (cs.map D.int)) (.int k) = some (.int c) := by
  have hk : k.toNat < cs.length := by omega
  refine ⟨cs[k.toNat], ?_⟩
  show atI (cs.map D.int) k = _
  unfold atI ixN
  rw [if_pos h0, List.length_map, if_pos h1, Option.bind_some, List.getElem?_map, List.getElem?_eq_getElem hk]
  rfl
abbrev En7 (cs : List Int) (t r many c : Int) : En := [.io (pen cs (t + 1) r), .dat (.int many), .dat (.int t), .dat (.int c), .unk, .unk, .unk]
theorem draw_i2 (cs : List Int) (t r many c0 : Int) (ht : 0 ≤ t) : ∃ c, b__law_draw_i2 (En7 cs t r many c0) = .nx (En7 cs t r many c) := by
  by_cases hc : cs = []
  · subst hc
    refine ⟨c0, ?_⟩
    have e : dNe (.lst (([] : List Int).map D.int)) (.lst []) = some (.bl false) := ne_nil []
    rw [List.map_nil] at e
    simp only [sem__law_draw, b__law_draw, b__law_draw_s1, b__law_draw_s2, b__law_draw_s3, b__law_draw_s4, b__law_draw_s5, b__law_draw_s6, b__law_draw_s7, b__law_draw_s8, b__law_draw_s9, b__law_draw_s10, b__law_draw_s11, b__law_draw_s12, b__law_draw_i2, En7, pen, Md.v_seq, Md.v_nx, Md.v_rt, Md.v_bk, Md.v_ct, Md.v_ex, Md.v_ok, Md.v_bx, Md.v_to, Md.v_tx, Md.v_oR, Md.v_sR, Md.v_var, Md.v_k, Md.v_op2, Md.v_k2, Md.v_k3, Md.v_op1, Md.v_k1, Md.v_bR, Md.v_bool, Md.v_not, Md.v_knot, Md.v_and, Md.v_and1, Md.v_and0, Md.v_or, Md.v_or1, Md.v_or0, Md.v_nR, Md.v_notV, Md.v_aR1, Md.v_aR0, Md.v_andV, Md.v_orR1, Md.v_orR0, Md.v_orV, Md.v_if, Md.v_if1, Md.v_if0, Md.v_anil, Md.v_acons, Md.v_kac, Md.v_kad, Md.v_ob1, Md.v_ob2, Md.v_aobj, Md.v_ds0, Md.v_ds1, Md.v_ds2, Md.v_ds3, Md.v_ds4, Md.v_ds5, Md.v_ds6, Md.v_dsg, Md.v_dso, Md.v_dat0, Md.v_datc, Md.v_dco, Md.v_tup, Md.v_lst, Md.v_new, Md.v_tup1, Md.v_tup2, Md.v_tup3, Md.v_blR, Md.v_cb, Md.v_cb1, Md.v_cb2, Md.v_slR, Md.v_call, Md.v_cd1, Md.v_cd2, Md.v_ca0, Md.v_ca1, Md.v_ca2, Md.v_ca3, Md.v_ca4, Md.v_ci1, Md.v_ci2, Md.v_ciS, Md.v_ci_0, Md.v_ci_1, Md.v_ci_2, Md.v_io1, Md.v_io2, Md.v_put, Md.v_pu1, Md.v_pu2, Md.v_st1, Md.v_st2, Md.v_st3, Md.v_setE, Md.v_nxO, Md.v_set, Md.v_kset, Md.v_snew, Md.v_knew, Md.v_expr, Md.v_kex, Md.v_ret, Md.v_kret, Md.v_retN, Md.v_nil, Md.v_sif, Md.v_if_t, Md.v_if_f, Md.v_fr, Md.v_freeze, Md.v_la1, Md.v_la2, Md.v_lst_at, Md.v_ixR, Md.v_ixO, Md.v_gix, Md.v_kix, Md.v_leR, Md.v_lenO, Md.v_sput, Md.v_kpu, Md.v_gpu, Md.v_kpv, Md.v_gme, Md.v_kme, Md.v_meth, Md.v_raise, Md.v_ra1, Md.v_ra2, Md.v_par, Md.v_pa, Md.v_pa2, Md.v_tryK, Md.v_tk1, Md.v_tk2', Md.v_run, Md.v_ru1, Md.v_ru2, Md.v_ru3, Md.v_ou0, Md.v_ou1, Md.v_ou2, Md.v_it, Md.v_it1, Md.v_it2, Md.v_r1, Md.v_for, Md.v_kfo, Md.v_m1, Md.v_m1R, Md.v_m1S, Md.v_ifB, Md.v_ifB1, Md.v_ifB0, Md.v_mkD, Md.v_mkX, Md.v_make, Md.v_makeK, Md.v_mkG, Md.v_fldS, Md.v_fsR, Md.v_ins0, Md.v_fld, Md.v_its, Md.v_lc, Md.v_lcR, Md.v_lcEnd, Md.v_ofNew, Md.v_ofR, Md.v_chain, Md.v_ch1, Md.v_chY, Md.v_ch2t, Md.v_ch2f, Md.v_ch3, Md.v_cut, Md.v_cu1, Md.v_cu2, Md.v_cu3, Md.v_nop, Md.v_part, Md.v_ptR, Md.v_unp, Md.v_unO, Md.v_tgO, Md.v_tgs0, Md.v_tgs, Md.v_tgB, Md.v_ttt, Md.v_tname, List.cons_append, List.nil_append, List.replicate_zero, List.replicate_succ, List.getElem?_cons_zero, List.getElem?_cons_succ, List.set_cons_zero, List.set_cons_succ, List.map_nil, List.map_cons, List.append_nil, Bool.not_true, Bool.not_false, Slot.put, at0, e, v_lst' (show ([] : List D).length ≤ 1000 by decide)]
  · have hl : 0 < (cs.length : Int) := by
      cases cs with
      | nil => exact absurd rfl hc
      | cons _ _ => simp only [List.length_cons]; omega
    obtain ⟨c, h⟩ := ix_ints (cs := cs) (k := t % cs.length) (Int.emod_nonneg _ (by omega)) (Int.emod_lt_of_pos _ hl)
    refine ⟨c, ?_⟩
    have e : dNe (.lst (cs.map D.int)) (.lst []) = some (.bl true) := by
      rw [ne_nil]
      cases cs with
      | nil => exact absurd rfl hc
      | cons _ _ => rfl
    simp only [sem__law_draw, b__law_draw, b__law_draw_s1, b__law_draw_s2, b__law_draw_s3, b__law_draw_s4, b__law_draw_s5, b__law_draw_s6, b__law_draw_s7, b__law_draw_s8, b__law_draw_s9, b__law_draw_s10, b__law_draw_s11, b__law_draw_s12, b__law_draw_i2, En7, pen, Md.v_seq, Md.v_nx, Md.v_rt, Md.v_bk, Md.v_ct, Md.v_ex, Md.v_ok, Md.v_bx, Md.v_to, Md.v_tx, Md.v_oR, Md.v_sR, Md.v_var, Md.v_k, Md.v_op2, Md.v_k2, Md.v_k3, Md.v_op1, Md.v_k1, Md.v_bR, Md.v_bool, Md.v_not, Md.v_knot, Md.v_and, Md.v_and1, Md.v_and0, Md.v_or, Md.v_or1, Md.v_or0, Md.v_nR, Md.v_notV, Md.v_aR1, Md.v_aR0, Md.v_andV, Md.v_orR1, Md.v_orR0, Md.v_orV, Md.v_if, Md.v_if1, Md.v_if0, Md.v_anil, Md.v_acons, Md.v_kac, Md.v_kad, Md.v_ob1, Md.v_ob2, Md.v_aobj, Md.v_ds0, Md.v_ds1, Md.v_ds2, Md.v_ds3, Md.v_ds4, Md.v_ds5, Md.v_ds6, Md.v_dsg, Md.v_dso, Md.v_dat0, Md.v_datc, Md.v_dco, Md.v_tup, Md.v_lst, Md.v_new, Md.v_tup1, Md.v_tup2, Md.v_tup3, Md.v_blR, Md.v_cb, Md.v_cb1, Md.v_cb2, Md.v_slR, Md.v_call, Md.v_cd1, Md.v_cd2, Md.v_ca0, Md.v_ca1, Md.v_ca2, Md.v_ca3, Md.v_ca4, Md.v_ci1, Md.v_ci2, Md.v_ciS, Md.v_ci_0, Md.v_ci_1, Md.v_ci_2, Md.v_io1, Md.v_io2, Md.v_put, Md.v_pu1, Md.v_pu2, Md.v_st1, Md.v_st2, Md.v_st3, Md.v_setE, Md.v_nxO, Md.v_set, Md.v_kset, Md.v_snew, Md.v_knew, Md.v_expr, Md.v_kex, Md.v_ret, Md.v_kret, Md.v_retN, Md.v_nil, Md.v_sif, Md.v_if_t, Md.v_if_f, Md.v_fr, Md.v_freeze, Md.v_la1, Md.v_la2, Md.v_lst_at, Md.v_ixR, Md.v_ixO, Md.v_gix, Md.v_kix, Md.v_leR, Md.v_lenO, Md.v_sput, Md.v_kpu, Md.v_gpu, Md.v_kpv, Md.v_gme, Md.v_kme, Md.v_meth, Md.v_raise, Md.v_ra1, Md.v_ra2, Md.v_par, Md.v_pa, Md.v_pa2, Md.v_tryK, Md.v_tk1, Md.v_tk2', Md.v_run, Md.v_ru1, Md.v_ru2, Md.v_ru3, Md.v_ou0, Md.v_ou1, Md.v_ou2, Md.v_it, Md.v_it1, Md.v_it2, Md.v_r1, Md.v_for, Md.v_kfo, Md.v_m1, Md.v_m1R, Md.v_m1S, Md.v_ifB, Md.v_ifB1, Md.v_ifB0, Md.v_mkD, Md.v_mkX, Md.v_make, Md.v_makeK, Md.v_mkG, Md.v_fldS, Md.v_fsR, Md.v_ins0, Md.v_fld, Md.v_its, Md.v_lc, Md.v_lcR, Md.v_lcEnd, Md.v_ofNew, Md.v_ofR, Md.v_chain, Md.v_ch1, Md.v_chY, Md.v_ch2t, Md.v_ch2f, Md.v_ch3, Md.v_cut, Md.v_cu1, Md.v_cu2, Md.v_cu3, Md.v_nop, Md.v_part, Md.v_ptR, Md.v_unp, Md.v_unO, Md.v_tgO, Md.v_tgs0, Md.v_tgs, Md.v_tgB, Md.v_ttt, Md.v_tname, List.cons_append, List.nil_append, List.replicate_zero, List.replicate_succ, List.getElem?_cons_zero, List.getElem?_cons_succ, List.set_cons_zero, List.set_cons_succ, List.map_nil, List.map_cons, List.append_nil, Bool.not_true, Bool.not_false, Slot.put, at0, e, v_lst' (show ([] : List D).length ≤ 1000 by decide), i_ok, len_ints, m_ok hl, h]
theorem draw_i3f (cs : List Int) (t r many c : Int) (h : ¬ (t < cs.length ∧ 10 ^ 18 ≤ (if c < 0 then -c else c))) : b__law_draw_i3 (En7 cs t r many c) = .nx (En7 cs t r many c) := by
  by_cases h1 : t < cs.length
  · have h2 : ¬ (10 : Int) ^ 18 ≤ (if c < 0 then -c else c) := fun z => h ⟨h1, z⟩
    have d1 : decide (t < (cs.length : Int)) = true := decide_eq_true h1
    have d2 : decide ((10 : Int) ^ (18 : Int).toNat ≤ (if c < 0 then -c else c)) = false := decide_eq_false h2
    simp only [sem__law_draw, b__law_draw, b__law_draw_s1, b__law_draw_s2, b__law_draw_s3, b__law_draw_s4, b__law_draw_s5, b__law_draw_s6, b__law_draw_s7, b__law_draw_s8, b__law_draw_s9, b__law_draw_s10, b__law_draw_s11, b__law_draw_s12, b__law_draw_i3, En7, pen, Md.v_seq, Md.v_nx, Md.v_rt, Md.v_bk, Md.v_ct, Md.v_ex, Md.v_ok, Md.v_bx, Md.v_to, Md.v_tx, Md.v_oR, Md.v_sR, Md.v_var, Md.v_k, Md.v_op2, Md.v_k2, Md.v_k3, Md.v_op1, Md.v_k1, Md.v_bR, Md.v_bool, Md.v_not, Md.v_knot, Md.v_and, Md.v_and1, Md.v_and0, Md.v_or, Md.v_or1, Md.v_or0, Md.v_nR, Md.v_notV, Md.v_aR1, Md.v_aR0, Md.v_andV, Md.v_orR1, Md.v_orR0, Md.v_orV, Md.v_if, Md.v_if1, Md.v_if0, Md.v_anil, Md.v_acons, Md.v_kac, Md.v_kad, Md.v_ob1, Md.v_ob2, Md.v_aobj, Md.v_ds0, Md.v_ds1, Md.v_ds2, Md.v_ds3, Md.v_ds4, Md.v_ds5, Md.v_ds6, Md.v_dsg, Md.v_dso, Md.v_dat0, Md.v_datc, Md.v_dco, Md.v_tup, Md.v_lst, Md.v_new, Md.v_tup1, Md.v_tup2, Md.v_tup3, Md.v_blR, Md.v_cb, Md.v_cb1, Md.v_cb2, Md.v_slR, Md.v_call, Md.v_cd1, Md.v_cd2, Md.v_ca0, Md.v_ca1, Md.v_ca2, Md.v_ca3, Md.v_ca4, Md.v_ci1, Md.v_ci2, Md.v_ciS, Md.v_ci_0, Md.v_ci_1, Md.v_ci_2, Md.v_io1, Md.v_io2, Md.v_put, Md.v_pu1, Md.v_pu2, Md.v_st1, Md.v_st2, Md.v_st3, Md.v_setE, Md.v_nxO, Md.v_set, Md.v_kset, Md.v_snew, Md.v_knew, Md.v_expr, Md.v_kex, Md.v_ret, Md.v_kret, Md.v_retN, Md.v_nil, Md.v_sif, Md.v_if_t, Md.v_if_f, Md.v_fr, Md.v_freeze, Md.v_la1, Md.v_la2, Md.v_lst_at, Md.v_ixR, Md.v_ixO, Md.v_gix, Md.v_kix, Md.v_leR, Md.v_lenO, Md.v_sput, Md.v_kpu, Md.v_gpu, Md.v_kpv, Md.v_gme, Md.v_kme, Md.v_meth, Md.v_raise, Md.v_ra1, Md.v_ra2, Md.v_par, Md.v_pa, Md.v_pa2, Md.v_tryK, Md.v_tk1, Md.v_tk2', Md.v_run, Md.v_ru1, Md.v_ru2, Md.v_ru3, Md.v_ou0, Md.v_ou1, Md.v_ou2, Md.v_it, Md.v_it1, Md.v_it2, Md.v_r1, Md.v_for, Md.v_kfo, Md.v_m1, Md.v_m1R, Md.v_m1S, Md.v_ifB, Md.v_ifB1, Md.v_ifB0, Md.v_mkD, Md.v_mkX, Md.v_make, Md.v_makeK, Md.v_mkG, Md.v_fldS, Md.v_fsR, Md.v_ins0, Md.v_fld, Md.v_its, Md.v_lc, Md.v_lcR, Md.v_lcEnd, Md.v_ofNew, Md.v_ofR, Md.v_chain, Md.v_ch1, Md.v_chY, Md.v_ch2t, Md.v_ch2f, Md.v_ch3, Md.v_cut, Md.v_cu1, Md.v_cu2, Md.v_cu3, Md.v_nop, Md.v_part, Md.v_ptR, Md.v_unp, Md.v_unO, Md.v_tgO, Md.v_tgs0, Md.v_tgs, Md.v_tgB, Md.v_ttt, Md.v_tname, List.cons_append, List.nil_append, List.replicate_zero, List.replicate_succ, List.getElem?_cons_zero, List.getElem?_cons_succ, List.set_cons_zero, List.set_cons_succ, List.map_nil, List.map_cons, List.append_nil, Bool.not_true, Bool.not_false, Slot.put, at0, len_ints, lt_ok, d1, abs_ok, p_ok (i := 10) (j := 18) (by decide) (by decide) (by decide), ge_ok, d2]
  · have d1 : decide (t < (cs.length : Int)) = false := decide_eq_false h1
    simp only [sem__law_draw, b__law_draw, b__law_draw_s1, b__law_draw_s2, b__law_draw_s3, b__law_draw_s4, b__law_draw_s5, b__law_draw_s6, b__law_draw_s7, b__law_draw_s8, b__law_draw_s9, b__law_draw_s10, b__law_draw_s11, b__law_draw_s12, b__law_draw_i3, En7, pen, Md.v_seq, Md.v_nx, Md.v_rt, Md.v_bk, Md.v_ct, Md.v_ex, Md.v_ok, Md.v_bx, Md.v_to, Md.v_tx, Md.v_oR, Md.v_sR, Md.v_var, Md.v_k, Md.v_op2, Md.v_k2, Md.v_k3, Md.v_op1, Md.v_k1, Md.v_bR, Md.v_bool, Md.v_not, Md.v_knot, Md.v_and, Md.v_and1, Md.v_and0, Md.v_or, Md.v_or1, Md.v_or0, Md.v_nR, Md.v_notV, Md.v_aR1, Md.v_aR0, Md.v_andV, Md.v_orR1, Md.v_orR0, Md.v_orV, Md.v_if, Md.v_if1, Md.v_if0, Md.v_anil, Md.v_acons, Md.v_kac, Md.v_kad, Md.v_ob1, Md.v_ob2, Md.v_aobj, Md.v_ds0, Md.v_ds1, Md.v_ds2, Md.v_ds3, Md.v_ds4, Md.v_ds5, Md.v_ds6, Md.v_dsg, Md.v_dso, Md.v_dat0, Md.v_datc, Md.v_dco, Md.v_tup, Md.v_lst, Md.v_new, Md.v_tup1, Md.v_tup2, Md.v_tup3, Md.v_blR, Md.v_cb, Md.v_cb1, Md.v_cb2, Md.v_slR, Md.v_call, Md.v_cd1, Md.v_cd2, Md.v_ca0, Md.v_ca1, Md.v_ca2, Md.v_ca3, Md.v_ca4, Md.v_ci1, Md.v_ci2, Md.v_ciS, Md.v_ci_0, Md.v_ci_1, Md.v_ci_2, Md.v_io1, Md.v_io2, Md.v_put, Md.v_pu1, Md.v_pu2, Md.v_st1, Md.v_st2, Md.v_st3, Md.v_setE, Md.v_nxO, Md.v_set, Md.v_kset, Md.v_snew, Md.v_knew, Md.v_expr, Md.v_kex, Md.v_ret, Md.v_kret, Md.v_retN, Md.v_nil, Md.v_sif, Md.v_if_t, Md.v_if_f, Md.v_fr, Md.v_freeze, Md.v_la1, Md.v_la2, Md.v_lst_at, Md.v_ixR, Md.v_ixO, Md.v_gix, Md.v_kix, Md.v_leR, Md.v_lenO, Md.v_sput, Md.v_kpu, Md.v_gpu, Md.v_kpv, Md.v_gme, Md.v_kme, Md.v_meth, Md.v_raise, Md.v_ra1, Md.v_ra2, Md.v_par, Md.v_pa, Md.v_pa2, Md.v_tryK, Md.v_tk1, Md.v_tk2', Md.v_run, Md.v_ru1, Md.v_ru2, Md.v_ru3, Md.v_ou0, Md.v_ou1, Md.v_ou2, Md.v_it, Md.v_it1, Md.v_it2, Md.v_r1, Md.v_for, Md.v_kfo, Md.v_m1, Md.v_m1R, Md.v_m1S, Md.v_ifB, Md.v_ifB1, Md.v_ifB0, Md.v_mkD, Md.v_mkX, Md.v_make, Md.v_makeK, Md.v_mkG, Md.v_fldS, Md.v_fsR, Md.v_ins0, Md.v_fld, Md.v_its, Md.v_lc, Md.v_lcR, Md.v_lcEnd, Md.v_ofNew, Md.v_ofR, Md.v_chain, Md.v_ch1, Md.v_chY, Md.v_ch2t, Md.v_ch2f, Md.v_ch3, Md.v_cut, Md.v_cu1, Md.v_cu2, Md.v_cu3, Md.v_nop, Md.v_part, Md.v_ptR, Md.v_unp, Md.v_unO, Md.v_tgO, Md.v_tgs0, Md.v_tgs, Md.v_tgB, Md.v_ttt, Md.v_tname, List.cons_append, List.nil_append, List.replicate_zero, List.replicate_succ, List.getElem?_cons_zero, List.getElem?_cons_succ, List.set_cons_zero, List.set_cons_succ, List.map_nil, List.map_cons, List.append_nil, Bool.not_true, Bool.not_false, Slot.put, at0, len_ints, lt_ok, d1]
theorem draw_i3t (cs : List Int) (t r many c : Int) (hm : 0 < many) (hm2 : many < 2 ^ 4000) (h1 : t < cs.length) (h2 : (10 : Int) ^ 18 ≤ (if c < 0 then -c else c)) : ∃ d r' e, b__law_draw_i3 (En7 cs t r many c) = .rt (.int d) (.io (pen cs (t + 1) r') :: .dat (.int many) :: e) ∧ 0 ≤ d ∧ d < many ∧ 0 ≤ r' := by
  have d1 : decide (t < (cs.length : Int)) = true := decide_eq_true h1
  have d2 : decide ((10 : Int) ^ (18 : Int).toNat ≤ (if c < 0 then -c else c)) = true := decide_eq_true h2
  refine ⟨_, _, _, by
    simp only [sem__law_draw, b__law_draw, b__law_draw_s1, b__law_draw_s2, b__law_draw_s3, b__law_draw_s4, b__law_draw_s5, b__law_draw_s6, b__law_draw_s7, b__law_draw_s8, b__law_draw_s9, b__law_draw_s10, b__law_draw_s11, b__law_draw_s12, b__law_draw_i3, En7, pen, Md.v_seq, Md.v_nx, Md.v_rt, Md.v_bk, Md.v_ct, Md.v_ex, Md.v_ok, Md.v_bx, Md.v_to, Md.v_tx, Md.v_oR, Md.v_sR, Md.v_var, Md.v_k, Md.v_op2, Md.v_k2, Md.v_k3, Md.v_op1, Md.v_k1, Md.v_bR, Md.v_bool, Md.v_not, Md.v_knot, Md.v_and, Md.v_and1, Md.v_and0, Md.v_or, Md.v_or1, Md.v_or0, Md.v_nR, Md.v_notV, Md.v_aR1, Md.v_aR0, Md.v_andV, Md.v_orR1, Md.v_orR0, Md.v_orV, Md.v_if, Md.v_if1, Md.v_if0, Md.v_anil, Md.v_acons, Md.v_kac, Md.v_kad, Md.v_ob1, Md.v_ob2, Md.v_aobj, Md.v_ds0, Md.v_ds1, Md.v_ds2, Md.v_ds3, Md.v_ds4, Md.v_ds5, Md.v_ds6, Md.v_dsg, Md.v_dso, Md.v_dat0, Md.v_datc, Md.v_dco, Md.v_tup, Md.v_lst, Md.v_new, Md.v_tup1, Md.v_tup2, Md.v_tup3, Md.v_blR, Md.v_cb, Md.v_cb1, Md.v_cb2, Md.v_slR, Md.v_call, Md.v_cd1, Md.v_cd2, Md.v_ca0, Md.v_ca1, Md.v_ca2, Md.v_ca3, Md.v_ca4, Md.v_ci1, Md.v_ci2, Md.v_ciS, Md.v_ci_0, Md.v_ci_1, Md.v_ci_2, Md.v_io1, Md.v_io2, Md.v_put, Md.v_pu1, Md.v_pu2, Md.v_st1, Md.v_st2, Md.v_st3, Md.v_setE, Md.v_nxO, Md.v_set, Md.v_kset, Md.v_snew, Md.v_knew, Md.v_expr, Md.v_kex, Md.v_ret, Md.v_kret, Md.v_retN, Md.v_nil, Md.v_sif, Md.v_if_t, Md.v_if_f, Md.v_fr, Md.v_freeze, Md.v_la1, Md.v_la2, Md.v_lst_at, Md.v_ixR, Md.v_ixO, Md.v_gix, Md.v_kix, Md.v_leR, Md.v_lenO, Md.v_sput, Md.v_kpu, Md.v_gpu, Md.v_kpv, Md.v_gme, Md.v_kme, Md.v_meth, Md.v_raise, Md.v_ra1, Md.v_ra2, Md.v_par, Md.v_pa, Md.v_pa2, Md.v_tryK, Md.v_tk1, Md.v_tk2', Md.v_run, Md.v_ru1, Md.v_ru2, Md.v_ru3, Md.v_ou0, Md.v_ou1, Md.v_ou2, Md.v_it, Md.v_it1, Md.v_it2, Md.v_r1, Md.v_for, Md.v_kfo, Md.v_m1, Md.v_m1R, Md.v_m1S, Md.v_ifB, Md.v_ifB1, Md.v_ifB0, Md.v_mkD, Md.v_mkX, Md.v_make, Md.v_makeK, Md.v_mkG, Md.v_fldS, Md.v_fsR, Md.v_ins0, Md.v_fld, Md.v_its, Md.v_lc, Md.v_lcR, Md.v_lcEnd, Md.v_ofNew, Md.v_ofR, Md.v_chain, Md.v_ch1, Md.v_chY, Md.v_ch2t, Md.v_ch2f, Md.v_ch3, Md.v_cut, Md.v_cu1, Md.v_cu2, Md.v_cu3, Md.v_nop, Md.v_part, Md.v_ptR, Md.v_unp, Md.v_unO, Md.v_tgO, Md.v_tgs0, Md.v_tgs, Md.v_tgB, Md.v_ttt, Md.v_tname, List.cons_append, List.nil_append, List.replicate_zero, List.replicate_succ, List.getElem?_cons_zero, List.getElem?_cons_succ, List.set_cons_zero, List.set_cons_succ, List.map_nil, List.map_cons, List.append_nil, Bool.not_true, Bool.not_false, Slot.put, at0, len_ints, lt_ok, d1, abs_ok, p_ok (i := 10) (j := 18) (by decide) (by decide) (by decide), ge_ok, d2, s_ok, x_ok (i := 2) (.inl ⟨by decide, by decide⟩), ib_ok, a_ok, i_ok, f_ok hm hm2, m_ok hm, pu2]
    rfl, ?_, ?_, ?_⟩
  · exact Int.emod_nonneg _ (by omega)
  · exact Int.emod_lt_of_pos _ hm
  · refine Int.ediv_nonneg ?_ (by omega)
    have e18 : (10 : Int) ^ (18 : Int).toNat = 10 ^ 18 := rfl
    rw [e18]
    split <;> omega
theorem draw_rest (cs : List Int) (t r many : Int) (hr : 0 < r) (hm : 0 < many) (hm2 : many < 2 ^ 4000) :
    sem__law_draw [.io (pen cs t r), .dat (.int many)] = .ok (.int (r % many)) [.io (pen cs t (r / many)), .dat (.int many)] := by
  have d1 : decide (0 < r) = true := decide_eq_true hr
  simp only [sem__law_draw, b__law_draw, b__law_draw_s1, b__law_draw_s2, b__law_draw_s3, b__law_draw_s4, b__law_draw_s5, b__law_draw_s6, b__law_draw_s7, b__law_draw_s8, b__law_draw_s9, b__law_draw_s10, b__law_draw_s11, b__law_draw_s12, b__law_draw_i1, pen, Md.v_seq, Md.v_nx, Md.v_rt, Md.v_bk, Md.v_ct, Md.v_ex, Md.v_ok, Md.v_bx, Md.v_to, Md.v_tx, Md.v_oR, Md.v_sR, Md.v_var, Md.v_k, Md.v_op2, Md.v_k2, Md.v_k3, Md.v_op1, Md.v_k1, Md.v_bR, Md.v_bool, Md.v_not, Md.v_knot, Md.v_and, Md.v_and1, Md.v_and0, Md.v_or, Md.v_or1, Md.v_or0, Md.v_nR, Md.v_notV, Md.v_aR1, Md.v_aR0, Md.v_andV, Md.v_orR1, Md.v_orR0, Md.v_orV, Md.v_if, Md.v_if1, Md.v_if0, Md.v_anil, Md.v_acons, Md.v_kac, Md.v_kad, Md.v_ob1, Md.v_ob2, Md.v_aobj, Md.v_ds0, Md.v_ds1, Md.v_ds2, Md.v_ds3, Md.v_ds4, Md.v_ds5, Md.v_ds6, Md.v_dsg, Md.v_dso, Md.v_dat0, Md.v_datc, Md.v_dco, Md.v_tup, Md.v_lst, Md.v_new, Md.v_tup1, Md.v_tup2, Md.v_tup3, Md.v_blR, Md.v_cb, Md.v_cb1, Md.v_cb2, Md.v_slR, Md.v_call, Md.v_cd1, Md.v_cd2, Md.v_ca0, Md.v_ca1, Md.v_ca2, Md.v_ca3, Md.v_ca4, Md.v_ci1, Md.v_ci2, Md.v_ciS, Md.v_ci_0, Md.v_ci_1, Md.v_ci_2, Md.v_io1, Md.v_io2, Md.v_put, Md.v_pu1, Md.v_pu2, Md.v_st1, Md.v_st2, Md.v_st3, Md.v_setE, Md.v_nxO, Md.v_set, Md.v_kset, Md.v_snew, Md.v_knew, Md.v_expr, Md.v_kex, Md.v_ret, Md.v_kret, Md.v_retN, Md.v_nil, Md.v_sif, Md.v_if_t, Md.v_if_f, Md.v_fr, Md.v_freeze, Md.v_la1, Md.v_la2, Md.v_lst_at, Md.v_ixR, Md.v_ixO, Md.v_gix, Md.v_kix, Md.v_leR, Md.v_lenO, Md.v_sput, Md.v_kpu, Md.v_gpu, Md.v_kpv, Md.v_gme, Md.v_kme, Md.v_meth, Md.v_raise, Md.v_ra1, Md.v_ra2, Md.v_par, Md.v_pa, Md.v_pa2, Md.v_tryK, Md.v_tk1, Md.v_tk2', Md.v_run, Md.v_ru1, Md.v_ru2, Md.v_ru3, Md.v_ou0, Md.v_ou1, Md.v_ou2, Md.v_it, Md.v_it1, Md.v_it2, Md.v_r1, Md.v_for, Md.v_kfo, Md.v_m1, Md.v_m1R, Md.v_m1S, Md.v_ifB, Md.v_ifB1, Md.v_ifB0, Md.v_mkD, Md.v_mkX, Md.v_make, Md.v_makeK, Md.v_mkG, Md.v_fldS, Md.v_fsR, Md.v_ins0, Md.v_fld, Md.v_its, Md.v_lc, Md.v_lcR, Md.v_lcEnd, Md.v_ofNew, Md.v_ofR, Md.v_chain, Md.v_ch1, Md.v_chY, Md.v_ch2t, Md.v_ch2f, Md.v_ch3, Md.v_cut, Md.v_cu1, Md.v_cu2, Md.v_cu3, Md.v_nop, Md.v_part, Md.v_ptR, Md.v_unp, Md.v_unO, Md.v_tgO, Md.v_tgs0, Md.v_tgs, Md.v_tgB, Md.v_ttt, Md.v_tname, List.cons_append, List.nil_append, List.replicate_zero, List.replicate_succ, List.getElem?_cons_zero, List.getElem?_cons_succ, List.set_cons_zero, List.set_cons_succ, List.map_nil, List.map_cons, List.append_nil, Bool.not_true, Bool.not_false, Slot.put, at2, pu2, gt_ok, d1, i_ok, m_ok hm, f_ok hm hm2]
theorem draw_mix (cs : List Int) (t many : Int) (hm : 0 < many) (hm2 : many < 2 ^ 4000) (ht : 0 ≤ t) (ht2 : t < 1000000) :
    ∃ d t' r', sem__law_draw [.io (pen cs t 0), .dat (.int many)] = .ok (.int d) [.io (pen cs t' r'), .dat (.int many)] ∧ 0 ≤ d ∧ d < many ∧ t' = t + 1 ∧ 0 ≤ r' := by
  have d0 : decide ((0 : Int) < 0) = false := by decide
  obtain ⟨c, hc⟩ := draw_i2 cs t 0 many (9173 * t + 4409) ht
  by_cases h : t < cs.length ∧ (10 : Int) ^ 18 ≤ (if c < 0 then -c else c)
  · obtain ⟨d, r', e, h3, g1, g2, g3⟩ := draw_i3t cs t 0 many c hm hm2 h.1 h.2
    refine ⟨d, t + 1, r', ?_, g1, g2, rfl, g3⟩
    simp only [En7, pen] at hc h3
    simp only [sem__law_draw, b__law_draw, b__law_draw_s1, b__law_draw_s2, b__law_draw_s3, b__law_draw_s4, b__law_draw_s5, b__law_draw_s6, b__law_draw_s7, b__law_draw_s8, b__law_draw_s9, b__law_draw_s10, b__law_draw_s11, b__law_draw_s12, b__law_draw_i1, pen, Md.v_seq, Md.v_nx, Md.v_rt, Md.v_bk, Md.v_ct, Md.v_ex, Md.v_ok, Md.v_bx, Md.v_to, Md.v_tx, Md.v_oR, Md.v_sR, Md.v_var, Md.v_k, Md.v_op2, Md.v_k2, Md.v_k3, Md.v_op1, Md.v_k1, Md.v_bR, Md.v_bool, Md.v_not, Md.v_knot, Md.v_and, Md.v_and1, Md.v_and0, Md.v_or, Md.v_or1, Md.v_or0, Md.v_nR, Md.v_notV, Md.v_aR1, Md.v_aR0, Md.v_andV, Md.v_orR1, Md.v_orR0, Md.v_orV, Md.v_if, Md.v_if1, Md.v_if0, Md.v_anil, Md.v_acons, Md.v_kac, Md.v_kad, Md.v_ob1, Md.v_ob2, Md.v_aobj, Md.v_ds0, Md.v_ds1, Md.v_ds2, Md.v_ds3, Md.v_ds4, Md.v_ds5, Md.v_ds6, Md.v_dsg, Md.v_dso, Md.v_dat0, Md.v_datc, Md.v_dco, Md.v_tup, Md.v_lst, Md.v_new, Md.v_tup1, Md.v_tup2, Md.v_tup3, Md.v_blR, Md.v_cb, Md.v_cb1, Md.v_cb2, Md.v_slR, Md.v_call, Md.v_cd1, Md.v_cd2, Md.v_ca0, Md.v_ca1, Md.v_ca2, Md.v_ca3, Md.v_ca4, Md.v_ci1, Md.v_ci2, Md.v_ciS, Md.v_ci_0, Md.v_ci_1, Md.v_ci_2, Md.v_io1, Md.v_io2, Md.v_put, Md.v_pu1, Md.v_pu2, Md.v_st1, Md.v_st2, Md.v_st3, Md.v_setE, Md.v_nxO, Md.v_set, Md.v_kset, Md.v_snew, Md.v_knew, Md.v_expr, Md.v_kex, Md.v_ret, Md.v_kret, Md.v_retN, Md.v_nil, Md.v_sif, Md.v_if_t, Md.v_if_f, Md.v_fr, Md.v_freeze, Md.v_la1, Md.v_la2, Md.v_lst_at, Md.v_ixR, Md.v_ixO, Md.v_gix, Md.v_kix, Md.v_leR, Md.v_lenO, Md.v_sput, Md.v_kpu, Md.v_gpu, Md.v_kpv, Md.v_gme, Md.v_kme, Md.v_meth, Md.v_raise, Md.v_ra1, Md.v_ra2, Md.v_par, Md.v_pa, Md.v_pa2, Md.v_tryK, Md.v_tk1, Md.v_tk2', Md.v_run, Md.v_ru1, Md.v_ru2, Md.v_ru3, Md.v_ou0, Md.v_ou1, Md.v_ou2, Md.v_it, Md.v_it1, Md.v_it2, Md.v_r1, Md.v_for, Md.v_kfo, Md.v_m1, Md.v_m1R, Md.v_m1S, Md.v_ifB, Md.v_ifB1, Md.v_ifB0, Md.v_mkD, Md.v_mkX, Md.v_make, Md.v_makeK, Md.v_mkG, Md.v_fldS, Md.v_fsR, Md.v_ins0, Md.v_fld, Md.v_its, Md.v_lc, Md.v_lcR, Md.v_lcEnd, Md.v_ofNew, Md.v_ofR, Md.v_chain, Md.v_ch1, Md.v_chY, Md.v_ch2t, Md.v_ch2f, Md.v_ch3, Md.v_cut, Md.v_cu1, Md.v_cu2, Md.v_cu3, Md.v_nop, Md.v_part, Md.v_ptR, Md.v_unp, Md.v_unO, Md.v_tgO, Md.v_tgs0, Md.v_tgs, Md.v_tgB, Md.v_ttt, Md.v_tname, List.cons_append, List.nil_append, List.replicate_zero, List.replicate_succ, List.getElem?_cons_zero, List.getElem?_cons_succ, List.set_cons_zero, List.set_cons_succ, List.map_nil, List.map_cons, List.append_nil, Bool.not_true, Bool.not_false, Slot.put, at2, at1, pu1, gt_ok, d0, x_ok (i := 9173) (.inl ⟨by decide, by decide⟩), a_ok, hc, h3]
  · have h3 := draw_i3f cs t 0 many c h
    have b1 : 0 ≤ c % 2147483543 := Int.emod_nonneg _ (by decide)
    have b2 : c % 2147483543 < 2147483543 := Int.emod_lt_of_pos _ (by decide)
    generalize hq : c % 2147483543 = q at b1 b2
    have b3 : 0 ≤ (q + 60037 * t + 211) ^ (3 : Int).toNat % 2147483587 := Int.emod_nonneg _ (by decide)
    have b4 : (q + 60037 * t + 211) ^ (3 : Int).toNat % 2147483587 < 2147483587 := Int.emod_lt_of_pos _ (by decide)
    generalize hu : (q + 60037 * t + 211) ^ (3 : Int).toNat % 2147483587 = u at b3 b4
    have b5 : 0 ≤ u * (2 * t + 131) := Int.mul_nonneg b3 (by omega)
    have b6 : u * (2 * t + 131) ≤ 2147483587 * 2000131 := Int.mul_le_mul (by omega) (by omega) (by omega) (by decide)
    have b7 : 0 ≤ 40903 * t * t := Int.mul_nonneg (by omega) ht
    have b8 : 40903 * t * t ≤ 40903000000 * 1000000 := Int.mul_le_mul (by omega) (by omega) (by omega) (by decide)
    refine ⟨_, t + 1, 0, by
      simp only [En7, pen] at hc h3
      simp only [sem__law_draw, b__law_draw, b__law_draw_s1, b__law_draw_s2, b__law_draw_s3, b__law_draw_s4, b__law_draw_s5, b__law_draw_s6, b__law_draw_s7, b__law_draw_s8, b__law_draw_s9, b__law_draw_s10, b__law_draw_s11, b__law_draw_s12, b__law_draw_i1, pen, Md.v_seq, Md.v_nx, Md.v_rt, Md.v_bk, Md.v_ct, Md.v_ex, Md.v_ok, Md.v_bx, Md.v_to, Md.v_tx, Md.v_oR, Md.v_sR, Md.v_var, Md.v_k, Md.v_op2, Md.v_k2, Md.v_k3, Md.v_op1, Md.v_k1, Md.v_bR, Md.v_bool, Md.v_not, Md.v_knot, Md.v_and, Md.v_and1, Md.v_and0, Md.v_or, Md.v_or1, Md.v_or0, Md.v_nR, Md.v_notV, Md.v_aR1, Md.v_aR0, Md.v_andV, Md.v_orR1, Md.v_orR0, Md.v_orV, Md.v_if, Md.v_if1, Md.v_if0, Md.v_anil, Md.v_acons, Md.v_kac, Md.v_kad, Md.v_ob1, Md.v_ob2, Md.v_aobj, Md.v_ds0, Md.v_ds1, Md.v_ds2, Md.v_ds3, Md.v_ds4, Md.v_ds5, Md.v_ds6, Md.v_dsg, Md.v_dso, Md.v_dat0, Md.v_datc, Md.v_dco, Md.v_tup, Md.v_lst, Md.v_new, Md.v_tup1, Md.v_tup2, Md.v_tup3, Md.v_blR, Md.v_cb, Md.v_cb1, Md.v_cb2, Md.v_slR, Md.v_call, Md.v_cd1, Md.v_cd2, Md.v_ca0, Md.v_ca1, Md.v_ca2, Md.v_ca3, Md.v_ca4, Md.v_ci1, Md.v_ci2, Md.v_ciS, Md.v_ci_0, Md.v_ci_1, Md.v_ci_2, Md.v_io1, Md.v_io2, Md.v_put, Md.v_pu1, Md.v_pu2, Md.v_st1, Md.v_st2, Md.v_st3, Md.v_setE, Md.v_nxO, Md.v_set, Md.v_kset, Md.v_snew, Md.v_knew, Md.v_expr, Md.v_kex, Md.v_ret, Md.v_kret, Md.v_retN, Md.v_nil, Md.v_sif, Md.v_if_t, Md.v_if_f, Md.v_fr, Md.v_freeze, Md.v_la1, Md.v_la2, Md.v_lst_at, Md.v_ixR, Md.v_ixO, Md.v_gix, Md.v_kix, Md.v_leR, Md.v_lenO, Md.v_sput, Md.v_kpu, Md.v_gpu, Md.v_kpv, Md.v_gme, Md.v_kme, Md.v_meth, Md.v_raise, Md.v_ra1, Md.v_ra2, Md.v_par, Md.v_pa, Md.v_pa2, Md.v_tryK, Md.v_tk1, Md.v_tk2', Md.v_run, Md.v_ru1, Md.v_ru2, Md.v_ru3, Md.v_ou0, Md.v_ou1, Md.v_ou2, Md.v_it, Md.v_it1, Md.v_it2, Md.v_r1, Md.v_for, Md.v_kfo, Md.v_m1, Md.v_m1R, Md.v_m1S, Md.v_ifB, Md.v_ifB1, Md.v_ifB0, Md.v_mkD, Md.v_mkX, Md.v_make, Md.v_makeK, Md.v_mkG, Md.v_fldS, Md.v_fsR, Md.v_ins0, Md.v_fld, Md.v_its, Md.v_lc, Md.v_lcR, Md.v_lcEnd, Md.v_ofNew, Md.v_ofR, Md.v_chain, Md.v_ch1, Md.v_chY, Md.v_ch2t, Md.v_ch2f, Md.v_ch3, Md.v_cut, Md.v_cu1, Md.v_cu2, Md.v_cu3, Md.v_nop, Md.v_part, Md.v_ptR, Md.v_unp, Md.v_unO, Md.v_tgO, Md.v_tgs0, Md.v_tgs, Md.v_tgB, Md.v_ttt, Md.v_tname, List.cons_append, List.nil_append, List.replicate_zero, List.replicate_succ, List.getElem?_cons_zero, List.getElem?_cons_succ, List.set_cons_zero, List.set_cons_succ, List.map_nil, List.map_cons, List.append_nil, Bool.not_true, Bool.not_false, Slot.put, at2, at1, pu1, gt_ok, d0, x_ok (i := 9173) (.inl ⟨by decide, by decide⟩), a_ok, hc, h3, i_ok, m_ok (j := 2147483543) (by decide), hq, x_ok (i := 60037) (.inl ⟨by decide, by decide⟩), p_ok (i := q + 60037 * t + 211) (j := 3) (by decide) (by decide) (by omega), m_ok (j := 2147483587) (by decide), hu,
        x_ok (i := 2) (.inl ⟨by decide, by decide⟩), x_ok (i := u) (.inl ⟨by omega, by omega⟩), x_ok (i := 40903) (.inl ⟨by decide, by decide⟩), x_ok (j := t) (.inr ⟨by omega, by omega⟩), p_ok (i := u * (2 * t + 131) + 40903 * t * t + 17) (j := 5) (by decide) (by decide) (by omega), m_ok (j := 2147483629) (by decide), f_ok (j := 16) (by decide) (by decide), m_ok hm]
      rfl, Int.emod_nonneg _ (by omega), Int.emod_lt_of_pos _ hm, rfl, by decide⟩
/-- a draw: below many, the place one further at most -/
theorem draw_ok (cs : List Int) (t r many : Int) (hm : 0 < many) (hm2 : many < 2 ^ 4000) (ht : 0 ≤ t) (ht2 : t < 1000000) (hr : 0 ≤ r) :
    ∃ d t' r', sem__law_draw [.io (pen cs t r), .dat (.int many)] = .ok (.int d) [.io (pen cs t' r'), .dat (.int many)] ∧ 0 ≤ d ∧ d < many ∧ t ≤ t' ∧ t' ≤ t + 1 ∧ 0 ≤ r' := by
  by_cases h : 0 < r
  · exact ⟨_, _, _, draw_rest cs t r many h hm hm2, Int.emod_nonneg _ (by omega), Int.emod_lt_of_pos _ hm, Int.le_refl _, by omega, Int.ediv_nonneg hr (by omega)⟩
  · have : r = 0 := by omega
    subst this
    obtain ⟨d, t', r', h1, h2, h3, h4, h5⟩ := draw_mix cs t many hm hm2 ht ht2
    exact ⟨d, t', r', h1, h2, h3, by omega, by omega, h5⟩
/-- a pen of which n draws at most are drawn -/
def PenQ (n : Int) (q : OO) : Prop := ∃ (cs : List Int) (t r : Int), q = pen cs t r ∧ 0 ≤ t ∧ t ≤ n ∧ 0 ≤ r
theorem PenQ.mono {n m : Int} {q : OO} (h : PenQ n q) (k : n ≤ m) : PenQ m q := by
  obtain ⟨cs, t, r, a, b, c, d⟩ := h
  exact ⟨cs, t, r, a, b, by omega, d⟩
theorem dr {n : Int} {q : OO} (h : PenQ n q) (many : Int) (hm : 0 < many) (hm2 : many < 2 ^ 4000) (hn : n < 1000000) :
    ∃ d q', sem__law_draw [.io q, .dat (.int many)] = .ok (.int d) [.io q', .dat (.int many)] ∧ 0 ≤ d ∧ d < many ∧ PenQ (n + 1) q' := by
  obtain ⟨cs, t, r, rfl, b, c, e⟩ := h
  obtain ⟨d, t', r', h1, h2, h3, h4, h5, h6⟩ := draw_ok cs t r many hm hm2 b (by omega) e
  exact ⟨d, _, h1, h2, h3, cs, t', r', rfl, by omega, by omega, h6⟩
theorem pick {n : Int} {q : OO} (h : PenQ n q) (ds : List D) (h0 : ds ≠ []) (h1 : ds.length < 100000) (hn : n < 1000000) :
    ∃ d q', sem__law_pick [.io q, .dat (.lst ds)] = .ok d [.io q', .dat (.lst ds)] ∧ d ∈ ds ∧ PenQ (n + 1) q' := by
  have hl : 0 < ds.length := by
    cases ds with
    | nil => exact absurd rfl h0
    | cons _ _ => simp
  have big : (100000 : Int) < 2 ^ 4000 := by decide
  obtain ⟨k, q1, e1, a1, a2, a3⟩ := dr h ds.length (by omega) (by omega) hn
  have hk : k.toNat < ds.length := by omega
  have hd : dIx (.lst ds) (.int k) = some ds[k.toNat] := by
    show atI ds k = _
    unfold atI ixN
    rw [if_pos a1, if_pos a2, Option.bind_some, List.getElem?_eq_getElem hk]
  have hb : bLen [.lst ds] = some (.int ds.length) := rfl
  refine ⟨ds[k.toNat], q1, ?_, List.getElem_mem hk, a3⟩
  simp only [sem__law_pick, b__law_pick, Md.v_seq, Md.v_nx, Md.v_rt, Md.v_bk, Md.v_ct, Md.v_ex, Md.v_ok, Md.v_bx, Md.v_to, Md.v_tx, Md.v_oR, Md.v_sR, Md.v_var, Md.v_k, Md.v_op2, Md.v_k2, Md.v_k3, Md.v_op1, Md.v_k1, Md.v_bR, Md.v_bool, Md.v_not, Md.v_knot, Md.v_and, Md.v_and1, Md.v_and0, Md.v_or, Md.v_or1, Md.v_or0, Md.v_nR, Md.v_notV, Md.v_aR1, Md.v_aR0, Md.v_andV, Md.v_orR1, Md.v_orR0, Md.v_orV, Md.v_if, Md.v_if1, Md.v_if0, Md.v_anil, Md.v_acons, Md.v_kac, Md.v_kad, Md.v_ob1, Md.v_ob2, Md.v_aobj, Md.v_ds0, Md.v_ds1, Md.v_ds2, Md.v_ds3, Md.v_ds4, Md.v_ds5, Md.v_ds6, Md.v_dsg, Md.v_dso, Md.v_dat0, Md.v_datc, Md.v_dco, Md.v_tup, Md.v_lst, Md.v_new, Md.v_tup1, Md.v_tup2, Md.v_tup3, Md.v_blR, Md.v_cb, Md.v_cb1, Md.v_cb2, Md.v_slR, Md.v_call, Md.v_cd1, Md.v_cd2, Md.v_ca0, Md.v_ca1, Md.v_ca2, Md.v_ca3, Md.v_ca4, Md.v_ci1, Md.v_ci2, Md.v_ciS, Md.v_ci_0, Md.v_ci_1, Md.v_ci_2, Md.v_io1, Md.v_io2, Md.v_put, Md.v_pu1, Md.v_pu2, Md.v_st1, Md.v_st2, Md.v_st3, Md.v_setE, Md.v_nxO, Md.v_set, Md.v_kset, Md.v_snew, Md.v_knew, Md.v_expr, Md.v_kex, Md.v_ret, Md.v_kret, Md.v_retN, Md.v_nil, Md.v_sif, Md.v_if_t, Md.v_if_f, Md.v_fr, Md.v_freeze, Md.v_la1, Md.v_la2, Md.v_lst_at, Md.v_ixR, Md.v_ixO, Md.v_gix, Md.v_kix, Md.v_leR, Md.v_lenO, Md.v_sput, Md.v_kpu, Md.v_gpu, Md.v_kpv, Md.v_gme, Md.v_kme, Md.v_meth, Md.v_raise, Md.v_ra1, Md.v_ra2, Md.v_par, Md.v_pa, Md.v_pa2, Md.v_tryK, Md.v_tk1, Md.v_tk2', Md.v_run, Md.v_ru1, Md.v_ru2, Md.v_ru3, Md.v_ou0, Md.v_ou1, Md.v_ou2, Md.v_it, Md.v_it1, Md.v_it2, Md.v_r1, Md.v_for, Md.v_kfo, Md.v_m1, Md.v_m1R, Md.v_m1S, Md.v_ifB, Md.v_ifB1, Md.v_ifB0, Md.v_mkD, Md.v_mkX, Md.v_make, Md.v_makeK, Md.v_mkG, Md.v_fldS, Md.v_fsR, Md.v_ins0, Md.v_fld, Md.v_its, Md.v_lc, Md.v_lcR, Md.v_lcEnd, Md.v_ofNew, Md.v_ofR, Md.v_chain, Md.v_ch1, Md.v_chY, Md.v_ch2t, Md.v_ch2f, Md.v_ch3, Md.v_cut, Md.v_cu1, Md.v_cu2, Md.v_cu3, Md.v_nop, Md.v_part, Md.v_ptR, Md.v_unp, Md.v_unO, Md.v_tgO, Md.v_tgs0, Md.v_tgs, Md.v_tgB, Md.v_ttt, Md.v_tname, List.cons_append, List.nil_append, List.replicate_zero, List.replicate_succ, List.getElem?_cons_zero, List.getElem?_cons_succ, List.set_cons_zero, List.set_cons_succ, List.map_nil, List.map_cons, List.append_nil, Bool.not_true, Bool.not_false, Slot.put, hb, e1, hd]
theorem law_pen_ok (ns : List Int) : ∃ q xs, q = .lst xs ∧ sem__law_pen [.dat (.scr ns)] = .ok xs [.dat (.scr ns)] ∧ PenQ 0 q := ⟨_, _, rfl, rfl, cutG ns none (some 63), 0, 0, rfl, by decide, by decide, by decide⟩
end Lw

namespace Lw
open PySem PySem.Spec PyProof.Rows L2 Md
theorem great {n : Int} {q : OO} (h : PenQ n q) (hn : n < 900000) :
    ∃ d q', sem__law_great [.io q] = .ok (.int d) [.io q'] ∧ 0 ≤ d ∧ d < 10 ^ 80 ∧ PenQ (n + 4) q' := by
  have big5 : (100000 : Int) < 2 ^ 4000 := by decide
  have big20 : (100000000000000000000 : Int) < 2 ^ 4000 := by decide
  obtain ⟨k, q1, e1, a1, a2, a3⟩ := dr h 5 (by decide) (by decide) (by omega)
  by_cases k2 : k < 2
  · obtain ⟨d, q2, e2, b1, b2, b3⟩ := dr a3 12 (by decide) (by decide) (by omega)
    refine ⟨d, q2, ?_, b1, by omega, b3.mono (by omega)⟩
    have d1 : decide (k < 2) = true := decide_eq_true k2
    simp only [sem__law_great, b__law_great, b__law_great_i1, b__law_great_i2, b__law_great_s1, b__law_great_s2, b__law_great_s3, b__law_great_s4, Md.v_seq, Md.v_nx, Md.v_rt, Md.v_bk, Md.v_ct, Md.v_ex, Md.v_ok, Md.v_bx, Md.v_to, Md.v_tx, Md.v_oR, Md.v_sR, Md.v_var, Md.v_k, Md.v_op2, Md.v_k2, Md.v_k3, Md.v_op1, Md.v_k1, Md.v_bR, Md.v_bool, Md.v_not, Md.v_knot, Md.v_and, Md.v_and1, Md.v_and0, Md.v_or, Md.v_or1, Md.v_or0, Md.v_nR, Md.v_notV, Md.v_aR1, Md.v_aR0, Md.v_andV, Md.v_orR1, Md.v_orR0, Md.v_orV, Md.v_if, Md.v_if1, Md.v_if0, Md.v_anil, Md.v_acons, Md.v_kac, Md.v_kad, Md.v_ob1, Md.v_ob2, Md.v_aobj, Md.v_ds0, Md.v_ds1, Md.v_ds2, Md.v_ds3, Md.v_ds4, Md.v_ds5, Md.v_ds6, Md.v_dsg, Md.v_dso, Md.v_dat0, Md.v_datc, Md.v_dco, Md.v_tup, Md.v_lst, Md.v_new, Md.v_lst', Md.v_tup', Md.v_new', Md.v_blR, Md.v_cb, Md.v_cb1, Md.v_cb2, Md.v_slR, Md.v_call, Md.v_cd1, Md.v_cd2, Md.v_ca0, Md.v_ca1, Md.v_ca2, Md.v_ca3, Md.v_ca4, Md.v_ci1, Md.v_ci2, Md.v_ciS, Md.v_ci_0, Md.v_ci_1, Md.v_ci_2, Md.v_io1, Md.v_io2, Md.v_put, Md.v_pu1, Md.v_pu2, Md.v_st1, Md.v_st2, Md.v_st3, Md.v_setE, Md.v_nxO, Md.v_set, Md.v_kset, Md.v_snew, Md.v_knew, Md.v_expr, Md.v_kex, Md.v_ret, Md.v_kret, Md.v_retN, Md.v_nil, Md.v_sif, Md.v_if_t, Md.v_if_f, Md.v_fr, Md.v_freeze, Md.v_la1, Md.v_la2, Md.v_lst_at, Md.v_ixR, Md.v_ixO, Md.v_gix, Md.v_kix, Md.v_leR, Md.v_lenO, Md.v_sput, Md.v_kpu, Md.v_gpu, Md.v_kpv, Md.v_gme, Md.v_kme, Md.v_meth, Md.v_raise, Md.v_ra1, Md.v_ra2, Md.v_par, Md.v_pa, Md.v_pa2, Md.v_tryK, Md.v_tk1, Md.v_tk2', Md.v_run, Md.v_ru1, Md.v_ru2, Md.v_ru3, Md.v_ou0, Md.v_ou1, Md.v_ou2, Md.v_it, Md.v_it1, Md.v_it2, Md.v_r1, Md.v_for, Md.v_kfo, Md.v_m1, Md.v_m1R, Md.v_m1S, Md.v_ifB, Md.v_ifB1, Md.v_ifB0, Md.v_mkD, Md.v_mkX, Md.v_make, Md.v_makeK, Md.v_mkG, Md.v_fldS, Md.v_fsR, Md.v_ins0, Md.v_fsO, Md.v_fld, Md.v_its, Md.v_lc, Md.v_lcR, Md.v_ofNew, Md.v_ofR, Md.v_chain, Md.v_ch1, Md.v_chY, Md.v_ch2t, Md.v_ch2f, Md.v_ch3, Md.v_cut, Md.v_cu1, Md.v_cu2, Md.v_cu3, Md.v_nop, Md.v_part, Md.v_ptR, Md.v_unp, Md.v_unO, Md.v_tgO, Md.v_tgs0, Md.v_tgs, Md.v_tgB, Md.v_ttt, Md.v_tname, Md.v_fg0, Md.v_fgc, Md.v_fg1, Md.v_fgn, Md.v_fgt, Md.v_fgb, Md.v_fgr, Md.v_fgx, Md.v_lc0, Md.v_lcc, Md.v_lc1, Md.v_lc2t, Md.v_lc2f, Md.v_lc3, Md.v_yes, Md.v_wi0, Md.v_wi, Md.v_re0, Md.v_re, Md.v_reS, Md.v_ow0, Md.v_ow, Md.v_oku, Md.v_okd, Md.v_lce, Md.v_lcet, Md.v_callK, Md.v_ckR, Md.v_callN, Md.v_cnd1, Md.v_cnd2, Md.v_cn0, Md.v_cn1, Md.v_cn2, Md.v_cn3, Md.v_emk0, Md.v_aug, Md.v_agS, Md.v_kag, Md.v_agO, Md.v_r2, Md.v_r2R, Md.v_r1n, Md.v_rg0, Md.v_rgs, Md.v_emk, Md.v_mkR1, Md.v_mkR2, Md.v_tkx, Md.v_tkf, Md.v_tkt, Md.v_ttl, Md.v_stf, Md.v_lk0, Md.v_lk, Md.v_lkt, Md.v_lkf, Md.v_pd0, Md.v_pd, Md.v_pdt, Md.v_pdf, Md.v_atc, Md.v_atx, Md.v_eq, Md.v_ne, Md.v_eqs, Md.v_nes, Md.v_inl, Md.v_int, Md.v_nil', Md.v_nit', Md.v_fl0, Md.v_fl1, Md.v_fl2, Md.v_fl3, Md.v_fl4, Md.v_fl5, Md.v_fa0, Md.v_fac, Md.v_q0, Md.v_q1, Md.v_q2, Md.v_q3, Md.v_q4, Md.v_q5, Md.v_q6, Md.v_q7, Md.v_qs0, Md.v_qsc, Md.v_qsn, Md.v_qns, Md.v_i0, Md.v_i1, Md.v_qa, Md.v_qb, Md.v_qc, Md.v_qd, Md.v_qe, Md.v_qf, Md.v_qg, Md.v_qh, Md.v_qi, Md.v_qj, Md.v_qk, Md.v_ql, Md.v_qm, Md.v_qn, Md.v_qo, Md.v_qp, Md.v_qq, Md.v_qr, Md.v_qs, Md.v_qt, Md.v_qu, Md.v_qv, Md.v_qw, Md.v_qx, Md.v_qy, Md.v_qz, Md.v_atI0, Md.v_atI1, Md.v_atI2, Md.v_atI3, Md.v_atI4, Md.v_atI5, Md.v_atI6, Md.v_atI7, Md.v_atI8, Md.v_atI9, Md.v_atI10, Md.v_atI11, Md.v_atI12, Md.v_ixt, Md.v_ixl, Md.v_addi, Md.v_subi, Md.v_gti, Md.v_lti, Md.v_gei, Md.v_lei, Md.v_eqi, Md.v_nei, Md.v_inti, Md.v_intb, Md.v_is, Md.v_isn, Md.v_in0, Md.v_in1, Md.v_in2, Md.v_in3, Md.v_in4, Md.v_in5, Md.v_in6, Md.v_in7, Md.v_lenl, Md.v_lent, Md.v_acat, Md.v_kca, Md.v_kcat, Md.v_lam, Md.v_cap0, Md.v_capc, Md.v_cs1, Md.v_cs2, Md.v_cs3, Md.v_cs4, Md.v_runAsk, Md.v_ask, Md.v_askO, Md.v_askR1, Md.v_askR2, Md.v_lamR1, Md.v_lamR2, Md.v_nf0, Md.v_nf1, Md.v_nf2, Md.v_nf3, Md.v_nf4, Md.v_nf5, Md.v_nfa0, Md.v_nfac, Md.v_nff0, Md.v_nffc, Md.v_apo, Md.v_api, Md.v_ca5, Md.v_ca6, Md.v_ca7, Md.v_ci_3, Md.v_ci_4, Md.v_in8, Md.v_nc0, Md.v_nc1, Md.v_nc2, Md.v_nc3, Md.v_nc4, Md.v_nc5, Md.v_nc6, Md.v_nc7, Md.v_nc8, Md.v_nc9, Md.v_nc10, Md.v_nc11, Md.v_nc12, Md.v_nc13, Md.v_nc14, Md.v_nc15, Md.v_nc16, Md.v_nc17, Md.v_nc18, Md.v_nc19, Md.v_nc20, Md.v_nc21, Md.v_nc22, Md.v_nc23, Md.v_nc24, Md.v_nc25, Md.v_nc26, Md.v_nc27, Md.v_nc28, Md.v_nc29, Md.v_nc30, Md.v_nc31, Md.v_nc32, List.cons_append, List.nil_append, List.replicate_zero, List.replicate_succ, List.getElem?_cons_zero, List.getElem?_cons_succ, List.set_cons_zero, List.set_cons_succ, List.map_nil, List.map_cons, List.append_nil, Bool.not_true, Bool.not_false, Slot.put, List.length_cons, List.length_nil, List.length_append, Nat.reduceAdd, Nat.reduceLT, Nat.reduceLeDiff, Nat.reduceSub, Int.reduceLT, Int.reduceLE, Int.reduceEq, Int.reduceBEq, Int.reduceAdd, Int.reduceSub, Int.reduceMul, Int.reduceNeg, Int.reduceToNat, String.reduceBEq, decide_true, decide_false, Bool.true_and, Bool.false_and, Bool.and_true, Bool.and_false, Bool.true_or, Bool.false_or, Bool.or_true, Bool.or_false, if_true, if_false, ite_true, ite_false, Md.ofStr_beq, Bool.false_eq_true, beq_self_eq_true, reduceIte, Nat.zero_add, reduceCtorEq, ti_int_non, ti_int_bl, ti_int_int, ti_int_str, ti_int_tup, ti_int_lst, ti_int_dk, ti_int_x1, ti_int_x2, ti_bool_non, ti_bool_bl, ti_bool_int, ti_bool_str, ti_bool_tup, ti_bool_lst, ti_bool_dk, ti_bool_x1, ti_bool_x2, ti_list_tuple_non, ti_list_tuple_bl, ti_list_tuple_int, ti_list_tuple_str, ti_list_tuple_tup, ti_list_tuple_lst, ti_list_tuple_dk, ti_list_tuple_x1, ti_list_tuple_x2, ti_BadValue_non, ti_BadValue_bl, ti_BadValue_int, ti_BadValue_str, ti_BadValue_tup, ti_BadValue_lst, ti_BadValue_dk, ti_BadValue_x1, ti_BadValue_x2, ti_BadNumber_non, ti_BadNumber_bl, ti_BadNumber_int, ti_BadNumber_str, ti_BadNumber_tup, ti_BadNumber_lst, ti_BadNumber_dk, ti_BadNumber_x1, ti_BadNumber_x2, ta_part_x1, ta_part_x2, tx_RulesError_1, tx_RulesError_2, e1, d1, e2]
  have d1 : decide (k < 2) = false := decide_eq_false k2
  by_cases k3 : k = 2
  · subst k3
    obtain ⟨d, q2, e2, b1, b2, b3⟩ := dr a3 100000 (by decide) big5 (by omega)
    refine ⟨d, q2, ?_, b1, by omega, b3.mono (by omega)⟩
    simp only [sem__law_great, b__law_great, b__law_great_i1, b__law_great_i2, b__law_great_s1, b__law_great_s2, b__law_great_s3, b__law_great_s4, Md.v_seq, Md.v_nx, Md.v_rt, Md.v_bk, Md.v_ct, Md.v_ex, Md.v_ok, Md.v_bx, Md.v_to, Md.v_tx, Md.v_oR, Md.v_sR, Md.v_var, Md.v_k, Md.v_op2, Md.v_k2, Md.v_k3, Md.v_op1, Md.v_k1, Md.v_bR, Md.v_bool, Md.v_not, Md.v_knot, Md.v_and, Md.v_and1, Md.v_and0, Md.v_or, Md.v_or1, Md.v_or0, Md.v_nR, Md.v_notV, Md.v_aR1, Md.v_aR0, Md.v_andV, Md.v_orR1, Md.v_orR0, Md.v_orV, Md.v_if, Md.v_if1, Md.v_if0, Md.v_anil, Md.v_acons, Md.v_kac, Md.v_kad, Md.v_ob1, Md.v_ob2, Md.v_aobj, Md.v_ds0, Md.v_ds1, Md.v_ds2, Md.v_ds3, Md.v_ds4, Md.v_ds5, Md.v_ds6, Md.v_dsg, Md.v_dso, Md.v_dat0, Md.v_datc, Md.v_dco, Md.v_tup, Md.v_lst, Md.v_new, Md.v_lst', Md.v_tup', Md.v_new', Md.v_blR, Md.v_cb, Md.v_cb1, Md.v_cb2, Md.v_slR, Md.v_call, Md.v_cd1, Md.v_cd2, Md.v_ca0, Md.v_ca1, Md.v_ca2, Md.v_ca3, Md.v_ca4, Md.v_ci1, Md.v_ci2, Md.v_ciS, Md.v_ci_0, Md.v_ci_1, Md.v_ci_2, Md.v_io1, Md.v_io2, Md.v_put, Md.v_pu1, Md.v_pu2, Md.v_st1, Md.v_st2, Md.v_st3, Md.v_setE, Md.v_nxO, Md.v_set, Md.v_kset, Md.v_snew, Md.v_knew, Md.v_expr, Md.v_kex, Md.v_ret, Md.v_kret, Md.v_retN, Md.v_nil, Md.v_sif, Md.v_if_t, Md.v_if_f, Md.v_fr, Md.v_freeze, Md.v_la1, Md.v_la2, Md.v_lst_at, Md.v_ixR, Md.v_ixO, Md.v_gix, Md.v_kix, Md.v_leR, Md.v_lenO, Md.v_sput, Md.v_kpu, Md.v_gpu, Md.v_kpv, Md.v_gme, Md.v_kme, Md.v_meth, Md.v_raise, Md.v_ra1, Md.v_ra2, Md.v_par, Md.v_pa, Md.v_pa2, Md.v_tryK, Md.v_tk1, Md.v_tk2', Md.v_run, Md.v_ru1, Md.v_ru2, Md.v_ru3, Md.v_ou0, Md.v_ou1, Md.v_ou2, Md.v_it, Md.v_it1, Md.v_it2, Md.v_r1, Md.v_for, Md.v_kfo, Md.v_m1, Md.v_m1R, Md.v_m1S, Md.v_ifB, Md.v_ifB1, Md.v_ifB0, Md.v_mkD, Md.v_mkX, Md.v_make, Md.v_makeK, Md.v_mkG, Md.v_fldS, Md.v_fsR, Md.v_ins0, Md.v_fsO, Md.v_fld, Md.v_its, Md.v_lc, Md.v_lcR, Md.v_ofNew, Md.v_ofR, Md.v_chain, Md.v_ch1, Md.v_chY, Md.v_ch2t, Md.v_ch2f, Md.v_ch3, Md.v_cut, Md.v_cu1, Md.v_cu2, Md.v_cu3, Md.v_nop, Md.v_part, Md.v_ptR, Md.v_unp, Md.v_unO, Md.v_tgO, Md.v_tgs0, Md.v_tgs, Md.v_tgB, Md.v_ttt, Md.v_tname, Md.v_fg0, Md.v_fgc, Md.v_fg1, Md.v_fgn, Md.v_fgt, Md.v_fgb, Md.v_fgr, Md.v_fgx, Md.v_lc0, Md.v_lcc, Md.v_lc1, Md.v_lc2t, Md.v_lc2f, Md.v_lc3, Md.v_yes, Md.v_wi0, Md.v_wi, Md.v_re0, Md.v_re, Md.v_reS, Md.v_ow0, Md.v_ow, Md.v_oku, Md.v_okd, Md.v_lce, Md.v_lcet, Md.v_callK, Md.v_ckR, Md.v_callN, Md.v_cnd1, Md.v_cnd2, Md.v_cn0, Md.v_cn1, Md.v_cn2, Md.v_cn3, Md.v_emk0, Md.v_aug, Md.v_agS, Md.v_kag, Md.v_agO, Md.v_r2, Md.v_r2R, Md.v_r1n, Md.v_rg0, Md.v_rgs, Md.v_emk, Md.v_mkR1, Md.v_mkR2, Md.v_tkx, Md.v_tkf, Md.v_tkt, Md.v_ttl, Md.v_stf, Md.v_lk0, Md.v_lk, Md.v_lkt, Md.v_lkf, Md.v_pd0, Md.v_pd, Md.v_pdt, Md.v_pdf, Md.v_atc, Md.v_atx, Md.v_eq, Md.v_ne, Md.v_eqs, Md.v_nes, Md.v_inl, Md.v_int, Md.v_nil', Md.v_nit', Md.v_fl0, Md.v_fl1, Md.v_fl2, Md.v_fl3, Md.v_fl4, Md.v_fl5, Md.v_fa0, Md.v_fac, Md.v_q0, Md.v_q1, Md.v_q2, Md.v_q3, Md.v_q4, Md.v_q5, Md.v_q6, Md.v_q7, Md.v_qs0, Md.v_qsc, Md.v_qsn, Md.v_qns, Md.v_i0, Md.v_i1, Md.v_qa, Md.v_qb, Md.v_qc, Md.v_qd, Md.v_qe, Md.v_qf, Md.v_qg, Md.v_qh, Md.v_qi, Md.v_qj, Md.v_qk, Md.v_ql, Md.v_qm, Md.v_qn, Md.v_qo, Md.v_qp, Md.v_qq, Md.v_qr, Md.v_qs, Md.v_qt, Md.v_qu, Md.v_qv, Md.v_qw, Md.v_qx, Md.v_qy, Md.v_qz, Md.v_atI0, Md.v_atI1, Md.v_atI2, Md.v_atI3, Md.v_atI4, Md.v_atI5, Md.v_atI6, Md.v_atI7, Md.v_atI8, Md.v_atI9, Md.v_atI10, Md.v_atI11, Md.v_atI12, Md.v_ixt, Md.v_ixl, Md.v_addi, Md.v_subi, Md.v_gti, Md.v_lti, Md.v_gei, Md.v_lei, Md.v_eqi, Md.v_nei, Md.v_inti, Md.v_intb, Md.v_is, Md.v_isn, Md.v_in0, Md.v_in1, Md.v_in2, Md.v_in3, Md.v_in4, Md.v_in5, Md.v_in6, Md.v_in7, Md.v_lenl, Md.v_lent, Md.v_acat, Md.v_kca, Md.v_kcat, Md.v_lam, Md.v_cap0, Md.v_capc, Md.v_cs1, Md.v_cs2, Md.v_cs3, Md.v_cs4, Md.v_runAsk, Md.v_ask, Md.v_askO, Md.v_askR1, Md.v_askR2, Md.v_lamR1, Md.v_lamR2, Md.v_nf0, Md.v_nf1, Md.v_nf2, Md.v_nf3, Md.v_nf4, Md.v_nf5, Md.v_nfa0, Md.v_nfac, Md.v_nff0, Md.v_nffc, Md.v_apo, Md.v_api, Md.v_ca5, Md.v_ca6, Md.v_ca7, Md.v_ci_3, Md.v_ci_4, Md.v_in8, Md.v_nc0, Md.v_nc1, Md.v_nc2, Md.v_nc3, Md.v_nc4, Md.v_nc5, Md.v_nc6, Md.v_nc7, Md.v_nc8, Md.v_nc9, Md.v_nc10, Md.v_nc11, Md.v_nc12, Md.v_nc13, Md.v_nc14, Md.v_nc15, Md.v_nc16, Md.v_nc17, Md.v_nc18, Md.v_nc19, Md.v_nc20, Md.v_nc21, Md.v_nc22, Md.v_nc23, Md.v_nc24, Md.v_nc25, Md.v_nc26, Md.v_nc27, Md.v_nc28, Md.v_nc29, Md.v_nc30, Md.v_nc31, Md.v_nc32, List.cons_append, List.nil_append, List.replicate_zero, List.replicate_succ, List.getElem?_cons_zero, List.getElem?_cons_succ, List.set_cons_zero, List.set_cons_succ, List.map_nil, List.map_cons, List.append_nil, Bool.not_true, Bool.not_false, Slot.put, List.length_cons, List.length_nil, List.length_append, Nat.reduceAdd, Nat.reduceLT, Nat.reduceLeDiff, Nat.reduceSub, Int.reduceLT, Int.reduceLE, Int.reduceEq, Int.reduceBEq, Int.reduceAdd, Int.reduceSub, Int.reduceMul, Int.reduceNeg, Int.reduceToNat, String.reduceBEq, decide_true, decide_false, Bool.true_and, Bool.false_and, Bool.and_true, Bool.and_false, Bool.true_or, Bool.false_or, Bool.or_true, Bool.or_false, if_true, if_false, ite_true, ite_false, Md.ofStr_beq, Bool.false_eq_true, beq_self_eq_true, reduceIte, Nat.zero_add, reduceCtorEq, ti_int_non, ti_int_bl, ti_int_int, ti_int_str, ti_int_tup, ti_int_lst, ti_int_dk, ti_int_x1, ti_int_x2, ti_bool_non, ti_bool_bl, ti_bool_int, ti_bool_str, ti_bool_tup, ti_bool_lst, ti_bool_dk, ti_bool_x1, ti_bool_x2, ti_list_tuple_non, ti_list_tuple_bl, ti_list_tuple_int, ti_list_tuple_str, ti_list_tuple_tup, ti_list_tuple_lst, ti_list_tuple_dk, ti_list_tuple_x1, ti_list_tuple_x2, ti_BadValue_non, ti_BadValue_bl, ti_BadValue_int, ti_BadValue_str, ti_BadValue_tup, ti_BadValue_lst, ti_BadValue_dk, ti_BadValue_x1, ti_BadValue_x2, ti_BadNumber_non, ti_BadNumber_bl, ti_BadNumber_int, ti_BadNumber_str, ti_BadNumber_tup, ti_BadNumber_lst, ti_BadNumber_dk, ti_BadNumber_x1, ti_BadNumber_x2, ta_part_x1, ta_part_x2, tx_RulesError_1, tx_RulesError_2, e1, d1, e2]
  have d2 : (k == 2) = false := by simpa using k3
  obtain ⟨x, q2, e2, b1, b2, b3⟩ := dr a3 (100000000000000000000) (by decide) big20 (by omega)
  obtain ⟨y, q3, e3, c1, c2, c3⟩ := dr b3 (100000000000000000000) (by decide) big20 (by omega)
  have p20 : dPow (.int 10) (.int 20) = some (.int 100000000000000000000) := p_ok (i := 10) (j := 20) (by decide) (by decide) (by decide)
  have p40 : dPow (.int 10) (.int 40) = some (.int 10000000000000000000000000000000000000000) := p_ok (i := 10) (j := 40) (by decide) (by decide) (by decide)
  have bx : Bt 100 x := by unfold Bt; omega
  have m1 : dMul (.int x) (.int (100000000000000000000)) = some (.int (x * 100000000000000000000)) := mul_bt (a := 100) (b := 100) bx (by unfold Bt; omega)
  by_cases k4 : k = 3
  · subst k4
    refine ⟨x * 100000000000000000000 + y, q3, ?_, by omega, by omega, c3.mono (by omega)⟩
    simp only [sem__law_great, b__law_great, b__law_great_i1, b__law_great_i2, b__law_great_s1, b__law_great_s2, b__law_great_s3, b__law_great_s4, Md.v_seq, Md.v_nx, Md.v_rt, Md.v_bk, Md.v_ct, Md.v_ex, Md.v_ok, Md.v_bx, Md.v_to, Md.v_tx, Md.v_oR, Md.v_sR, Md.v_var, Md.v_k, Md.v_op2, Md.v_k2, Md.v_k3, Md.v_op1, Md.v_k1, Md.v_bR, Md.v_bool, Md.v_not, Md.v_knot, Md.v_and, Md.v_and1, Md.v_and0, Md.v_or, Md.v_or1, Md.v_or0, Md.v_nR, Md.v_notV, Md.v_aR1, Md.v_aR0, Md.v_andV, Md.v_orR1, Md.v_orR0, Md.v_orV, Md.v_if, Md.v_if1, Md.v_if0, Md.v_anil, Md.v_acons, Md.v_kac, Md.v_kad, Md.v_ob1, Md.v_ob2, Md.v_aobj, Md.v_ds0, Md.v_ds1, Md.v_ds2, Md.v_ds3, Md.v_ds4, Md.v_ds5, Md.v_ds6, Md.v_dsg, Md.v_dso, Md.v_dat0, Md.v_datc, Md.v_dco, Md.v_tup, Md.v_lst, Md.v_new, Md.v_lst', Md.v_tup', Md.v_new', Md.v_blR, Md.v_cb, Md.v_cb1, Md.v_cb2, Md.v_slR, Md.v_call, Md.v_cd1, Md.v_cd2, Md.v_ca0, Md.v_ca1, Md.v_ca2, Md.v_ca3, Md.v_ca4, Md.v_ci1, Md.v_ci2, Md.v_ciS, Md.v_ci_0, Md.v_ci_1, Md.v_ci_2, Md.v_io1, Md.v_io2, Md.v_put, Md.v_pu1, Md.v_pu2, Md.v_st1, Md.v_st2, Md.v_st3, Md.v_setE, Md.v_nxO, Md.v_set, Md.v_kset, Md.v_snew, Md.v_knew, Md.v_expr, Md.v_kex, Md.v_ret, Md.v_kret, Md.v_retN, Md.v_nil, Md.v_sif, Md.v_if_t, Md.v_if_f, Md.v_fr, Md.v_freeze, Md.v_la1, Md.v_la2, Md.v_lst_at, Md.v_ixR, Md.v_ixO, Md.v_gix, Md.v_kix, Md.v_leR, Md.v_lenO, Md.v_sput, Md.v_kpu, Md.v_gpu, Md.v_kpv, Md.v_gme, Md.v_kme, Md.v_meth, Md.v_raise, Md.v_ra1, Md.v_ra2, Md.v_par, Md.v_pa, Md.v_pa2, Md.v_tryK, Md.v_tk1, Md.v_tk2', Md.v_run, Md.v_ru1, Md.v_ru2, Md.v_ru3, Md.v_ou0, Md.v_ou1, Md.v_ou2, Md.v_it, Md.v_it1, Md.v_it2, Md.v_r1, Md.v_for, Md.v_kfo, Md.v_m1, Md.v_m1R, Md.v_m1S, Md.v_ifB, Md.v_ifB1, Md.v_ifB0, Md.v_mkD, Md.v_mkX, Md.v_make, Md.v_makeK, Md.v_mkG, Md.v_fldS, Md.v_fsR, Md.v_ins0, Md.v_fsO, Md.v_fld, Md.v_its, Md.v_lc, Md.v_lcR, Md.v_ofNew, Md.v_ofR, Md.v_chain, Md.v_ch1, Md.v_chY, Md.v_ch2t, Md.v_ch2f, Md.v_ch3, Md.v_cut, Md.v_cu1, Md.v_cu2, Md.v_cu3, Md.v_nop, Md.v_part, Md.v_ptR, Md.v_unp, Md.v_unO, Md.v_tgO, Md.v_tgs0, Md.v_tgs, Md.v_tgB, Md.v_ttt, Md.v_tname, Md.v_fg0, Md.v_fgc, Md.v_fg1, Md.v_fgn, Md.v_fgt, Md.v_fgb, Md.v_fgr, Md.v_fgx, Md.v_lc0, Md.v_lcc, Md.v_lc1, Md.v_lc2t, Md.v_lc2f, Md.v_lc3, Md.v_yes, Md.v_wi0, Md.v_wi, Md.v_re0, Md.v_re, Md.v_reS, Md.v_ow0, Md.v_ow, Md.v_oku, Md.v_okd, Md.v_lce, Md.v_lcet, Md.v_callK, Md.v_ckR, Md.v_callN, Md.v_cnd1, Md.v_cnd2, Md.v_cn0, Md.v_cn1, Md.v_cn2, Md.v_cn3, Md.v_emk0, Md.v_aug, Md.v_agS, Md.v_kag, Md.v_agO, Md.v_r2, Md.v_r2R, Md.v_r1n, Md.v_rg0, Md.v_rgs, Md.v_emk, Md.v_mkR1, Md.v_mkR2, Md.v_tkx, Md.v_tkf, Md.v_tkt, Md.v_ttl, Md.v_stf, Md.v_lk0, Md.v_lk, Md.v_lkt, Md.v_lkf, Md.v_pd0, Md.v_pd, Md.v_pdt, Md.v_pdf, Md.v_atc, Md.v_atx, Md.v_eq, Md.v_ne, Md.v_eqs, Md.v_nes, Md.v_inl, Md.v_int, Md.v_nil', Md.v_nit', Md.v_fl0, Md.v_fl1, Md.v_fl2, Md.v_fl3, Md.v_fl4, Md.v_fl5, Md.v_fa0, Md.v_fac, Md.v_q0, Md.v_q1, Md.v_q2, Md.v_q3, Md.v_q4, Md.v_q5, Md.v_q6, Md.v_q7, Md.v_qs0, Md.v_qsc, Md.v_qsn, Md.v_qns, Md.v_i0, Md.v_i1, Md.v_qa, Md.v_qb, Md.v_qc, Md.v_qd, Md.v_qe, Md.v_qf, Md.v_qg, Md.v_qh, Md.v_qi, Md.v_qj, Md.v_qk, Md.v_ql, Md.v_qm, Md.v_qn, Md.v_qo, Md.v_qp, Md.v_qq, Md.v_qr, Md.v_qs, Md.v_qt, Md.v_qu, Md.v_qv, Md.v_qw, Md.v_qx, Md.v_qy, Md.v_qz, Md.v_atI0, Md.v_atI1, Md.v_atI2, Md.v_atI3, Md.v_atI4, Md.v_atI5, Md.v_atI6, Md.v_atI7, Md.v_atI8, Md.v_atI9, Md.v_atI10, Md.v_atI11, Md.v_atI12, Md.v_ixt, Md.v_ixl, Md.v_addi, Md.v_subi, Md.v_gti, Md.v_lti, Md.v_gei, Md.v_lei, Md.v_eqi, Md.v_nei, Md.v_inti, Md.v_intb, Md.v_is, Md.v_isn, Md.v_in0, Md.v_in1, Md.v_in2, Md.v_in3, Md.v_in4, Md.v_in5, Md.v_in6, Md.v_in7, Md.v_lenl, Md.v_lent, Md.v_acat, Md.v_kca, Md.v_kcat, Md.v_lam, Md.v_cap0, Md.v_capc, Md.v_cs1, Md.v_cs2, Md.v_cs3, Md.v_cs4, Md.v_runAsk, Md.v_ask, Md.v_askO, Md.v_askR1, Md.v_askR2, Md.v_lamR1, Md.v_lamR2, Md.v_nf0, Md.v_nf1, Md.v_nf2, Md.v_nf3, Md.v_nf4, Md.v_nf5, Md.v_nfa0, Md.v_nfac, Md.v_nff0, Md.v_nffc, Md.v_apo, Md.v_api, Md.v_ca5, Md.v_ca6, Md.v_ca7, Md.v_ci_3, Md.v_ci_4, Md.v_in8, Md.v_nc0, Md.v_nc1, Md.v_nc2, Md.v_nc3, Md.v_nc4, Md.v_nc5, Md.v_nc6, Md.v_nc7, Md.v_nc8, Md.v_nc9, Md.v_nc10, Md.v_nc11, Md.v_nc12, Md.v_nc13, Md.v_nc14, Md.v_nc15, Md.v_nc16, Md.v_nc17, Md.v_nc18, Md.v_nc19, Md.v_nc20, Md.v_nc21, Md.v_nc22, Md.v_nc23, Md.v_nc24, Md.v_nc25, Md.v_nc26, Md.v_nc27, Md.v_nc28, Md.v_nc29, Md.v_nc30, Md.v_nc31, Md.v_nc32, List.cons_append, List.nil_append, List.replicate_zero, List.replicate_succ, List.getElem?_cons_zero, List.getElem?_cons_succ, List.set_cons_zero, List.set_cons_succ, List.map_nil, List.map_cons, List.append_nil, Bool.not_true, Bool.not_false, Slot.put, List.length_cons, List.length_nil, List.length_append, Nat.reduceAdd, Nat.reduceLT, Nat.reduceLeDiff, Nat.reduceSub, Int.reduceLT, Int.reduceLE, Int.reduceEq, Int.reduceBEq, Int.reduceAdd, Int.reduceSub, Int.reduceMul, Int.reduceNeg, Int.reduceToNat, String.reduceBEq, decide_true, decide_false, Bool.true_and, Bool.false_and, Bool.and_true, Bool.and_false, Bool.true_or, Bool.false_or, Bool.or_true, Bool.or_false, if_true, if_false, ite_true, ite_false, Md.ofStr_beq, Bool.false_eq_true, beq_self_eq_true, reduceIte, Nat.zero_add, reduceCtorEq, ti_int_non, ti_int_bl, ti_int_int, ti_int_str, ti_int_tup, ti_int_lst, ti_int_dk, ti_int_x1, ti_int_x2, ti_bool_non, ti_bool_bl, ti_bool_int, ti_bool_str, ti_bool_tup, ti_bool_lst, ti_bool_dk, ti_bool_x1, ti_bool_x2, ti_list_tuple_non, ti_list_tuple_bl, ti_list_tuple_int, ti_list_tuple_str, ti_list_tuple_tup, ti_list_tuple_lst, ti_list_tuple_dk, ti_list_tuple_x1, ti_list_tuple_x2, ti_BadValue_non, ti_BadValue_bl, ti_BadValue_int, ti_BadValue_str, ti_BadValue_tup, ti_BadValue_lst, ti_BadValue_dk, ti_BadValue_x1, ti_BadValue_x2, ti_BadNumber_non, ti_BadNumber_bl, ti_BadNumber_int, ti_BadNumber_str, ti_BadNumber_tup, ti_BadNumber_lst, ti_BadNumber_dk, ti_BadNumber_x1, ti_BadNumber_x2, ta_part_x1, ta_part_x2, tx_RulesError_1, tx_RulesError_2, e1, d1, e2, e3, p20, m1]
  · have d3 : (k == 3) = false := by simpa using k4
    obtain ⟨z, q4, e4, f1, f2, f3⟩ := dr c3 (100000000000000000000) (by decide) big20 (by omega)
    have m2 : dMul (.int (x * 100000000000000000000 + y)) (.int (10000000000000000000000000000000000000000)) = some (.int ((x * 100000000000000000000 + y) * 10000000000000000000000000000000000000000)) := mul_bt (a := 200) (b := 200) (by unfold Bt; omega) (by unfold Bt; omega)
    refine ⟨(x * 100000000000000000000 + y) * 10000000000000000000000000000000000000000 + z, q4, ?_, by omega, by omega, f3.mono (by omega)⟩
    simp only [sem__law_great, b__law_great, b__law_great_i1, b__law_great_i2, b__law_great_s1, b__law_great_s2, b__law_great_s3, b__law_great_s4, Md.v_seq, Md.v_nx, Md.v_rt, Md.v_bk, Md.v_ct, Md.v_ex, Md.v_ok, Md.v_bx, Md.v_to, Md.v_tx, Md.v_oR, Md.v_sR, Md.v_var, Md.v_k, Md.v_op2, Md.v_k2, Md.v_k3, Md.v_op1, Md.v_k1, Md.v_bR, Md.v_bool, Md.v_not, Md.v_knot, Md.v_and, Md.v_and1, Md.v_and0, Md.v_or, Md.v_or1, Md.v_or0, Md.v_nR, Md.v_notV, Md.v_aR1, Md.v_aR0, Md.v_andV, Md.v_orR1, Md.v_orR0, Md.v_orV, Md.v_if, Md.v_if1, Md.v_if0, Md.v_anil, Md.v_acons, Md.v_kac, Md.v_kad, Md.v_ob1, Md.v_ob2, Md.v_aobj, Md.v_ds0, Md.v_ds1, Md.v_ds2, Md.v_ds3, Md.v_ds4, Md.v_ds5, Md.v_ds6, Md.v_dsg, Md.v_dso, Md.v_dat0, Md.v_datc, Md.v_dco, Md.v_tup, Md.v_lst, Md.v_new, Md.v_lst', Md.v_tup', Md.v_new', Md.v_blR, Md.v_cb, Md.v_cb1, Md.v_cb2, Md.v_slR, Md.v_call, Md.v_cd1, Md.v_cd2, Md.v_ca0, Md.v_ca1, Md.v_ca2, Md.v_ca3, Md.v_ca4, Md.v_ci1, Md.v_ci2, Md.v_ciS, Md.v_ci_0, Md.v_ci_1, Md.v_ci_2, Md.v_io1, Md.v_io2, Md.v_put, Md.v_pu1, Md.v_pu2, Md.v_st1, Md.v_st2, Md.v_st3, Md.v_setE, Md.v_nxO, Md.v_set, Md.v_kset, Md.v_snew, Md.v_knew, Md.v_expr, Md.v_kex, Md.v_ret, Md.v_kret, Md.v_retN, Md.v_nil, Md.v_sif, Md.v_if_t, Md.v_if_f, Md.v_fr, Md.v_freeze, Md.v_la1, Md.v_la2, Md.v_lst_at, Md.v_ixR, Md.v_ixO, Md.v_gix, Md.v_kix, Md.v_leR, Md.v_lenO, Md.v_sput, Md.v_kpu, Md.v_gpu, Md.v_kpv, Md.v_gme, Md.v_kme, Md.v_meth, Md.v_raise, Md.v_ra1, Md.v_ra2, Md.v_par, Md.v_pa, Md.v_pa2, Md.v_tryK, Md.v_tk1, Md.v_tk2', Md.v_run, Md.v_ru1, Md.v_ru2, Md.v_ru3, Md.v_ou0, Md.v_ou1, Md.v_ou2, Md.v_it, Md.v_it1, Md.v_it2, Md.v_r1, Md.v_for, Md.v_kfo, Md.v_m1, Md.v_m1R, Md.v_m1S, Md.v_ifB, Md.v_ifB1, Md.v_ifB0, Md.v_mkD, Md.v_mkX, Md.v_make, Md.v_makeK, Md.v_mkG, Md.v_fldS, Md.v_fsR, Md.v_ins0, Md.v_fsO, Md.v_fld, Md.v_its, Md.v_lc, Md.v_lcR, Md.v_ofNew, Md.v_ofR, Md.v_chain, Md.v_ch1, Md.v_chY, Md.v_ch2t, Md.v_ch2f, Md.v_ch3, Md.v_cut, Md.v_cu1, Md.v_cu2, Md.v_cu3, Md.v_nop, Md.v_part, Md.v_ptR, Md.v_unp, Md.v_unO, Md.v_tgO, Md.v_tgs0, Md.v_tgs, Md.v_tgB, Md.v_ttt, Md.v_tname, Md.v_fg0, Md.v_fgc, Md.v_fg1, Md.v_fgn, Md.v_fgt, Md.v_fgb, Md.v_fgr, Md.v_fgx, Md.v_lc0, Md.v_lcc, Md.v_lc1, Md.v_lc2t, Md.v_lc2f, Md.v_lc3, Md.v_yes, Md.v_wi0, Md.v_wi, Md.v_re0, Md.v_re, Md.v_reS, Md.v_ow0, Md.v_ow, Md.v_oku, Md.v_okd, Md.v_lce, Md.v_lcet, Md.v_callK, Md.v_ckR, Md.v_callN, Md.v_cnd1, Md.v_cnd2, Md.v_cn0, Md.v_cn1, Md.v_cn2, Md.v_cn3, Md.v_emk0, Md.v_aug, Md.v_agS, Md.v_kag, Md.v_agO, Md.v_r2, Md.v_r2R, Md.v_r1n, Md.v_rg0, Md.v_rgs, Md.v_emk, Md.v_mkR1, Md.v_mkR2, Md.v_tkx, Md.v_tkf, Md.v_tkt, Md.v_ttl, Md.v_stf, Md.v_lk0, Md.v_lk, Md.v_lkt, Md.v_lkf, Md.v_pd0, Md.v_pd, Md.v_pdt, Md.v_pdf, Md.v_atc, Md.v_atx, Md.v_eq, Md.v_ne, Md.v_eqs, Md.v_nes, Md.v_inl, Md.v_int, Md.v_nil', Md.v_nit', Md.v_fl0, Md.v_fl1, Md.v_fl2, Md.v_fl3, Md.v_fl4, Md.v_fl5, Md.v_fa0, Md.v_fac, Md.v_q0, Md.v_q1, Md.v_q2, Md.v_q3, Md.v_q4, Md.v_q5, Md.v_q6, Md.v_q7, Md.v_qs0, Md.v_qsc, Md.v_qsn, Md.v_qns, Md.v_i0, Md.v_i1, Md.v_qa, Md.v_qb, Md.v_qc, Md.v_qd, Md.v_qe, Md.v_qf, Md.v_qg, Md.v_qh, Md.v_qi, Md.v_qj, Md.v_qk, Md.v_ql, Md.v_qm, Md.v_qn, Md.v_qo, Md.v_qp, Md.v_qq, Md.v_qr, Md.v_qs, Md.v_qt, Md.v_qu, Md.v_qv, Md.v_qw, Md.v_qx, Md.v_qy, Md.v_qz, Md.v_atI0, Md.v_atI1, Md.v_atI2, Md.v_atI3, Md.v_atI4, Md.v_atI5, Md.v_atI6, Md.v_atI7, Md.v_atI8, Md.v_atI9, Md.v_atI10, Md.v_atI11, Md.v_atI12, Md.v_ixt, Md.v_ixl, Md.v_addi, Md.v_subi, Md.v_gti, Md.v_lti, Md.v_gei, Md.v_lei, Md.v_eqi, Md.v_nei, Md.v_inti, Md.v_intb, Md.v_is, Md.v_isn, Md.v_in0, Md.v_in1, Md.v_in2, Md.v_in3, Md.v_in4, Md.v_in5, Md.v_in6, Md.v_in7, Md.v_lenl, Md.v_lent, Md.v_acat, Md.v_kca, Md.v_kcat, Md.v_lam, Md.v_cap0, Md.v_capc, Md.v_cs1, Md.v_cs2, Md.v_cs3, Md.v_cs4, Md.v_runAsk, Md.v_ask, Md.v_askO, Md.v_askR1, Md.v_askR2, Md.v_lamR1, Md.v_lamR2, Md.v_nf0, Md.v_nf1, Md.v_nf2, Md.v_nf3, Md.v_nf4, Md.v_nf5, Md.v_nfa0, Md.v_nfac, Md.v_nff0, Md.v_nffc, Md.v_apo, Md.v_api, Md.v_ca5, Md.v_ca6, Md.v_ca7, Md.v_ci_3, Md.v_ci_4, Md.v_in8, Md.v_nc0, Md.v_nc1, Md.v_nc2, Md.v_nc3, Md.v_nc4, Md.v_nc5, Md.v_nc6, Md.v_nc7, Md.v_nc8, Md.v_nc9, Md.v_nc10, Md.v_nc11, Md.v_nc12, Md.v_nc13, Md.v_nc14, Md.v_nc15, Md.v_nc16, Md.v_nc17, Md.v_nc18, Md.v_nc19, Md.v_nc20, Md.v_nc21, Md.v_nc22, Md.v_nc23, Md.v_nc24, Md.v_nc25, Md.v_nc26, Md.v_nc27, Md.v_nc28, Md.v_nc29, Md.v_nc30, Md.v_nc31, Md.v_nc32, List.cons_append, List.nil_append, List.replicate_zero, List.replicate_succ, List.getElem?_cons_zero, List.getElem?_cons_succ, List.set_cons_zero, List.set_cons_succ, List.map_nil, List.map_cons, List.append_nil, Bool.not_true, Bool.not_false, Slot.put, List.length_cons, List.length_nil, List.length_append, Nat.reduceAdd, Nat.reduceLT, Nat.reduceLeDiff, Nat.reduceSub, Int.reduceLT, Int.reduceLE, Int.reduceEq, Int.reduceBEq, Int.reduceAdd, Int.reduceSub, Int.reduceMul, Int.reduceNeg, Int.reduceToNat, String.reduceBEq, decide_true, decide_false, Bool.true_and, Bool.false_and, Bool.and_true, Bool.and_false, Bool.true_or, Bool.false_or, Bool.or_true, Bool.or_false, if_true, if_false, ite_true, ite_false, Md.ofStr_beq, Bool.false_eq_true, beq_self_eq_true, reduceIte, Nat.zero_add, reduceCtorEq, ti_int_non, ti_int_bl, ti_int_int, ti_int_str, ti_int_tup, ti_int_lst, ti_int_dk, ti_int_x1, ti_int_x2, ti_bool_non, ti_bool_bl, ti_bool_int, ti_bool_str, ti_bool_tup, ti_bool_lst, ti_bool_dk, ti_bool_x1, ti_bool_x2, ti_list_tuple_non, ti_list_tuple_bl, ti_list_tuple_int, ti_list_tuple_str, ti_list_tuple_tup, ti_list_tuple_lst, ti_list_tuple_dk, ti_list_tuple_x1, ti_list_tuple_x2, ti_BadValue_non, ti_BadValue_bl, ti_BadValue_int, ti_BadValue_str, ti_BadValue_tup, ti_BadValue_lst, ti_BadValue_dk, ti_BadValue_x1, ti_BadValue_x2, ti_BadNumber_non, ti_BadNumber_bl, ti_BadNumber_int, ti_BadNumber_str, ti_BadNumber_tup, ti_BadNumber_lst, ti_BadNumber_dk, ti_BadNumber_x1, ti_BadNumber_x2, ta_part_x1, ta_part_x2, tx_RulesError_1, tx_RulesError_2, e1, d1, d2, d3, e2, e3, e4, p20, p40, m1, m2]
theorem isint (n : Int) : sem_is_integer [.dat (.int n)] = .ok (.bl true) [.dat (.int n)] := by
  simp only [sem_is_integer, b_is_integer, Md.v_seq, Md.v_nx, Md.v_rt, Md.v_bk, Md.v_ct, Md.v_ex, Md.v_ok, Md.v_bx, Md.v_to, Md.v_tx, Md.v_oR, Md.v_sR, Md.v_var, Md.v_k, Md.v_op2, Md.v_k2, Md.v_k3, Md.v_op1, Md.v_k1, Md.v_bR, Md.v_bool, Md.v_not, Md.v_knot, Md.v_and, Md.v_and1, Md.v_and0, Md.v_or, Md.v_or1, Md.v_or0, Md.v_nR, Md.v_notV, Md.v_aR1, Md.v_aR0, Md.v_andV, Md.v_orR1, Md.v_orR0, Md.v_orV, Md.v_if, Md.v_if1, Md.v_if0, Md.v_anil, Md.v_acons, Md.v_kac, Md.v_kad, Md.v_ob1, Md.v_ob2, Md.v_aobj, Md.v_ds0, Md.v_ds1, Md.v_ds2, Md.v_ds3, Md.v_ds4, Md.v_ds5, Md.v_ds6, Md.v_dsg, Md.v_dso, Md.v_dat0, Md.v_datc, Md.v_dco, Md.v_tup, Md.v_lst, Md.v_new, Md.v_lst', Md.v_tup', Md.v_new', Md.v_blR, Md.v_cb, Md.v_cb1, Md.v_cb2, Md.v_slR, Md.v_call, Md.v_cd1, Md.v_cd2, Md.v_ca0, Md.v_ca1, Md.v_ca2, Md.v_ca3, Md.v_ca4, Md.v_ci1, Md.v_ci2, Md.v_ciS, Md.v_ci_0, Md.v_ci_1, Md.v_ci_2, Md.v_io1, Md.v_io2, Md.v_put, Md.v_pu1, Md.v_pu2, Md.v_st1, Md.v_st2, Md.v_st3, Md.v_setE, Md.v_nxO, Md.v_set, Md.v_kset, Md.v_snew, Md.v_knew, Md.v_expr, Md.v_kex, Md.v_ret, Md.v_kret, Md.v_retN, Md.v_nil, Md.v_sif, Md.v_if_t, Md.v_if_f, Md.v_fr, Md.v_freeze, Md.v_la1, Md.v_la2, Md.v_lst_at, Md.v_ixR, Md.v_ixO, Md.v_gix, Md.v_kix, Md.v_leR, Md.v_lenO, Md.v_sput, Md.v_kpu, Md.v_gpu, Md.v_kpv, Md.v_gme, Md.v_kme, Md.v_meth, Md.v_raise, Md.v_ra1, Md.v_ra2, Md.v_par, Md.v_pa, Md.v_pa2, Md.v_tryK, Md.v_tk1, Md.v_tk2', Md.v_run, Md.v_ru1, Md.v_ru2, Md.v_ru3, Md.v_ou0, Md.v_ou1, Md.v_ou2, Md.v_it, Md.v_it1, Md.v_it2, Md.v_r1, Md.v_for, Md.v_kfo, Md.v_m1, Md.v_m1R, Md.v_m1S, Md.v_ifB, Md.v_ifB1, Md.v_ifB0, Md.v_mkD, Md.v_mkX, Md.v_make, Md.v_makeK, Md.v_mkG, Md.v_fldS, Md.v_fsR, Md.v_ins0, Md.v_fsO, Md.v_fld, Md.v_its, Md.v_lc, Md.v_lcR, Md.v_ofNew, Md.v_ofR, Md.v_chain, Md.v_ch1, Md.v_chY, Md.v_ch2t, Md.v_ch2f, Md.v_ch3, Md.v_cut, Md.v_cu1, Md.v_cu2, Md.v_cu3, Md.v_nop, Md.v_part, Md.v_ptR, Md.v_unp, Md.v_unO, Md.v_tgO, Md.v_tgs0, Md.v_tgs, Md.v_tgB, Md.v_ttt, Md.v_tname, Md.v_fg0, Md.v_fgc, Md.v_fg1, Md.v_fgn, Md.v_fgt, Md.v_fgb, Md.v_fgr, Md.v_fgx, Md.v_lc0, Md.v_lcc, Md.v_lc1, Md.v_lc2t, Md.v_lc2f, Md.v_lc3, Md.v_yes, Md.v_wi0, Md.v_wi, Md.v_re0, Md.v_re, Md.v_reS, Md.v_ow0, Md.v_ow, Md.v_oku, Md.v_okd, Md.v_lce, Md.v_lcet, Md.v_callK, Md.v_ckR, Md.v_callN, Md.v_cnd1, Md.v_cnd2, Md.v_cn0, Md.v_cn1, Md.v_cn2, Md.v_cn3, Md.v_emk0, Md.v_aug, Md.v_agS, Md.v_kag, Md.v_agO, Md.v_r2, Md.v_r2R, Md.v_r1n, Md.v_rg0, Md.v_rgs, Md.v_emk, Md.v_mkR1, Md.v_mkR2, Md.v_tkx, Md.v_tkf, Md.v_tkt, Md.v_ttl, Md.v_stf, Md.v_lk0, Md.v_lk, Md.v_lkt, Md.v_lkf, Md.v_pd0, Md.v_pd, Md.v_pdt, Md.v_pdf, Md.v_atc, Md.v_atx, Md.v_eq, Md.v_ne, Md.v_eqs, Md.v_nes, Md.v_inl, Md.v_int, Md.v_nil', Md.v_nit', Md.v_fl0, Md.v_fl1, Md.v_fl2, Md.v_fl3, Md.v_fl4, Md.v_fl5, Md.v_fa0, Md.v_fac, Md.v_q0, Md.v_q1, Md.v_q2, Md.v_q3, Md.v_q4, Md.v_q5, Md.v_q6, Md.v_q7, Md.v_qs0, Md.v_qsc, Md.v_qsn, Md.v_qns, Md.v_i0, Md.v_i1, Md.v_qa, Md.v_qb, Md.v_qc, Md.v_qd, Md.v_qe, Md.v_qf, Md.v_qg, Md.v_qh, Md.v_qi, Md.v_qj, Md.v_qk, Md.v_ql, Md.v_qm, Md.v_qn, Md.v_qo, Md.v_qp, Md.v_qq, Md.v_qr, Md.v_qs, Md.v_qt, Md.v_qu, Md.v_qv, Md.v_qw, Md.v_qx, Md.v_qy, Md.v_qz, Md.v_atI0, Md.v_atI1, Md.v_atI2, Md.v_atI3, Md.v_atI4, Md.v_atI5, Md.v_atI6, Md.v_atI7, Md.v_atI8, Md.v_atI9, Md.v_atI10, Md.v_atI11, Md.v_atI12, Md.v_ixt, Md.v_ixl, Md.v_addi, Md.v_subi, Md.v_gti, Md.v_lti, Md.v_gei, Md.v_lei, Md.v_eqi, Md.v_nei, Md.v_inti, Md.v_intb, Md.v_is, Md.v_isn, Md.v_in0, Md.v_in1, Md.v_in2, Md.v_in3, Md.v_in4, Md.v_in5, Md.v_in6, Md.v_in7, Md.v_lenl, Md.v_lent, Md.v_acat, Md.v_kca, Md.v_kcat, Md.v_lam, Md.v_cap0, Md.v_capc, Md.v_cs1, Md.v_cs2, Md.v_cs3, Md.v_cs4, Md.v_runAsk, Md.v_ask, Md.v_askO, Md.v_askR1, Md.v_askR2, Md.v_lamR1, Md.v_lamR2, Md.v_nf0, Md.v_nf1, Md.v_nf2, Md.v_nf3, Md.v_nf4, Md.v_nf5, Md.v_nfa0, Md.v_nfac, Md.v_nff0, Md.v_nffc, Md.v_apo, Md.v_api, Md.v_ca5, Md.v_ca6, Md.v_ca7, Md.v_ci_3, Md.v_ci_4, Md.v_in8, Md.v_nc0, Md.v_nc1, Md.v_nc2, Md.v_nc3, Md.v_nc4, Md.v_nc5, Md.v_nc6, Md.v_nc7, Md.v_nc8, Md.v_nc9, Md.v_nc10, Md.v_nc11, Md.v_nc12, Md.v_nc13, Md.v_nc14, Md.v_nc15, Md.v_nc16, Md.v_nc17, Md.v_nc18, Md.v_nc19, Md.v_nc20, Md.v_nc21, Md.v_nc22, Md.v_nc23, Md.v_nc24, Md.v_nc25, Md.v_nc26, Md.v_nc27, Md.v_nc28, Md.v_nc29, Md.v_nc30, Md.v_nc31, Md.v_nc32, List.cons_append, List.nil_append, List.replicate_zero, List.replicate_succ, List.getElem?_cons_zero, List.getElem?_cons_succ, List.set_cons_zero, List.set_cons_succ, List.map_nil, List.map_cons, List.append_nil, Bool.not_true, Bool.not_false, Slot.put, List.length_cons, List.length_nil, List.length_append, Nat.reduceAdd, Nat.reduceLT, Nat.reduceLeDiff, Nat.reduceSub, Int.reduceLT, Int.reduceLE, Int.reduceEq, Int.reduceBEq, Int.reduceAdd, Int.reduceSub, Int.reduceMul, Int.reduceNeg, Int.reduceToNat, String.reduceBEq, decide_true, decide_false, Bool.true_and, Bool.false_and, Bool.and_true, Bool.and_false, Bool.true_or, Bool.false_or, Bool.or_true, Bool.or_false, if_true, if_false, ite_true, ite_false, Md.ofStr_beq, Bool.false_eq_true, beq_self_eq_true, reduceIte, Nat.zero_add, reduceCtorEq, ti_int_non, ti_int_bl, ti_int_int, ti_int_str, ti_int_tup, ti_int_lst, ti_int_dk, ti_int_x1, ti_int_x2, ti_bool_non, ti_bool_bl, ti_bool_int, ti_bool_str, ti_bool_tup, ti_bool_lst, ti_bool_dk, ti_bool_x1, ti_bool_x2, ti_list_tuple_non, ti_list_tuple_bl, ti_list_tuple_int, ti_list_tuple_str, ti_list_tuple_tup, ti_list_tuple_lst, ti_list_tuple_dk, ti_list_tuple_x1, ti_list_tuple_x2, ti_BadValue_non, ti_BadValue_bl, ti_BadValue_int, ti_BadValue_str, ti_BadValue_tup, ti_BadValue_lst, ti_BadValue_dk, ti_BadValue_x1, ti_BadValue_x2, ti_BadNumber_non, ti_BadNumber_bl, ti_BadNumber_int, ti_BadNumber_str, ti_BadNumber_tup, ti_BadNumber_lst, ti_BadNumber_dk, ti_BadNumber_x1, ti_BadNumber_x2, ta_part_x1, ta_part_x2, tx_RulesError_1, tx_RulesError_2]
/-- what a share is -/
theorem share_t (p q : Int) (m : Bool) (h0 : 0 ≤ p) (h1 : p ≤ q) (h2 : 1 ≤ q) (h3 : m = true → p < q) :
    sem_is_share [.dat (.tup [.int p, .int q, .bl m])] = .ok (.bl true) [.dat (.tup [.int p, .int q, .bl m])] ∧ sem_is_share [.dat (.lst [.int p, .int q, .bl m])] = .ok (.bl true) [.dat (.lst [.int p, .int q, .bl m])] := by
  have d0 : decide (0 ≤ p) = true := decide_eq_true h0
  have d1 : decide (p ≤ q) = true := decide_eq_true h1
  have d2 : decide (q < 1) = false := decide_eq_false (by omega)
  by_cases hp : p < q
  · have d3 : decide (p < q) = true := decide_eq_true hp
    constructor <;> simp only [sem_is_share, b_is_share, b_is_share_i1, b_is_share_i2, b_is_share_s1, b_is_share_s2, b_is_share_s3, Md.v_seq, Md.v_nx, Md.v_rt, Md.v_bk, Md.v_ct, Md.v_ex, Md.v_ok, Md.v_bx, Md.v_to, Md.v_tx, Md.v_oR, Md.v_sR, Md.v_var, Md.v_k, Md.v_op2, Md.v_k2, Md.v_k3, Md.v_op1, Md.v_k1, Md.v_bR, Md.v_bool, Md.v_not, Md.v_knot, Md.v_and, Md.v_and1, Md.v_and0, Md.v_or, Md.v_or1, Md.v_or0, Md.v_nR, Md.v_notV, Md.v_aR1, Md.v_aR0, Md.v_andV, Md.v_orR1, Md.v_orR0, Md.v_orV, Md.v_if, Md.v_if1, Md.v_if0, Md.v_anil, Md.v_acons, Md.v_kac, Md.v_kad, Md.v_ob1, Md.v_ob2, Md.v_aobj, Md.v_ds0, Md.v_ds1, Md.v_ds2, Md.v_ds3, Md.v_ds4, Md.v_ds5, Md.v_ds6, Md.v_dsg, Md.v_dso, Md.v_dat0, Md.v_datc, Md.v_dco, Md.v_tup, Md.v_lst, Md.v_new, Md.v_lst', Md.v_tup', Md.v_new', Md.v_blR, Md.v_cb, Md.v_cb1, Md.v_cb2, Md.v_slR, Md.v_call, Md.v_cd1, Md.v_cd2, Md.v_ca0, Md.v_ca1, Md.v_ca2, Md.v_ca3, Md.v_ca4, Md.v_ci1, Md.v_ci2, Md.v_ciS, Md.v_ci_0, Md.v_ci_1, Md.v_ci_2, Md.v_io1, Md.v_io2, Md.v_put, Md.v_pu1, Md.v_pu2, Md.v_st1, Md.v_st2, Md.v_st3, Md.v_setE, Md.v_nxO, Md.v_set, Md.v_kset, Md.v_snew, Md.v_knew, Md.v_expr, Md.v_kex, Md.v_ret, Md.v_kret, Md.v_retN, Md.v_nil, Md.v_sif, Md.v_if_t, Md.v_if_f, Md.v_fr, Md.v_freeze, Md.v_la1, Md.v_la2, Md.v_lst_at, Md.v_ixR, Md.v_ixO, Md.v_gix, Md.v_kix, Md.v_leR, Md.v_lenO, Md.v_sput, Md.v_kpu, Md.v_gpu, Md.v_kpv, Md.v_gme, Md.v_kme, Md.v_meth, Md.v_raise, Md.v_ra1, Md.v_ra2, Md.v_par, Md.v_pa, Md.v_pa2, Md.v_tryK, Md.v_tk1, Md.v_tk2', Md.v_run, Md.v_ru1, Md.v_ru2, Md.v_ru3, Md.v_ou0, Md.v_ou1, Md.v_ou2, Md.v_it, Md.v_it1, Md.v_it2, Md.v_r1, Md.v_for, Md.v_kfo, Md.v_m1, Md.v_m1R, Md.v_m1S, Md.v_ifB, Md.v_ifB1, Md.v_ifB0, Md.v_mkD, Md.v_mkX, Md.v_make, Md.v_makeK, Md.v_mkG, Md.v_fldS, Md.v_fsR, Md.v_ins0, Md.v_fsO, Md.v_fld, Md.v_its, Md.v_lc, Md.v_lcR, Md.v_ofNew, Md.v_ofR, Md.v_chain, Md.v_ch1, Md.v_chY, Md.v_ch2t, Md.v_ch2f, Md.v_ch3, Md.v_cut, Md.v_cu1, Md.v_cu2, Md.v_cu3, Md.v_nop, Md.v_part, Md.v_ptR, Md.v_unp, Md.v_unO, Md.v_tgO, Md.v_tgs0, Md.v_tgs, Md.v_tgB, Md.v_ttt, Md.v_tname, Md.v_fg0, Md.v_fgc, Md.v_fg1, Md.v_fgn, Md.v_fgt, Md.v_fgb, Md.v_fgr, Md.v_fgx, Md.v_lc0, Md.v_lcc, Md.v_lc1, Md.v_lc2t, Md.v_lc2f, Md.v_lc3, Md.v_yes, Md.v_wi0, Md.v_wi, Md.v_re0, Md.v_re, Md.v_reS, Md.v_ow0, Md.v_ow, Md.v_oku, Md.v_okd, Md.v_lce, Md.v_lcet, Md.v_callK, Md.v_ckR, Md.v_callN, Md.v_cnd1, Md.v_cnd2, Md.v_cn0, Md.v_cn1, Md.v_cn2, Md.v_cn3, Md.v_emk0, Md.v_aug, Md.v_agS, Md.v_kag, Md.v_agO, Md.v_r2, Md.v_r2R, Md.v_r1n, Md.v_rg0, Md.v_rgs, Md.v_emk, Md.v_mkR1, Md.v_mkR2, Md.v_tkx, Md.v_tkf, Md.v_tkt, Md.v_ttl, Md.v_stf, Md.v_lk0, Md.v_lk, Md.v_lkt, Md.v_lkf, Md.v_pd0, Md.v_pd, Md.v_pdt, Md.v_pdf, Md.v_atc, Md.v_atx, Md.v_eq, Md.v_ne, Md.v_eqs, Md.v_nes, Md.v_inl, Md.v_int, Md.v_nil', Md.v_nit', Md.v_fl0, Md.v_fl1, Md.v_fl2, Md.v_fl3, Md.v_fl4, Md.v_fl5, Md.v_fa0, Md.v_fac, Md.v_q0, Md.v_q1, Md.v_q2, Md.v_q3, Md.v_q4, Md.v_q5, Md.v_q6, Md.v_q7, Md.v_qs0, Md.v_qsc, Md.v_qsn, Md.v_qns, Md.v_i0, Md.v_i1, Md.v_qa, Md.v_qb, Md.v_qc, Md.v_qd, Md.v_qe, Md.v_qf, Md.v_qg, Md.v_qh, Md.v_qi, Md.v_qj, Md.v_qk, Md.v_ql, Md.v_qm, Md.v_qn, Md.v_qo, Md.v_qp, Md.v_qq, Md.v_qr, Md.v_qs, Md.v_qt, Md.v_qu, Md.v_qv, Md.v_qw, Md.v_qx, Md.v_qy, Md.v_qz, Md.v_atI0, Md.v_atI1, Md.v_atI2, Md.v_atI3, Md.v_atI4, Md.v_atI5, Md.v_atI6, Md.v_atI7, Md.v_atI8, Md.v_atI9, Md.v_atI10, Md.v_atI11, Md.v_atI12, Md.v_ixt, Md.v_ixl, Md.v_addi, Md.v_subi, Md.v_gti, Md.v_lti, Md.v_gei, Md.v_lei, Md.v_eqi, Md.v_nei, Md.v_inti, Md.v_intb, Md.v_is, Md.v_isn, Md.v_in0, Md.v_in1, Md.v_in2, Md.v_in3, Md.v_in4, Md.v_in5, Md.v_in6, Md.v_in7, Md.v_lenl, Md.v_lent, Md.v_acat, Md.v_kca, Md.v_kcat, Md.v_lam, Md.v_cap0, Md.v_capc, Md.v_cs1, Md.v_cs2, Md.v_cs3, Md.v_cs4, Md.v_runAsk, Md.v_ask, Md.v_askO, Md.v_askR1, Md.v_askR2, Md.v_lamR1, Md.v_lamR2, Md.v_nf0, Md.v_nf1, Md.v_nf2, Md.v_nf3, Md.v_nf4, Md.v_nf5, Md.v_nfa0, Md.v_nfac, Md.v_nff0, Md.v_nffc, Md.v_apo, Md.v_api, Md.v_ca5, Md.v_ca6, Md.v_ca7, Md.v_ci_3, Md.v_ci_4, Md.v_in8, Md.v_nc0, Md.v_nc1, Md.v_nc2, Md.v_nc3, Md.v_nc4, Md.v_nc5, Md.v_nc6, Md.v_nc7, Md.v_nc8, Md.v_nc9, Md.v_nc10, Md.v_nc11, Md.v_nc12, Md.v_nc13, Md.v_nc14, Md.v_nc15, Md.v_nc16, Md.v_nc17, Md.v_nc18, Md.v_nc19, Md.v_nc20, Md.v_nc21, Md.v_nc22, Md.v_nc23, Md.v_nc24, Md.v_nc25, Md.v_nc26, Md.v_nc27, Md.v_nc28, Md.v_nc29, Md.v_nc30, Md.v_nc31, Md.v_nc32, List.cons_append, List.nil_append, List.replicate_zero, List.replicate_succ, List.getElem?_cons_zero, List.getElem?_cons_succ, List.set_cons_zero, List.set_cons_succ, List.map_nil, List.map_cons, List.append_nil, Bool.not_true, Bool.not_false, Slot.put, List.length_cons, List.length_nil, List.length_append, Nat.reduceAdd, Nat.reduceLT, Nat.reduceLeDiff, Nat.reduceSub, Int.reduceLT, Int.reduceLE, Int.reduceEq, Int.reduceBEq, Int.reduceAdd, Int.reduceSub, Int.reduceMul, Int.reduceNeg, Int.reduceToNat, String.reduceBEq, decide_true, decide_false, Bool.true_and, Bool.false_and, Bool.and_true, Bool.and_false, Bool.true_or, Bool.false_or, Bool.or_true, Bool.or_false, if_true, if_false, ite_true, ite_false, Md.ofStr_beq, Bool.false_eq_true, beq_self_eq_true, reduceIte, Nat.zero_add, reduceCtorEq, ti_int_non, ti_int_bl, ti_int_int, ti_int_str, ti_int_tup, ti_int_lst, ti_int_dk, ti_int_x1, ti_int_x2, ti_bool_non, ti_bool_bl, ti_bool_int, ti_bool_str, ti_bool_tup, ti_bool_lst, ti_bool_dk, ti_bool_x1, ti_bool_x2, ti_list_tuple_non, ti_list_tuple_bl, ti_list_tuple_int, ti_list_tuple_str, ti_list_tuple_tup, ti_list_tuple_lst, ti_list_tuple_dk, ti_list_tuple_x1, ti_list_tuple_x2, ti_BadValue_non, ti_BadValue_bl, ti_BadValue_int, ti_BadValue_str, ti_BadValue_tup, ti_BadValue_lst, ti_BadValue_dk, ti_BadValue_x1, ti_BadValue_x2, ti_BadNumber_non, ti_BadNumber_bl, ti_BadNumber_int, ti_BadNumber_str, ti_BadNumber_tup, ti_BadNumber_lst, ti_BadNumber_dk, ti_BadNumber_x1, ti_BadNumber_x2, ta_part_x1, ta_part_x2, tx_RulesError_1, tx_RulesError_2, isint, d0, d1, d2, d3]
  · have d3 : decide (p < q) = false := decide_eq_false hp
    cases m with
    | true => exact absurd (h3 rfl) hp
    | false => constructor <;> simp only [sem_is_share, b_is_share, b_is_share_i1, b_is_share_i2, b_is_share_s1, b_is_share_s2, b_is_share_s3, Md.v_seq, Md.v_nx, Md.v_rt, Md.v_bk, Md.v_ct, Md.v_ex, Md.v_ok, Md.v_bx, Md.v_to, Md.v_tx, Md.v_oR, Md.v_sR, Md.v_var, Md.v_k, Md.v_op2, Md.v_k2, Md.v_k3, Md.v_op1, Md.v_k1, Md.v_bR, Md.v_bool, Md.v_not, Md.v_knot, Md.v_and, Md.v_and1, Md.v_and0, Md.v_or, Md.v_or1, Md.v_or0, Md.v_nR, Md.v_notV, Md.v_aR1, Md.v_aR0, Md.v_andV, Md.v_orR1, Md.v_orR0, Md.v_orV, Md.v_if, Md.v_if1, Md.v_if0, Md.v_anil, Md.v_acons, Md.v_kac, Md.v_kad, Md.v_ob1, Md.v_ob2, Md.v_aobj, Md.v_ds0, Md.v_ds1, Md.v_ds2, Md.v_ds3, Md.v_ds4, Md.v_ds5, Md.v_ds6, Md.v_dsg, Md.v_dso, Md.v_dat0, Md.v_datc, Md.v_dco, Md.v_tup, Md.v_lst, Md.v_new, Md.v_lst', Md.v_tup', Md.v_new', Md.v_blR, Md.v_cb, Md.v_cb1, Md.v_cb2, Md.v_slR, Md.v_call, Md.v_cd1, Md.v_cd2, Md.v_ca0, Md.v_ca1, Md.v_ca2, Md.v_ca3, Md.v_ca4, Md.v_ci1, Md.v_ci2, Md.v_ciS, Md.v_ci_0, Md.v_ci_1, Md.v_ci_2, Md.v_io1, Md.v_io2, Md.v_put, Md.v_pu1, Md.v_pu2, Md.v_st1, Md.v_st2, Md.v_st3, Md.v_setE, Md.v_nxO, Md.v_set, Md.v_kset, Md.v_snew, Md.v_knew, Md.v_expr, Md.v_kex, Md.v_ret, Md.v_kret, Md.v_retN, Md.v_nil, Md.v_sif, Md.v_if_t, Md.v_if_f, Md.v_fr, Md.v_freeze, Md.v_la1, Md.v_la2, Md.v_lst_at, Md.v_ixR, Md.v_ixO, Md.v_gix, Md.v_kix, Md.v_leR, Md.v_lenO, Md.v_sput, Md.v_kpu, Md.v_gpu, Md.v_kpv, Md.v_gme, Md.v_kme, Md.v_meth, Md.v_raise, Md.v_ra1, Md.v_ra2, Md.v_par, Md.v_pa, Md.v_pa2, Md.v_tryK, Md.v_tk1, Md.v_tk2', Md.v_run, Md.v_ru1, Md.v_ru2, Md.v_ru3, Md.v_ou0, Md.v_ou1, Md.v_ou2, Md.v_it, Md.v_it1, Md.v_it2, Md.v_r1, Md.v_for, Md.v_kfo, Md.v_m1, Md.v_m1R, Md.v_m1S, Md.v_ifB, Md.v_ifB1, Md.v_ifB0, Md.v_mkD, Md.v_mkX, Md.v_make, Md.v_makeK, Md.v_mkG, Md.v_fldS, Md.v_fsR, Md.v_ins0, Md.v_fsO, Md.v_fld, Md.v_its, Md.v_lc, Md.v_lcR, Md.v_ofNew, Md.v_ofR, Md.v_chain, Md.v_ch1, Md.v_chY, Md.v_ch2t, Md.v_ch2f, Md.v_ch3, Md.v_cut, Md.v_cu1, Md.v_cu2, Md.v_cu3, Md.v_nop, Md.v_part, Md.v_ptR, Md.v_unp, Md.v_unO, Md.v_tgO, Md.v_tgs0, Md.v_tgs, Md.v_tgB, Md.v_ttt, Md.v_tname, Md.v_fg0, Md.v_fgc, Md.v_fg1, Md.v_fgn, Md.v_fgt, Md.v_fgb, Md.v_fgr, Md.v_fgx, Md.v_lc0, Md.v_lcc, Md.v_lc1, Md.v_lc2t, Md.v_lc2f, Md.v_lc3, Md.v_yes, Md.v_wi0, Md.v_wi, Md.v_re0, Md.v_re, Md.v_reS, Md.v_ow0, Md.v_ow, Md.v_oku, Md.v_okd, Md.v_lce, Md.v_lcet, Md.v_callK, Md.v_ckR, Md.v_callN, Md.v_cnd1, Md.v_cnd2, Md.v_cn0, Md.v_cn1, Md.v_cn2, Md.v_cn3, Md.v_emk0, Md.v_aug, Md.v_agS, Md.v_kag, Md.v_agO, Md.v_r2, Md.v_r2R, Md.v_r1n, Md.v_rg0, Md.v_rgs, Md.v_emk, Md.v_mkR1, Md.v_mkR2, Md.v_tkx, Md.v_tkf, Md.v_tkt, Md.v_ttl, Md.v_stf, Md.v_lk0, Md.v_lk, Md.v_lkt, Md.v_lkf, Md.v_pd0, Md.v_pd, Md.v_pdt, Md.v_pdf, Md.v_atc, Md.v_atx, Md.v_eq, Md.v_ne, Md.v_eqs, Md.v_nes, Md.v_inl, Md.v_int, Md.v_nil', Md.v_nit', Md.v_fl0, Md.v_fl1, Md.v_fl2, Md.v_fl3, Md.v_fl4, Md.v_fl5, Md.v_fa0, Md.v_fac, Md.v_q0, Md.v_q1, Md.v_q2, Md.v_q3, Md.v_q4, Md.v_q5, Md.v_q6, Md.v_q7, Md.v_qs0, Md.v_qsc, Md.v_qsn, Md.v_qns, Md.v_i0, Md.v_i1, Md.v_qa, Md.v_qb, Md.v_qc, Md.v_qd, Md.v_qe, Md.v_qf, Md.v_qg, Md.v_qh, Md.v_qi, Md.v_qj, Md.v_qk, Md.v_ql, Md.v_qm, Md.v_qn, Md.v_qo, Md.v_qp, Md.v_qq, Md.v_qr, Md.v_qs, Md.v_qt, Md.v_qu, Md.v_qv, Md.v_qw, Md.v_qx, Md.v_qy, Md.v_qz, Md.v_atI0, Md.v_atI1, Md.v_atI2, Md.v_atI3, Md.v_atI4, Md.v_atI5, Md.v_atI6, Md.v_atI7, Md.v_atI8, Md.v_atI9, Md.v_atI10, Md.v_atI11, Md.v_atI12, Md.v_ixt, Md.v_ixl, Md.v_addi, Md.v_subi, Md.v_gti, Md.v_lti, Md.v_gei, Md.v_lei, Md.v_eqi, Md.v_nei, Md.v_inti, Md.v_intb, Md.v_is, Md.v_isn, Md.v_in0, Md.v_in1, Md.v_in2, Md.v_in3, Md.v_in4, Md.v_in5, Md.v_in6, Md.v_in7, Md.v_lenl, Md.v_lent, Md.v_acat, Md.v_kca, Md.v_kcat, Md.v_lam, Md.v_cap0, Md.v_capc, Md.v_cs1, Md.v_cs2, Md.v_cs3, Md.v_cs4, Md.v_runAsk, Md.v_ask, Md.v_askO, Md.v_askR1, Md.v_askR2, Md.v_lamR1, Md.v_lamR2, Md.v_nf0, Md.v_nf1, Md.v_nf2, Md.v_nf3, Md.v_nf4, Md.v_nf5, Md.v_nfa0, Md.v_nfac, Md.v_nff0, Md.v_nffc, Md.v_apo, Md.v_api, Md.v_ca5, Md.v_ca6, Md.v_ca7, Md.v_ci_3, Md.v_ci_4, Md.v_in8, Md.v_nc0, Md.v_nc1, Md.v_nc2, Md.v_nc3, Md.v_nc4, Md.v_nc5, Md.v_nc6, Md.v_nc7, Md.v_nc8, Md.v_nc9, Md.v_nc10, Md.v_nc11, Md.v_nc12, Md.v_nc13, Md.v_nc14, Md.v_nc15, Md.v_nc16, Md.v_nc17, Md.v_nc18, Md.v_nc19, Md.v_nc20, Md.v_nc21, Md.v_nc22, Md.v_nc23, Md.v_nc24, Md.v_nc25, Md.v_nc26, Md.v_nc27, Md.v_nc28, Md.v_nc29, Md.v_nc30, Md.v_nc31, Md.v_nc32, List.cons_append, List.nil_append, List.replicate_zero, List.replicate_succ, List.getElem?_cons_zero, List.getElem?_cons_succ, List.set_cons_zero, List.set_cons_succ, List.map_nil, List.map_cons, List.append_nil, Bool.not_true, Bool.not_false, Slot.put, List.length_cons, List.length_nil, List.length_append, Nat.reduceAdd, Nat.reduceLT, Nat.reduceLeDiff, Nat.reduceSub, Int.reduceLT, Int.reduceLE, Int.reduceEq, Int.reduceBEq, Int.reduceAdd, Int.reduceSub, Int.reduceMul, Int.reduceNeg, Int.reduceToNat, String.reduceBEq, decide_true, decide_false, Bool.true_and, Bool.false_and, Bool.and_true, Bool.and_false, Bool.true_or, Bool.false_or, Bool.or_true, Bool.or_false, if_true, if_false, ite_true, ite_false, Md.ofStr_beq, Bool.false_eq_true, beq_self_eq_true, reduceIte, Nat.zero_add, reduceCtorEq, ti_int_non, ti_int_bl, ti_int_int, ti_int_str, ti_int_tup, ti_int_lst, ti_int_dk, ti_int_x1, ti_int_x2, ti_bool_non, ti_bool_bl, ti_bool_int, ti_bool_str, ti_bool_tup, ti_bool_lst, ti_bool_dk, ti_bool_x1, ti_bool_x2, ti_list_tuple_non, ti_list_tuple_bl, ti_list_tuple_int, ti_list_tuple_str, ti_list_tuple_tup, ti_list_tuple_lst, ti_list_tuple_dk, ti_list_tuple_x1, ti_list_tuple_x2, ti_BadValue_non, ti_BadValue_bl, ti_BadValue_int, ti_BadValue_str, ti_BadValue_tup, ti_BadValue_lst, ti_BadValue_dk, ti_BadValue_x1, ti_BadValue_x2, ti_BadNumber_non, ti_BadNumber_bl, ti_BadNumber_int, ti_BadNumber_str, ti_BadNumber_tup, ti_BadNumber_lst, ti_BadNumber_dk, ti_BadNumber_x1, ti_BadNumber_x2, ta_part_x1, ta_part_x2, tx_RulesError_1, tx_RulesError_2, isint, d0, d1, d2, d3]
def LM (p q : Int) (m : Bool) (t : Int) : D := if t = 0 then .int 1 else if p = q then .non else if m = true then .int (p * t / (q - p) + 1) else .int (-(-p * t / (q - p)))
theorem least (p q t : Int) (m : Bool) (bp : Bt 300 p) (bq : Bt 300 q) (bt : Bt 500 t) (h1 : p ≤ q) :
    sem_least_members [.dat (.int p), .dat (.int q), .dat (.bl m), .dat (.int t)] = .ok (LM p q m t) [.dat (.int p), .dat (.int q), .dat (.bl m), .dat (.int t)] := by
  unfold LM
  by_cases t0 : t = 0
  · subst t0
    simp only [sem_least_members, b_least_members, b_least_members_i1, b_least_members_i2, b_least_members_i3, b_least_members_s1, b_least_members_s2, b_least_members_s3, Md.v_seq, Md.v_nx, Md.v_rt, Md.v_bk, Md.v_ct, Md.v_ex, Md.v_ok, Md.v_bx, Md.v_to, Md.v_tx, Md.v_oR, Md.v_sR, Md.v_var, Md.v_k, Md.v_op2, Md.v_k2, Md.v_k3, Md.v_op1, Md.v_k1, Md.v_bR, Md.v_bool, Md.v_not, Md.v_knot, Md.v_and, Md.v_and1, Md.v_and0, Md.v_or, Md.v_or1, Md.v_or0, Md.v_nR, Md.v_notV, Md.v_aR1, Md.v_aR0, Md.v_andV, Md.v_orR1, Md.v_orR0, Md.v_orV, Md.v_if, Md.v_if1, Md.v_if0, Md.v_anil, Md.v_acons, Md.v_kac, Md.v_kad, Md.v_ob1, Md.v_ob2, Md.v_aobj, Md.v_ds0, Md.v_ds1, Md.v_ds2, Md.v_ds3, Md.v_ds4, Md.v_ds5, Md.v_ds6, Md.v_dsg, Md.v_dso, Md.v_dat0, Md.v_datc, Md.v_dco, Md.v_tup, Md.v_lst, Md.v_new, Md.v_lst', Md.v_tup', Md.v_new', Md.v_blR, Md.v_cb, Md.v_cb1, Md.v_cb2, Md.v_slR, Md.v_call, Md.v_cd1, Md.v_cd2, Md.v_ca0, Md.v_ca1, Md.v_ca2, Md.v_ca3, Md.v_ca4, Md.v_ci1, Md.v_ci2, Md.v_ciS, Md.v_ci_0, Md.v_ci_1, Md.v_ci_2, Md.v_io1, Md.v_io2, Md.v_put, Md.v_pu1, Md.v_pu2, Md.v_st1, Md.v_st2, Md.v_st3, Md.v_setE, Md.v_nxO, Md.v_set, Md.v_kset, Md.v_snew, Md.v_knew, Md.v_expr, Md.v_kex, Md.v_ret, Md.v_kret, Md.v_retN, Md.v_nil, Md.v_sif, Md.v_if_t, Md.v_if_f, Md.v_fr, Md.v_freeze, Md.v_la1, Md.v_la2, Md.v_lst_at, Md.v_ixR, Md.v_ixO, Md.v_gix, Md.v_kix, Md.v_leR, Md.v_lenO, Md.v_sput, Md.v_kpu, Md.v_gpu, Md.v_kpv, Md.v_gme, Md.v_kme, Md.v_meth, Md.v_raise, Md.v_ra1, Md.v_ra2, Md.v_par, Md.v_pa, Md.v_pa2, Md.v_tryK, Md.v_tk1, Md.v_tk2', Md.v_run, Md.v_ru1, Md.v_ru2, Md.v_ru3, Md.v_ou0, Md.v_ou1, Md.v_ou2, Md.v_it, Md.v_it1, Md.v_it2, Md.v_r1, Md.v_for, Md.v_kfo, Md.v_m1, Md.v_m1R, Md.v_m1S, Md.v_ifB, Md.v_ifB1, Md.v_ifB0, Md.v_mkD, Md.v_mkX, Md.v_make, Md.v_makeK, Md.v_mkG, Md.v_fldS, Md.v_fsR, Md.v_ins0, Md.v_fsO, Md.v_fld, Md.v_its, Md.v_lc, Md.v_lcR, Md.v_ofNew, Md.v_ofR, Md.v_chain, Md.v_ch1, Md.v_chY, Md.v_ch2t, Md.v_ch2f, Md.v_ch3, Md.v_cut, Md.v_cu1, Md.v_cu2, Md.v_cu3, Md.v_nop, Md.v_part, Md.v_ptR, Md.v_unp, Md.v_unO, Md.v_tgO, Md.v_tgs0, Md.v_tgs, Md.v_tgB, Md.v_ttt, Md.v_tname, Md.v_fg0, Md.v_fgc, Md.v_fg1, Md.v_fgn, Md.v_fgt, Md.v_fgb, Md.v_fgr, Md.v_fgx, Md.v_lc0, Md.v_lcc, Md.v_lc1, Md.v_lc2t, Md.v_lc2f, Md.v_lc3, Md.v_yes, Md.v_wi0, Md.v_wi, Md.v_re0, Md.v_re, Md.v_reS, Md.v_ow0, Md.v_ow, Md.v_oku, Md.v_okd, Md.v_lce, Md.v_lcet, Md.v_callK, Md.v_ckR, Md.v_callN, Md.v_cnd1, Md.v_cnd2, Md.v_cn0, Md.v_cn1, Md.v_cn2, Md.v_cn3, Md.v_emk0, Md.v_aug, Md.v_agS, Md.v_kag, Md.v_agO, Md.v_r2, Md.v_r2R, Md.v_r1n, Md.v_rg0, Md.v_rgs, Md.v_emk, Md.v_mkR1, Md.v_mkR2, Md.v_tkx, Md.v_tkf, Md.v_tkt, Md.v_ttl, Md.v_stf, Md.v_lk0, Md.v_lk, Md.v_lkt, Md.v_lkf, Md.v_pd0, Md.v_pd, Md.v_pdt, Md.v_pdf, Md.v_atc, Md.v_atx, Md.v_eq, Md.v_ne, Md.v_eqs, Md.v_nes, Md.v_inl, Md.v_int, Md.v_nil', Md.v_nit', Md.v_fl0, Md.v_fl1, Md.v_fl2, Md.v_fl3, Md.v_fl4, Md.v_fl5, Md.v_fa0, Md.v_fac, Md.v_q0, Md.v_q1, Md.v_q2, Md.v_q3, Md.v_q4, Md.v_q5, Md.v_q6, Md.v_q7, Md.v_qs0, Md.v_qsc, Md.v_qsn, Md.v_qns, Md.v_i0, Md.v_i1, Md.v_qa, Md.v_qb, Md.v_qc, Md.v_qd, Md.v_qe, Md.v_qf, Md.v_qg, Md.v_qh, Md.v_qi, Md.v_qj, Md.v_qk, Md.v_ql, Md.v_qm, Md.v_qn, Md.v_qo, Md.v_qp, Md.v_qq, Md.v_qr, Md.v_qs, Md.v_qt, Md.v_qu, Md.v_qv, Md.v_qw, Md.v_qx, Md.v_qy, Md.v_qz, Md.v_atI0, Md.v_atI1, Md.v_atI2, Md.v_atI3, Md.v_atI4, Md.v_atI5, Md.v_atI6, Md.v_atI7, Md.v_atI8, Md.v_atI9, Md.v_atI10, Md.v_atI11, Md.v_atI12, Md.v_ixt, Md.v_ixl, Md.v_addi, Md.v_subi, Md.v_gti, Md.v_lti, Md.v_gei, Md.v_lei, Md.v_eqi, Md.v_nei, Md.v_inti, Md.v_intb, Md.v_is, Md.v_isn, Md.v_in0, Md.v_in1, Md.v_in2, Md.v_in3, Md.v_in4, Md.v_in5, Md.v_in6, Md.v_in7, Md.v_lenl, Md.v_lent, Md.v_acat, Md.v_kca, Md.v_kcat, Md.v_lam, Md.v_cap0, Md.v_capc, Md.v_cs1, Md.v_cs2, Md.v_cs3, Md.v_cs4, Md.v_runAsk, Md.v_ask, Md.v_askO, Md.v_askR1, Md.v_askR2, Md.v_lamR1, Md.v_lamR2, Md.v_nf0, Md.v_nf1, Md.v_nf2, Md.v_nf3, Md.v_nf4, Md.v_nf5, Md.v_nfa0, Md.v_nfac, Md.v_nff0, Md.v_nffc, Md.v_apo, Md.v_api, Md.v_ca5, Md.v_ca6, Md.v_ca7, Md.v_ci_3, Md.v_ci_4, Md.v_in8, Md.v_nc0, Md.v_nc1, Md.v_nc2, Md.v_nc3, Md.v_nc4, Md.v_nc5, Md.v_nc6, Md.v_nc7, Md.v_nc8, Md.v_nc9, Md.v_nc10, Md.v_nc11, Md.v_nc12, Md.v_nc13, Md.v_nc14, Md.v_nc15, Md.v_nc16, Md.v_nc17, Md.v_nc18, Md.v_nc19, Md.v_nc20, Md.v_nc21, Md.v_nc22, Md.v_nc23, Md.v_nc24, Md.v_nc25, Md.v_nc26, Md.v_nc27, Md.v_nc28, Md.v_nc29, Md.v_nc30, Md.v_nc31, Md.v_nc32, List.cons_append, List.nil_append, List.replicate_zero, List.replicate_succ, List.getElem?_cons_zero, List.getElem?_cons_succ, List.set_cons_zero, List.set_cons_succ, List.map_nil, List.map_cons, List.append_nil, Bool.not_true, Bool.not_false, Slot.put, List.length_cons, List.length_nil, List.length_append, Nat.reduceAdd, Nat.reduceLT, Nat.reduceLeDiff, Nat.reduceSub, Int.reduceLT, Int.reduceLE, Int.reduceEq, Int.reduceBEq, Int.reduceAdd, Int.reduceSub, Int.reduceMul, Int.reduceNeg, Int.reduceToNat, String.reduceBEq, decide_true, decide_false, Bool.true_and, Bool.false_and, Bool.and_true, Bool.and_false, Bool.true_or, Bool.false_or, Bool.or_true, Bool.or_false, if_true, if_false, ite_true, ite_false, Md.ofStr_beq, Bool.false_eq_true, beq_self_eq_true, reduceIte, Nat.zero_add, reduceCtorEq, ti_int_non, ti_int_bl, ti_int_int, ti_int_str, ti_int_tup, ti_int_lst, ti_int_dk, ti_int_x1, ti_int_x2, ti_bool_non, ti_bool_bl, ti_bool_int, ti_bool_str, ti_bool_tup, ti_bool_lst, ti_bool_dk, ti_bool_x1, ti_bool_x2, ti_list_tuple_non, ti_list_tuple_bl, ti_list_tuple_int, ti_list_tuple_str, ti_list_tuple_tup, ti_list_tuple_lst, ti_list_tuple_dk, ti_list_tuple_x1, ti_list_tuple_x2, ti_BadValue_non, ti_BadValue_bl, ti_BadValue_int, ti_BadValue_str, ti_BadValue_tup, ti_BadValue_lst, ti_BadValue_dk, ti_BadValue_x1, ti_BadValue_x2, ti_BadNumber_non, ti_BadNumber_bl, ti_BadNumber_int, ti_BadNumber_str, ti_BadNumber_tup, ti_BadNumber_lst, ti_BadNumber_dk, ti_BadNumber_x1, ti_BadNumber_x2, ta_part_x1, ta_part_x2, tx_RulesError_1, tx_RulesError_2]
  have d0 : (t == 0) = false := by simpa using t0
  rw [if_neg t0]
  by_cases e : p = q
  · subst e
    simp only [sem_least_members, b_least_members, b_least_members_i1, b_least_members_i2, b_least_members_i3, b_least_members_s1, b_least_members_s2, b_least_members_s3, Md.v_seq, Md.v_nx, Md.v_rt, Md.v_bk, Md.v_ct, Md.v_ex, Md.v_ok, Md.v_bx, Md.v_to, Md.v_tx, Md.v_oR, Md.v_sR, Md.v_var, Md.v_k, Md.v_op2, Md.v_k2, Md.v_k3, Md.v_op1, Md.v_k1, Md.v_bR, Md.v_bool, Md.v_not, Md.v_knot, Md.v_and, Md.v_and1, Md.v_and0, Md.v_or, Md.v_or1, Md.v_or0, Md.v_nR, Md.v_notV, Md.v_aR1, Md.v_aR0, Md.v_andV, Md.v_orR1, Md.v_orR0, Md.v_orV, Md.v_if, Md.v_if1, Md.v_if0, Md.v_anil, Md.v_acons, Md.v_kac, Md.v_kad, Md.v_ob1, Md.v_ob2, Md.v_aobj, Md.v_ds0, Md.v_ds1, Md.v_ds2, Md.v_ds3, Md.v_ds4, Md.v_ds5, Md.v_ds6, Md.v_dsg, Md.v_dso, Md.v_dat0, Md.v_datc, Md.v_dco, Md.v_tup, Md.v_lst, Md.v_new, Md.v_lst', Md.v_tup', Md.v_new', Md.v_blR, Md.v_cb, Md.v_cb1, Md.v_cb2, Md.v_slR, Md.v_call, Md.v_cd1, Md.v_cd2, Md.v_ca0, Md.v_ca1, Md.v_ca2, Md.v_ca3, Md.v_ca4, Md.v_ci1, Md.v_ci2, Md.v_ciS, Md.v_ci_0, Md.v_ci_1, Md.v_ci_2, Md.v_io1, Md.v_io2, Md.v_put, Md.v_pu1, Md.v_pu2, Md.v_st1, Md.v_st2, Md.v_st3, Md.v_setE, Md.v_nxO, Md.v_set, Md.v_kset, Md.v_snew, Md.v_knew, Md.v_expr, Md.v_kex, Md.v_ret, Md.v_kret, Md.v_retN, Md.v_nil, Md.v_sif, Md.v_if_t, Md.v_if_f, Md.v_fr, Md.v_freeze, Md.v_la1, Md.v_la2, Md.v_lst_at, Md.v_ixR, Md.v_ixO, Md.v_gix, Md.v_kix, Md.v_leR, Md.v_lenO, Md.v_sput, Md.v_kpu, Md.v_gpu, Md.v_kpv, Md.v_gme, Md.v_kme, Md.v_meth, Md.v_raise, Md.v_ra1, Md.v_ra2, Md.v_par, Md.v_pa, Md.v_pa2, Md.v_tryK, Md.v_tk1, Md.v_tk2', Md.v_run, Md.v_ru1, Md.v_ru2, Md.v_ru3, Md.v_ou0, Md.v_ou1, Md.v_ou2, Md.v_it, Md.v_it1, Md.v_it2, Md.v_r1, Md.v_for, Md.v_kfo, Md.v_m1, Md.v_m1R, Md.v_m1S, Md.v_ifB, Md.v_ifB1, Md.v_ifB0, Md.v_mkD, Md.v_mkX, Md.v_make, Md.v_makeK, Md.v_mkG, Md.v_fldS, Md.v_fsR, Md.v_ins0, Md.v_fsO, Md.v_fld, Md.v_its, Md.v_lc, Md.v_lcR, Md.v_ofNew, Md.v_ofR, Md.v_chain, Md.v_ch1, Md.v_chY, Md.v_ch2t, Md.v_ch2f, Md.v_ch3, Md.v_cut, Md.v_cu1, Md.v_cu2, Md.v_cu3, Md.v_nop, Md.v_part, Md.v_ptR, Md.v_unp, Md.v_unO, Md.v_tgO, Md.v_tgs0, Md.v_tgs, Md.v_tgB, Md.v_ttt, Md.v_tname, Md.v_fg0, Md.v_fgc, Md.v_fg1, Md.v_fgn, Md.v_fgt, Md.v_fgb, Md.v_fgr, Md.v_fgx, Md.v_lc0, Md.v_lcc, Md.v_lc1, Md.v_lc2t, Md.v_lc2f, Md.v_lc3, Md.v_yes, Md.v_wi0, Md.v_wi, Md.v_re0, Md.v_re, Md.v_reS, Md.v_ow0, Md.v_ow, Md.v_oku, Md.v_okd, Md.v_lce, Md.v_lcet, Md.v_callK, Md.v_ckR, Md.v_callN, Md.v_cnd1, Md.v_cnd2, Md.v_cn0, Md.v_cn1, Md.v_cn2, Md.v_cn3, Md.v_emk0, Md.v_aug, Md.v_agS, Md.v_kag, Md.v_agO, Md.v_r2, Md.v_r2R, Md.v_r1n, Md.v_rg0, Md.v_rgs, Md.v_emk, Md.v_mkR1, Md.v_mkR2, Md.v_tkx, Md.v_tkf, Md.v_tkt, Md.v_ttl, Md.v_stf, Md.v_lk0, Md.v_lk, Md.v_lkt, Md.v_lkf, Md.v_pd0, Md.v_pd, Md.v_pdt, Md.v_pdf, Md.v_atc, Md.v_atx, Md.v_eq, Md.v_ne, Md.v_eqs, Md.v_nes, Md.v_inl, Md.v_int, Md.v_nil', Md.v_nit', Md.v_fl0, Md.v_fl1, Md.v_fl2, Md.v_fl3, Md.v_fl4, Md.v_fl5, Md.v_fa0, Md.v_fac, Md.v_q0, Md.v_q1, Md.v_q2, Md.v_q3, Md.v_q4, Md.v_q5, Md.v_q6, Md.v_q7, Md.v_qs0, Md.v_qsc, Md.v_qsn, Md.v_qns, Md.v_i0, Md.v_i1, Md.v_qa, Md.v_qb, Md.v_qc, Md.v_qd, Md.v_qe, Md.v_qf, Md.v_qg, Md.v_qh, Md.v_qi, Md.v_qj, Md.v_qk, Md.v_ql, Md.v_qm, Md.v_qn, Md.v_qo, Md.v_qp, Md.v_qq, Md.v_qr, Md.v_qs, Md.v_qt, Md.v_qu, Md.v_qv, Md.v_qw, Md.v_qx, Md.v_qy, Md.v_qz, Md.v_atI0, Md.v_atI1, Md.v_atI2, Md.v_atI3, Md.v_atI4, Md.v_atI5, Md.v_atI6, Md.v_atI7, Md.v_atI8, Md.v_atI9, Md.v_atI10, Md.v_atI11, Md.v_atI12, Md.v_ixt, Md.v_ixl, Md.v_addi, Md.v_subi, Md.v_gti, Md.v_lti, Md.v_gei, Md.v_lei, Md.v_eqi, Md.v_nei, Md.v_inti, Md.v_intb, Md.v_is, Md.v_isn, Md.v_in0, Md.v_in1, Md.v_in2, Md.v_in3, Md.v_in4, Md.v_in5, Md.v_in6, Md.v_in7, Md.v_lenl, Md.v_lent, Md.v_acat, Md.v_kca, Md.v_kcat, Md.v_lam, Md.v_cap0, Md.v_capc, Md.v_cs1, Md.v_cs2, Md.v_cs3, Md.v_cs4, Md.v_runAsk, Md.v_ask, Md.v_askO, Md.v_askR1, Md.v_askR2, Md.v_lamR1, Md.v_lamR2, Md.v_nf0, Md.v_nf1, Md.v_nf2, Md.v_nf3, Md.v_nf4, Md.v_nf5, Md.v_nfa0, Md.v_nfac, Md.v_nff0, Md.v_nffc, Md.v_apo, Md.v_api, Md.v_ca5, Md.v_ca6, Md.v_ca7, Md.v_ci_3, Md.v_ci_4, Md.v_in8, Md.v_nc0, Md.v_nc1, Md.v_nc2, Md.v_nc3, Md.v_nc4, Md.v_nc5, Md.v_nc6, Md.v_nc7, Md.v_nc8, Md.v_nc9, Md.v_nc10, Md.v_nc11, Md.v_nc12, Md.v_nc13, Md.v_nc14, Md.v_nc15, Md.v_nc16, Md.v_nc17, Md.v_nc18, Md.v_nc19, Md.v_nc20, Md.v_nc21, Md.v_nc22, Md.v_nc23, Md.v_nc24, Md.v_nc25, Md.v_nc26, Md.v_nc27, Md.v_nc28, Md.v_nc29, Md.v_nc30, Md.v_nc31, Md.v_nc32, List.cons_append, List.nil_append, List.replicate_zero, List.replicate_succ, List.getElem?_cons_zero, List.getElem?_cons_succ, List.set_cons_zero, List.set_cons_succ, List.map_nil, List.map_cons, List.append_nil, Bool.not_true, Bool.not_false, Slot.put, List.length_cons, List.length_nil, List.length_append, Nat.reduceAdd, Nat.reduceLT, Nat.reduceLeDiff, Nat.reduceSub, Int.reduceLT, Int.reduceLE, Int.reduceEq, Int.reduceBEq, Int.reduceAdd, Int.reduceSub, Int.reduceMul, Int.reduceNeg, Int.reduceToNat, String.reduceBEq, decide_true, decide_false, Bool.true_and, Bool.false_and, Bool.and_true, Bool.and_false, Bool.true_or, Bool.false_or, Bool.or_true, Bool.or_false, if_true, if_false, ite_true, ite_false, Md.ofStr_beq, Bool.false_eq_true, beq_self_eq_true, reduceIte, Nat.zero_add, reduceCtorEq, ti_int_non, ti_int_bl, ti_int_int, ti_int_str, ti_int_tup, ti_int_lst, ti_int_dk, ti_int_x1, ti_int_x2, ti_bool_non, ti_bool_bl, ti_bool_int, ti_bool_str, ti_bool_tup, ti_bool_lst, ti_bool_dk, ti_bool_x1, ti_bool_x2, ti_list_tuple_non, ti_list_tuple_bl, ti_list_tuple_int, ti_list_tuple_str, ti_list_tuple_tup, ti_list_tuple_lst, ti_list_tuple_dk, ti_list_tuple_x1, ti_list_tuple_x2, ti_BadValue_non, ti_BadValue_bl, ti_BadValue_int, ti_BadValue_str, ti_BadValue_tup, ti_BadValue_lst, ti_BadValue_dk, ti_BadValue_x1, ti_BadValue_x2, ti_BadNumber_non, ti_BadNumber_bl, ti_BadNumber_int, ti_BadNumber_str, ti_BadNumber_tup, ti_BadNumber_lst, ti_BadNumber_dk, ti_BadNumber_x1, ti_BadNumber_x2, ta_part_x1, ta_part_x2, tx_RulesError_1, tx_RulesError_2, d0]
  have d1 : (p == q) = false := by simpa using e
  rw [if_neg e]
  have x1 : dMul (.int p) (.int t) = some (.int (p * t)) := mul_bt bp bt
  have x2 : dMul (.int (-p)) (.int t) = some (.int (-p * t)) := mul_bt (bt_neg bp) bt
  have x3 : ∀ i : Int, dFloorDiv (.int i) (.int (q - p)) = some (.int (i / (q - p))) := fun i => div_bt (b := 301) (by omega) (bt_sub bq bp)
  cases m <;> simp only [sem_least_members, b_least_members, b_least_members_i1, b_least_members_i2, b_least_members_i3, b_least_members_s1, b_least_members_s2, b_least_members_s3, Md.v_seq, Md.v_nx, Md.v_rt, Md.v_bk, Md.v_ct, Md.v_ex, Md.v_ok, Md.v_bx, Md.v_to, Md.v_tx, Md.v_oR, Md.v_sR, Md.v_var, Md.v_k, Md.v_op2, Md.v_k2, Md.v_k3, Md.v_op1, Md.v_k1, Md.v_bR, Md.v_bool, Md.v_not, Md.v_knot, Md.v_and, Md.v_and1, Md.v_and0, Md.v_or, Md.v_or1, Md.v_or0, Md.v_nR, Md.v_notV, Md.v_aR1, Md.v_aR0, Md.v_andV, Md.v_orR1, Md.v_orR0, Md.v_orV, Md.v_if, Md.v_if1, Md.v_if0, Md.v_anil, Md.v_acons, Md.v_kac, Md.v_kad, Md.v_ob1, Md.v_ob2, Md.v_aobj, Md.v_ds0, Md.v_ds1, Md.v_ds2, Md.v_ds3, Md.v_ds4, Md.v_ds5, Md.v_ds6, Md.v_dsg, Md.v_dso, Md.v_dat0, Md.v_datc, Md.v_dco, Md.v_tup, Md.v_lst, Md.v_new, Md.v_lst', Md.v_tup', Md.v_new', Md.v_blR, Md.v_cb, Md.v_cb1, Md.v_cb2, Md.v_slR, Md.v_call, Md.v_cd1, Md.v_cd2, Md.v_ca0, Md.v_ca1, Md.v_ca2, Md.v_ca3, Md.v_ca4, Md.v_ci1, Md.v_ci2, Md.v_ciS, Md.v_ci_0, Md.v_ci_1, Md.v_ci_2, Md.v_io1, Md.v_io2, Md.v_put, Md.v_pu1, Md.v_pu2, Md.v_st1, Md.v_st2, Md.v_st3, Md.v_setE, Md.v_nxO, Md.v_set, Md.v_kset, Md.v_snew, Md.v_knew, Md.v_expr, Md.v_kex, Md.v_ret, Md.v_kret, Md.v_retN, Md.v_nil, Md.v_sif, Md.v_if_t, Md.v_if_f, Md.v_fr, Md.v_freeze, Md.v_la1, Md.v_la2, Md.v_lst_at, Md.v_ixR, Md.v_ixO, Md.v_gix, Md.v_kix, Md.v_leR, Md.v_lenO, Md.v_sput, Md.v_kpu, Md.v_gpu, Md.v_kpv, Md.v_gme, Md.v_kme, Md.v_meth, Md.v_raise, Md.v_ra1, Md.v_ra2, Md.v_par, Md.v_pa, Md.v_pa2, Md.v_tryK, Md.v_tk1, Md.v_tk2', Md.v_run, Md.v_ru1, Md.v_ru2, Md.v_ru3, Md.v_ou0, Md.v_ou1, Md.v_ou2, Md.v_it, Md.v_it1, Md.v_it2, Md.v_r1, Md.v_for, Md.v_kfo, Md.v_m1, Md.v_m1R, Md.v_m1S, Md.v_ifB, Md.v_ifB1, Md.v_ifB0, Md.v_mkD, Md.v_mkX, Md.v_make, Md.v_makeK, Md.v_mkG, Md.v_fldS, Md.v_fsR, Md.v_ins0, Md.v_fsO, Md.v_fld, Md.v_its, Md.v_lc, Md.v_lcR, Md.v_ofNew, Md.v_ofR, Md.v_chain, Md.v_ch1, Md.v_chY, Md.v_ch2t, Md.v_ch2f, Md.v_ch3, Md.v_cut, Md.v_cu1, Md.v_cu2, Md.v_cu3, Md.v_nop, Md.v_part, Md.v_ptR, Md.v_unp, Md.v_unO, Md.v_tgO, Md.v_tgs0, Md.v_tgs, Md.v_tgB, Md.v_ttt, Md.v_tname, Md.v_fg0, Md.v_fgc, Md.v_fg1, Md.v_fgn, Md.v_fgt, Md.v_fgb, Md.v_fgr, Md.v_fgx, Md.v_lc0, Md.v_lcc, Md.v_lc1, Md.v_lc2t, Md.v_lc2f, Md.v_lc3, Md.v_yes, Md.v_wi0, Md.v_wi, Md.v_re0, Md.v_re, Md.v_reS, Md.v_ow0, Md.v_ow, Md.v_oku, Md.v_okd, Md.v_lce, Md.v_lcet, Md.v_callK, Md.v_ckR, Md.v_callN, Md.v_cnd1, Md.v_cnd2, Md.v_cn0, Md.v_cn1, Md.v_cn2, Md.v_cn3, Md.v_emk0, Md.v_aug, Md.v_agS, Md.v_kag, Md.v_agO, Md.v_r2, Md.v_r2R, Md.v_r1n, Md.v_rg0, Md.v_rgs, Md.v_emk, Md.v_mkR1, Md.v_mkR2, Md.v_tkx, Md.v_tkf, Md.v_tkt, Md.v_ttl, Md.v_stf, Md.v_lk0, Md.v_lk, Md.v_lkt, Md.v_lkf, Md.v_pd0, Md.v_pd, Md.v_pdt, Md.v_pdf, Md.v_atc, Md.v_atx, Md.v_eq, Md.v_ne, Md.v_eqs, Md.v_nes, Md.v_inl, Md.v_int, Md.v_nil', Md.v_nit', Md.v_fl0, Md.v_fl1, Md.v_fl2, Md.v_fl3, Md.v_fl4, Md.v_fl5, Md.v_fa0, Md.v_fac, Md.v_q0, Md.v_q1, Md.v_q2, Md.v_q3, Md.v_q4, Md.v_q5, Md.v_q6, Md.v_q7, Md.v_qs0, Md.v_qsc, Md.v_qsn, Md.v_qns, Md.v_i0, Md.v_i1, Md.v_qa, Md.v_qb, Md.v_qc, Md.v_qd, Md.v_qe, Md.v_qf, Md.v_qg, Md.v_qh, Md.v_qi, Md.v_qj, Md.v_qk, Md.v_ql, Md.v_qm, Md.v_qn, Md.v_qo, Md.v_qp, Md.v_qq, Md.v_qr, Md.v_qs, Md.v_qt, Md.v_qu, Md.v_qv, Md.v_qw, Md.v_qx, Md.v_qy, Md.v_qz, Md.v_atI0, Md.v_atI1, Md.v_atI2, Md.v_atI3, Md.v_atI4, Md.v_atI5, Md.v_atI6, Md.v_atI7, Md.v_atI8, Md.v_atI9, Md.v_atI10, Md.v_atI11, Md.v_atI12, Md.v_ixt, Md.v_ixl, Md.v_addi, Md.v_subi, Md.v_gti, Md.v_lti, Md.v_gei, Md.v_lei, Md.v_eqi, Md.v_nei, Md.v_inti, Md.v_intb, Md.v_is, Md.v_isn, Md.v_in0, Md.v_in1, Md.v_in2, Md.v_in3, Md.v_in4, Md.v_in5, Md.v_in6, Md.v_in7, Md.v_lenl, Md.v_lent, Md.v_acat, Md.v_kca, Md.v_kcat, Md.v_lam, Md.v_cap0, Md.v_capc, Md.v_cs1, Md.v_cs2, Md.v_cs3, Md.v_cs4, Md.v_runAsk, Md.v_ask, Md.v_askO, Md.v_askR1, Md.v_askR2, Md.v_lamR1, Md.v_lamR2, Md.v_nf0, Md.v_nf1, Md.v_nf2, Md.v_nf3, Md.v_nf4, Md.v_nf5, Md.v_nfa0, Md.v_nfac, Md.v_nff0, Md.v_nffc, Md.v_apo, Md.v_api, Md.v_ca5, Md.v_ca6, Md.v_ca7, Md.v_ci_3, Md.v_ci_4, Md.v_in8, Md.v_nc0, Md.v_nc1, Md.v_nc2, Md.v_nc3, Md.v_nc4, Md.v_nc5, Md.v_nc6, Md.v_nc7, Md.v_nc8, Md.v_nc9, Md.v_nc10, Md.v_nc11, Md.v_nc12, Md.v_nc13, Md.v_nc14, Md.v_nc15, Md.v_nc16, Md.v_nc17, Md.v_nc18, Md.v_nc19, Md.v_nc20, Md.v_nc21, Md.v_nc22, Md.v_nc23, Md.v_nc24, Md.v_nc25, Md.v_nc26, Md.v_nc27, Md.v_nc28, Md.v_nc29, Md.v_nc30, Md.v_nc31, Md.v_nc32, List.cons_append, List.nil_append, List.replicate_zero, List.replicate_succ, List.getElem?_cons_zero, List.getElem?_cons_succ, List.set_cons_zero, List.set_cons_succ, List.map_nil, List.map_cons, List.append_nil, Bool.not_true, Bool.not_false, Slot.put, List.length_cons, List.length_nil, List.length_append, Nat.reduceAdd, Nat.reduceLT, Nat.reduceLeDiff, Nat.reduceSub, Int.reduceLT, Int.reduceLE, Int.reduceEq, Int.reduceBEq, Int.reduceAdd, Int.reduceSub, Int.reduceMul, Int.reduceNeg, Int.reduceToNat, String.reduceBEq, decide_true, decide_false, Bool.true_and, Bool.false_and, Bool.and_true, Bool.and_false, Bool.true_or, Bool.false_or, Bool.or_true, Bool.or_false, if_true, if_false, ite_true, ite_false, Md.ofStr_beq, Bool.false_eq_true, beq_self_eq_true, reduceIte, Nat.zero_add, reduceCtorEq, ti_int_non, ti_int_bl, ti_int_int, ti_int_str, ti_int_tup, ti_int_lst, ti_int_dk, ti_int_x1, ti_int_x2, ti_bool_non, ti_bool_bl, ti_bool_int, ti_bool_str, ti_bool_tup, ti_bool_lst, ti_bool_dk, ti_bool_x1, ti_bool_x2, ti_list_tuple_non, ti_list_tuple_bl, ti_list_tuple_int, ti_list_tuple_str, ti_list_tuple_tup, ti_list_tuple_lst, ti_list_tuple_dk, ti_list_tuple_x1, ti_list_tuple_x2, ti_BadValue_non, ti_BadValue_bl, ti_BadValue_int, ti_BadValue_str, ti_BadValue_tup, ti_BadValue_lst, ti_BadValue_dk, ti_BadValue_x1, ti_BadValue_x2, ti_BadNumber_non, ti_BadNumber_bl, ti_BadNumber_int, ti_BadNumber_str, ti_BadNumber_tup, ti_BadNumber_lst, ti_BadNumber_dk, ti_BadNumber_x1, ti_BadNumber_x2, ta_part_x1, ta_part_x2, tx_RulesError_1, tx_RulesError_2, d0, d1, x1, x2, x3, neg_ok]
theorem need_t (t : Int) (h : 0 ≤ t) : sem_need_integer [.dat (.str (Str.ofString "theirs")), .dat (.int t), .dat (.int 0), .dat .non] = .ok (.int t) [.dat (.str (Str.ofString "theirs")), .dat (.int t), .dat (.int 0), .dat .non] := by
  have d0 : decide (t < 0) = false := decide_eq_false (by omega)
  simp only [sem_need_integer, b_need_integer, b_need_integer_i1, b_need_integer_i2, b_need_integer_s1, b_need_integer_s2, Md.v_seq, Md.v_nx, Md.v_rt, Md.v_bk, Md.v_ct, Md.v_ex, Md.v_ok, Md.v_bx, Md.v_to, Md.v_tx, Md.v_oR, Md.v_sR, Md.v_var, Md.v_k, Md.v_op2, Md.v_k2, Md.v_k3, Md.v_op1, Md.v_k1, Md.v_bR, Md.v_bool, Md.v_not, Md.v_knot, Md.v_and, Md.v_and1, Md.v_and0, Md.v_or, Md.v_or1, Md.v_or0, Md.v_nR, Md.v_notV, Md.v_aR1, Md.v_aR0, Md.v_andV, Md.v_orR1, Md.v_orR0, Md.v_orV, Md.v_if, Md.v_if1, Md.v_if0, Md.v_anil, Md.v_acons, Md.v_kac, Md.v_kad, Md.v_ob1, Md.v_ob2, Md.v_aobj, Md.v_ds0, Md.v_ds1, Md.v_ds2, Md.v_ds3, Md.v_ds4, Md.v_ds5, Md.v_ds6, Md.v_dsg, Md.v_dso, Md.v_dat0, Md.v_datc, Md.v_dco, Md.v_tup, Md.v_lst, Md.v_new, Md.v_lst', Md.v_tup', Md.v_new', Md.v_blR, Md.v_cb, Md.v_cb1, Md.v_cb2, Md.v_slR, Md.v_call, Md.v_cd1, Md.v_cd2, Md.v_ca0, Md.v_ca1, Md.v_ca2, Md.v_ca3, Md.v_ca4, Md.v_ci1, Md.v_ci2, Md.v_ciS, Md.v_ci_0, Md.v_ci_1, Md.v_ci_2, Md.v_io1, Md.v_io2, Md.v_put, Md.v_pu1, Md.v_pu2, Md.v_st1, Md.v_st2, Md.v_st3, Md.v_setE, Md.v_nxO, Md.v_set, Md.v_kset, Md.v_snew, Md.v_knew, Md.v_expr, Md.v_kex, Md.v_ret, Md.v_kret, Md.v_retN, Md.v_nil, Md.v_sif, Md.v_if_t, Md.v_if_f, Md.v_fr, Md.v_freeze, Md.v_la1, Md.v_la2, Md.v_lst_at, Md.v_ixR, Md.v_ixO, Md.v_gix, Md.v_kix, Md.v_leR, Md.v_lenO, Md.v_sput, Md.v_kpu, Md.v_gpu, Md.v_kpv, Md.v_gme, Md.v_kme, Md.v_meth, Md.v_raise, Md.v_ra1, Md.v_ra2, Md.v_par, Md.v_pa, Md.v_pa2, Md.v_tryK, Md.v_tk1, Md.v_tk2', Md.v_run, Md.v_ru1, Md.v_ru2, Md.v_ru3, Md.v_ou0, Md.v_ou1, Md.v_ou2, Md.v_it, Md.v_it1, Md.v_it2, Md.v_r1, Md.v_for, Md.v_kfo, Md.v_m1, Md.v_m1R, Md.v_m1S, Md.v_ifB, Md.v_ifB1, Md.v_ifB0, Md.v_mkD, Md.v_mkX, Md.v_make, Md.v_makeK, Md.v_mkG, Md.v_fldS, Md.v_fsR, Md.v_ins0, Md.v_fsO, Md.v_fld, Md.v_its, Md.v_lc, Md.v_lcR, Md.v_ofNew, Md.v_ofR, Md.v_chain, Md.v_ch1, Md.v_chY, Md.v_ch2t, Md.v_ch2f, Md.v_ch3, Md.v_cut, Md.v_cu1, Md.v_cu2, Md.v_cu3, Md.v_nop, Md.v_part, Md.v_ptR, Md.v_unp, Md.v_unO, Md.v_tgO, Md.v_tgs0, Md.v_tgs, Md.v_tgB, Md.v_ttt, Md.v_tname, Md.v_fg0, Md.v_fgc, Md.v_fg1, Md.v_fgn, Md.v_fgt, Md.v_fgb, Md.v_fgr, Md.v_fgx, Md.v_lc0, Md.v_lcc, Md.v_lc1, Md.v_lc2t, Md.v_lc2f, Md.v_lc3, Md.v_yes, Md.v_wi0, Md.v_wi, Md.v_re0, Md.v_re, Md.v_reS, Md.v_ow0, Md.v_ow, Md.v_oku, Md.v_okd, Md.v_lce, Md.v_lcet, Md.v_callK, Md.v_ckR, Md.v_callN, Md.v_cnd1, Md.v_cnd2, Md.v_cn0, Md.v_cn1, Md.v_cn2, Md.v_cn3, Md.v_emk0, Md.v_aug, Md.v_agS, Md.v_kag, Md.v_agO, Md.v_r2, Md.v_r2R, Md.v_r1n, Md.v_rg0, Md.v_rgs, Md.v_emk, Md.v_mkR1, Md.v_mkR2, Md.v_tkx, Md.v_tkf, Md.v_tkt, Md.v_ttl, Md.v_stf, Md.v_lk0, Md.v_lk, Md.v_lkt, Md.v_lkf, Md.v_pd0, Md.v_pd, Md.v_pdt, Md.v_pdf, Md.v_atc, Md.v_atx, Md.v_eq, Md.v_ne, Md.v_eqs, Md.v_nes, Md.v_inl, Md.v_int, Md.v_nil', Md.v_nit', Md.v_fl0, Md.v_fl1, Md.v_fl2, Md.v_fl3, Md.v_fl4, Md.v_fl5, Md.v_fa0, Md.v_fac, Md.v_q0, Md.v_q1, Md.v_q2, Md.v_q3, Md.v_q4, Md.v_q5, Md.v_q6, Md.v_q7, Md.v_qs0, Md.v_qsc, Md.v_qsn, Md.v_qns, Md.v_i0, Md.v_i1, Md.v_qa, Md.v_qb, Md.v_qc, Md.v_qd, Md.v_qe, Md.v_qf, Md.v_qg, Md.v_qh, Md.v_qi, Md.v_qj, Md.v_qk, Md.v_ql, Md.v_qm, Md.v_qn, Md.v_qo, Md.v_qp, Md.v_qq, Md.v_qr, Md.v_qs, Md.v_qt, Md.v_qu, Md.v_qv, Md.v_qw, Md.v_qx, Md.v_qy, Md.v_qz, Md.v_atI0, Md.v_atI1, Md.v_atI2, Md.v_atI3, Md.v_atI4, Md.v_atI5, Md.v_atI6, Md.v_atI7, Md.v_atI8, Md.v_atI9, Md.v_atI10, Md.v_atI11, Md.v_atI12, Md.v_ixt, Md.v_ixl, Md.v_addi, Md.v_subi, Md.v_gti, Md.v_lti, Md.v_gei, Md.v_lei, Md.v_eqi, Md.v_nei, Md.v_inti, Md.v_intb, Md.v_is, Md.v_isn, Md.v_in0, Md.v_in1, Md.v_in2, Md.v_in3, Md.v_in4, Md.v_in5, Md.v_in6, Md.v_in7, Md.v_lenl, Md.v_lent, Md.v_acat, Md.v_kca, Md.v_kcat, Md.v_lam, Md.v_cap0, Md.v_capc, Md.v_cs1, Md.v_cs2, Md.v_cs3, Md.v_cs4, Md.v_runAsk, Md.v_ask, Md.v_askO, Md.v_askR1, Md.v_askR2, Md.v_lamR1, Md.v_lamR2, Md.v_nf0, Md.v_nf1, Md.v_nf2, Md.v_nf3, Md.v_nf4, Md.v_nf5, Md.v_nfa0, Md.v_nfac, Md.v_nff0, Md.v_nffc, Md.v_apo, Md.v_api, Md.v_ca5, Md.v_ca6, Md.v_ca7, Md.v_ci_3, Md.v_ci_4, Md.v_in8, Md.v_nc0, Md.v_nc1, Md.v_nc2, Md.v_nc3, Md.v_nc4, Md.v_nc5, Md.v_nc6, Md.v_nc7, Md.v_nc8, Md.v_nc9, Md.v_nc10, Md.v_nc11, Md.v_nc12, Md.v_nc13, Md.v_nc14, Md.v_nc15, Md.v_nc16, Md.v_nc17, Md.v_nc18, Md.v_nc19, Md.v_nc20, Md.v_nc21, Md.v_nc22, Md.v_nc23, Md.v_nc24, Md.v_nc25, Md.v_nc26, Md.v_nc27, Md.v_nc28, Md.v_nc29, Md.v_nc30, Md.v_nc31, Md.v_nc32, List.cons_append, List.nil_append, List.replicate_zero, List.replicate_succ, List.getElem?_cons_zero, List.getElem?_cons_succ, List.set_cons_zero, List.set_cons_succ, List.map_nil, List.map_cons, List.append_nil, Bool.not_true, Bool.not_false, Slot.put, List.length_cons, List.length_nil, List.length_append, Nat.reduceAdd, Nat.reduceLT, Nat.reduceLeDiff, Nat.reduceSub, Int.reduceLT, Int.reduceLE, Int.reduceEq, Int.reduceBEq, Int.reduceAdd, Int.reduceSub, Int.reduceMul, Int.reduceNeg, Int.reduceToNat, String.reduceBEq, decide_true, decide_false, Bool.true_and, Bool.false_and, Bool.and_true, Bool.and_false, Bool.true_or, Bool.false_or, Bool.or_true, Bool.or_false, if_true, if_false, ite_true, ite_false, Md.ofStr_beq, Bool.false_eq_true, beq_self_eq_true, reduceIte, Nat.zero_add, reduceCtorEq, ti_int_non, ti_int_bl, ti_int_int, ti_int_str, ti_int_tup, ti_int_lst, ti_int_dk, ti_int_x1, ti_int_x2, ti_bool_non, ti_bool_bl, ti_bool_int, ti_bool_str, ti_bool_tup, ti_bool_lst, ti_bool_dk, ti_bool_x1, ti_bool_x2, ti_list_tuple_non, ti_list_tuple_bl, ti_list_tuple_int, ti_list_tuple_str, ti_list_tuple_tup, ti_list_tuple_lst, ti_list_tuple_dk, ti_list_tuple_x1, ti_list_tuple_x2, ti_BadValue_non, ti_BadValue_bl, ti_BadValue_int, ti_BadValue_str, ti_BadValue_tup, ti_BadValue_lst, ti_BadValue_dk, ti_BadValue_x1, ti_BadValue_x2, ti_BadNumber_non, ti_BadNumber_bl, ti_BadNumber_int, ti_BadNumber_str, ti_BadNumber_tup, ti_BadNumber_lst, ti_BadNumber_dk, ti_BadNumber_x1, ti_BadNumber_x2, ta_part_x1, ta_part_x2, tx_RulesError_1, tx_RulesError_2, isint, d0]
theorem for_t (p q t : Int) (m : Bool) (bp : Bt 300 p) (bq : Bt 300 q) (bt : Bt 500 t) (h0 : 0 ≤ p) (h1 : p ≤ q) (h2 : 1 ≤ q) (h3 : m = true → p < q) (ht : 0 ≤ t) :
    sem_members_for [.dat (.tup [.int p, .int q, .bl m]), .dat (.int t)] = .ok (LM p q m t) [.dat (.tup [.int p, .int q, .bl m]), .dat (.int t)] ∧ sem_members_for [.dat (.lst [.int p, .int q, .bl m]), .dat (.int t)] = .ok (LM p q m t) [.dat (.lst [.int p, .int q, .bl m]), .dat (.int t)] := by
  have s := share_t p q m h0 h1 h2 h3
  have l := least p q t m bp bq bt h1
  have n := need_t t ht
  constructor <;> simp only [sem_members_for, b_members_for, b_members_for_i1, b_members_for_s1, b_members_for_s2, Md.v_seq, Md.v_nx, Md.v_rt, Md.v_bk, Md.v_ct, Md.v_ex, Md.v_ok, Md.v_bx, Md.v_to, Md.v_tx, Md.v_oR, Md.v_sR, Md.v_var, Md.v_k, Md.v_op2, Md.v_k2, Md.v_k3, Md.v_op1, Md.v_k1, Md.v_bR, Md.v_bool, Md.v_not, Md.v_knot, Md.v_and, Md.v_and1, Md.v_and0, Md.v_or, Md.v_or1, Md.v_or0, Md.v_nR, Md.v_notV, Md.v_aR1, Md.v_aR0, Md.v_andV, Md.v_orR1, Md.v_orR0, Md.v_orV, Md.v_if, Md.v_if1, Md.v_if0, Md.v_anil, Md.v_acons, Md.v_kac, Md.v_kad, Md.v_ob1, Md.v_ob2, Md.v_aobj, Md.v_ds0, Md.v_ds1, Md.v_ds2, Md.v_ds3, Md.v_ds4, Md.v_ds5, Md.v_ds6, Md.v_dsg, Md.v_dso, Md.v_dat0, Md.v_datc, Md.v_dco, Md.v_tup, Md.v_lst, Md.v_new, Md.v_lst', Md.v_tup', Md.v_new', Md.v_blR, Md.v_cb, Md.v_cb1, Md.v_cb2, Md.v_slR, Md.v_call, Md.v_cd1, Md.v_cd2, Md.v_ca0, Md.v_ca1, Md.v_ca2, Md.v_ca3, Md.v_ca4, Md.v_ci1, Md.v_ci2, Md.v_ciS, Md.v_ci_0, Md.v_ci_1, Md.v_ci_2, Md.v_io1, Md.v_io2, Md.v_put, Md.v_pu1, Md.v_pu2, Md.v_st1, Md.v_st2, Md.v_st3, Md.v_setE, Md.v_nxO, Md.v_set, Md.v_kset, Md.v_snew, Md.v_knew, Md.v_expr, Md.v_kex, Md.v_ret, Md.v_kret, Md.v_retN, Md.v_nil, Md.v_sif, Md.v_if_t, Md.v_if_f, Md.v_fr, Md.v_freeze, Md.v_la1, Md.v_la2, Md.v_lst_at, Md.v_ixR, Md.v_ixO, Md.v_gix, Md.v_kix, Md.v_leR, Md.v_lenO, Md.v_sput, Md.v_kpu, Md.v_gpu, Md.v_kpv, Md.v_gme, Md.v_kme, Md.v_meth, Md.v_raise, Md.v_ra1, Md.v_ra2, Md.v_par, Md.v_pa, Md.v_pa2, Md.v_tryK, Md.v_tk1, Md.v_tk2', Md.v_run, Md.v_ru1, Md.v_ru2, Md.v_ru3, Md.v_ou0, Md.v_ou1, Md.v_ou2, Md.v_it, Md.v_it1, Md.v_it2, Md.v_r1, Md.v_for, Md.v_kfo, Md.v_m1, Md.v_m1R, Md.v_m1S, Md.v_ifB, Md.v_ifB1, Md.v_ifB0, Md.v_mkD, Md.v_mkX, Md.v_make, Md.v_makeK, Md.v_mkG, Md.v_fldS, Md.v_fsR, Md.v_ins0, Md.v_fsO, Md.v_fld, Md.v_its, Md.v_lc, Md.v_lcR, Md.v_ofNew, Md.v_ofR, Md.v_chain, Md.v_ch1, Md.v_chY, Md.v_ch2t, Md.v_ch2f, Md.v_ch3, Md.v_cut, Md.v_cu1, Md.v_cu2, Md.v_cu3, Md.v_nop, Md.v_part, Md.v_ptR, Md.v_unp, Md.v_unO, Md.v_tgO, Md.v_tgs0, Md.v_tgs, Md.v_tgB, Md.v_ttt, Md.v_tname, Md.v_fg0, Md.v_fgc, Md.v_fg1, Md.v_fgn, Md.v_fgt, Md.v_fgb, Md.v_fgr, Md.v_fgx, Md.v_lc0, Md.v_lcc, Md.v_lc1, Md.v_lc2t, Md.v_lc2f, Md.v_lc3, Md.v_yes, Md.v_wi0, Md.v_wi, Md.v_re0, Md.v_re, Md.v_reS, Md.v_ow0, Md.v_ow, Md.v_oku, Md.v_okd, Md.v_lce, Md.v_lcet, Md.v_callK, Md.v_ckR, Md.v_callN, Md.v_cnd1, Md.v_cnd2, Md.v_cn0, Md.v_cn1, Md.v_cn2, Md.v_cn3, Md.v_emk0, Md.v_aug, Md.v_agS, Md.v_kag, Md.v_agO, Md.v_r2, Md.v_r2R, Md.v_r1n, Md.v_rg0, Md.v_rgs, Md.v_emk, Md.v_mkR1, Md.v_mkR2, Md.v_tkx, Md.v_tkf, Md.v_tkt, Md.v_ttl, Md.v_stf, Md.v_lk0, Md.v_lk, Md.v_lkt, Md.v_lkf, Md.v_pd0, Md.v_pd, Md.v_pdt, Md.v_pdf, Md.v_atc, Md.v_atx, Md.v_eq, Md.v_ne, Md.v_eqs, Md.v_nes, Md.v_inl, Md.v_int, Md.v_nil', Md.v_nit', Md.v_fl0, Md.v_fl1, Md.v_fl2, Md.v_fl3, Md.v_fl4, Md.v_fl5, Md.v_fa0, Md.v_fac, Md.v_q0, Md.v_q1, Md.v_q2, Md.v_q3, Md.v_q4, Md.v_q5, Md.v_q6, Md.v_q7, Md.v_qs0, Md.v_qsc, Md.v_qsn, Md.v_qns, Md.v_i0, Md.v_i1, Md.v_qa, Md.v_qb, Md.v_qc, Md.v_qd, Md.v_qe, Md.v_qf, Md.v_qg, Md.v_qh, Md.v_qi, Md.v_qj, Md.v_qk, Md.v_ql, Md.v_qm, Md.v_qn, Md.v_qo, Md.v_qp, Md.v_qq, Md.v_qr, Md.v_qs, Md.v_qt, Md.v_qu, Md.v_qv, Md.v_qw, Md.v_qx, Md.v_qy, Md.v_qz, Md.v_atI0, Md.v_atI1, Md.v_atI2, Md.v_atI3, Md.v_atI4, Md.v_atI5, Md.v_atI6, Md.v_atI7, Md.v_atI8, Md.v_atI9, Md.v_atI10, Md.v_atI11, Md.v_atI12, Md.v_ixt, Md.v_ixl, Md.v_addi, Md.v_subi, Md.v_gti, Md.v_lti, Md.v_gei, Md.v_lei, Md.v_eqi, Md.v_nei, Md.v_inti, Md.v_intb, Md.v_is, Md.v_isn, Md.v_in0, Md.v_in1, Md.v_in2, Md.v_in3, Md.v_in4, Md.v_in5, Md.v_in6, Md.v_in7, Md.v_lenl, Md.v_lent, Md.v_acat, Md.v_kca, Md.v_kcat, Md.v_lam, Md.v_cap0, Md.v_capc, Md.v_cs1, Md.v_cs2, Md.v_cs3, Md.v_cs4, Md.v_runAsk, Md.v_ask, Md.v_askO, Md.v_askR1, Md.v_askR2, Md.v_lamR1, Md.v_lamR2, Md.v_nf0, Md.v_nf1, Md.v_nf2, Md.v_nf3, Md.v_nf4, Md.v_nf5, Md.v_nfa0, Md.v_nfac, Md.v_nff0, Md.v_nffc, Md.v_apo, Md.v_api, Md.v_ca5, Md.v_ca6, Md.v_ca7, Md.v_ci_3, Md.v_ci_4, Md.v_in8, Md.v_nc0, Md.v_nc1, Md.v_nc2, Md.v_nc3, Md.v_nc4, Md.v_nc5, Md.v_nc6, Md.v_nc7, Md.v_nc8, Md.v_nc9, Md.v_nc10, Md.v_nc11, Md.v_nc12, Md.v_nc13, Md.v_nc14, Md.v_nc15, Md.v_nc16, Md.v_nc17, Md.v_nc18, Md.v_nc19, Md.v_nc20, Md.v_nc21, Md.v_nc22, Md.v_nc23, Md.v_nc24, Md.v_nc25, Md.v_nc26, Md.v_nc27, Md.v_nc28, Md.v_nc29, Md.v_nc30, Md.v_nc31, Md.v_nc32, List.cons_append, List.nil_append, List.replicate_zero, List.replicate_succ, List.getElem?_cons_zero, List.getElem?_cons_succ, List.set_cons_zero, List.set_cons_succ, List.map_nil, List.map_cons, List.append_nil, Bool.not_true, Bool.not_false, Slot.put, List.length_cons, List.length_nil, List.length_append, Nat.reduceAdd, Nat.reduceLT, Nat.reduceLeDiff, Nat.reduceSub, Int.reduceLT, Int.reduceLE, Int.reduceEq, Int.reduceBEq, Int.reduceAdd, Int.reduceSub, Int.reduceMul, Int.reduceNeg, Int.reduceToNat, String.reduceBEq, decide_true, decide_false, Bool.true_and, Bool.false_and, Bool.and_true, Bool.and_false, Bool.true_or, Bool.false_or, Bool.or_true, Bool.or_false, if_true, if_false, ite_true, ite_false, Md.ofStr_beq, Bool.false_eq_true, beq_self_eq_true, reduceIte, Nat.zero_add, reduceCtorEq, ti_int_non, ti_int_bl, ti_int_int, ti_int_str, ti_int_tup, ti_int_lst, ti_int_dk, ti_int_x1, ti_int_x2, ti_bool_non, ti_bool_bl, ti_bool_int, ti_bool_str, ti_bool_tup, ti_bool_lst, ti_bool_dk, ti_bool_x1, ti_bool_x2, ti_list_tuple_non, ti_list_tuple_bl, ti_list_tuple_int, ti_list_tuple_str, ti_list_tuple_tup, ti_list_tuple_lst, ti_list_tuple_dk, ti_list_tuple_x1, ti_list_tuple_x2, ti_BadValue_non, ti_BadValue_bl, ti_BadValue_int, ti_BadValue_str, ti_BadValue_tup, ti_BadValue_lst, ti_BadValue_dk, ti_BadValue_x1, ti_BadValue_x2, ti_BadNumber_non, ti_BadNumber_bl, ti_BadNumber_int, ti_BadNumber_str, ti_BadNumber_tup, ti_BadNumber_lst, ti_BadNumber_dk, ti_BadNumber_x1, ti_BadNumber_x2, ta_part_x1, ta_part_x2, tx_RulesError_1, tx_RulesError_2, s.1, s.2, l, n]
end Lw

namespace Lw
open PySem PySem.Spec PyProof.Rows L2 Md
def HasP (o t p q : Int) (m : Bool) : Bool := if o + t = 0 then false else if m = true then decide (p * (o + t) < o * q) else decide (p * (o + t) ≤ o * q)
theorem has_ok (o t p q : Int) (m : Bool) (bo : Bt 1000 o) (bt : Bt 1000 t) (bp : Bt 300 p) (bq : Bt 300 q) :
    sem__law_has [.dat (.int o), .dat (.int t), .dat (.int p), .dat (.int q), .dat (.bl m)] = .ok (.bl (HasP o t p q m)) [.dat (.int o), .dat (.int t), .dat (.int p), .dat (.int q), .dat (.bl m)] := by
  unfold HasP
  have x1 : dMul (.int o) (.int q) = some (.int (o * q)) := mul_bt bo bq
  have x2 : dMul (.int p) (.int (o + t)) = some (.int (p * (o + t))) := mul_bt bp (bt_add bo bt)
  by_cases e : o + t = 0
  · have d : (o + t == 0) = true := by simpa using e
    rw [if_pos e]
    simp only [sem__law_has, b__law_has, b__law_has_i1, b__law_has_s1, b__law_has_s2, Md.v_seq, Md.v_nx, Md.v_rt, Md.v_bk, Md.v_ct, Md.v_ex, Md.v_ok, Md.v_bx, Md.v_to, Md.v_tx, Md.v_oR, Md.v_sR, Md.v_var, Md.v_k, Md.v_op2, Md.v_k2, Md.v_k3, Md.v_op1, Md.v_k1, Md.v_bR, Md.v_bool, Md.v_not, Md.v_knot, Md.v_and, Md.v_and1, Md.v_and0, Md.v_or, Md.v_or1, Md.v_or0, Md.v_nR, Md.v_notV, Md.v_aR1, Md.v_aR0, Md.v_andV, Md.v_orR1, Md.v_orR0, Md.v_orV, Md.v_if, Md.v_if1, Md.v_if0, Md.v_anil, Md.v_acons, Md.v_kac, Md.v_kad, Md.v_ob1, Md.v_ob2, Md.v_aobj, Md.v_ds0, Md.v_ds1, Md.v_ds2, Md.v_ds3, Md.v_ds4, Md.v_ds5, Md.v_ds6, Md.v_dsg, Md.v_dso, Md.v_dat0, Md.v_datc, Md.v_dco, Md.v_tup, Md.v_lst, Md.v_new, Md.v_lst', Md.v_tup', Md.v_new', Md.v_blR, Md.v_cb, Md.v_cb1, Md.v_cb2, Md.v_slR, Md.v_call, Md.v_cd1, Md.v_cd2, Md.v_ca0, Md.v_ca1, Md.v_ca2, Md.v_ca3, Md.v_ca4, Md.v_ci1, Md.v_ci2, Md.v_ciS, Md.v_ci_0, Md.v_ci_1, Md.v_ci_2, Md.v_io1, Md.v_io2, Md.v_put, Md.v_pu1, Md.v_pu2, Md.v_st1, Md.v_st2, Md.v_st3, Md.v_setE, Md.v_nxO, Md.v_set, Md.v_kset, Md.v_snew, Md.v_knew, Md.v_expr, Md.v_kex, Md.v_ret, Md.v_kret, Md.v_retN, Md.v_nil, Md.v_sif, Md.v_if_t, Md.v_if_f, Md.v_fr, Md.v_freeze, Md.v_la1, Md.v_la2, Md.v_lst_at, Md.v_ixR, Md.v_ixO, Md.v_gix, Md.v_kix, Md.v_leR, Md.v_lenO, Md.v_sput, Md.v_kpu, Md.v_gpu, Md.v_kpv, Md.v_gme, Md.v_kme, Md.v_meth, Md.v_raise, Md.v_ra1, Md.v_ra2, Md.v_par, Md.v_pa, Md.v_pa2, Md.v_tryK, Md.v_tk1, Md.v_tk2', Md.v_run, Md.v_ru1, Md.v_ru2, Md.v_ru3, Md.v_ou0, Md.v_ou1, Md.v_ou2, Md.v_it, Md.v_it1, Md.v_it2, Md.v_r1, Md.v_for, Md.v_kfo, Md.v_m1, Md.v_m1R, Md.v_m1S, Md.v_ifB, Md.v_ifB1, Md.v_ifB0, Md.v_mkD, Md.v_mkX, Md.v_make, Md.v_makeK, Md.v_mkG, Md.v_fldS, Md.v_fsR, Md.v_ins0, Md.v_fsO, Md.v_fld, Md.v_its, Md.v_lc, Md.v_lcR, Md.v_ofNew, Md.v_ofR, Md.v_chain, Md.v_ch1, Md.v_chY, Md.v_ch2t, Md.v_ch2f, Md.v_ch3, Md.v_cut, Md.v_cu1, Md.v_cu2, Md.v_cu3, Md.v_nop, Md.v_part, Md.v_ptR, Md.v_unp, Md.v_unO, Md.v_tgO, Md.v_tgs0, Md.v_tgs, Md.v_tgB, Md.v_ttt, Md.v_tname, Md.v_fg0, Md.v_fgc, Md.v_fg1, Md.v_fgn, Md.v_fgt, Md.v_fgb, Md.v_fgr, Md.v_fgx, Md.v_lc0, Md.v_lcc, Md.v_lc1, Md.v_lc2t, Md.v_lc2f, Md.v_lc3, Md.v_yes, Md.v_wi0, Md.v_wi, Md.v_re0, Md.v_re, Md.v_reS, Md.v_ow0, Md.v_ow, Md.v_oku, Md.v_okd, Md.v_lce, Md.v_lcet, Md.v_callK, Md.v_ckR, Md.v_callN, Md.v_cnd1, Md.v_cnd2, Md.v_cn0, Md.v_cn1, Md.v_cn2, Md.v_cn3, Md.v_emk0, Md.v_aug, Md.v_agS, Md.v_kag, Md.v_agO, Md.v_r2, Md.v_r2R, Md.v_r1n, Md.v_rg0, Md.v_rgs, Md.v_emk, Md.v_mkR1, Md.v_mkR2, Md.v_tkx, Md.v_tkf, Md.v_tkt, Md.v_ttl, Md.v_stf, Md.v_lk0, Md.v_lk, Md.v_lkt, Md.v_lkf, Md.v_pd0, Md.v_pd, Md.v_pdt, Md.v_pdf, Md.v_atc, Md.v_atx, Md.v_eq, Md.v_ne, Md.v_eqs, Md.v_nes, Md.v_inl, Md.v_int, Md.v_nil', Md.v_nit', Md.v_fl0, Md.v_fl1, Md.v_fl2, Md.v_fl3, Md.v_fl4, Md.v_fl5, Md.v_fa0, Md.v_fac, Md.v_q0, Md.v_q1, Md.v_q2, Md.v_q3, Md.v_q4, Md.v_q5, Md.v_q6, Md.v_q7, Md.v_qs0, Md.v_qsc, Md.v_qsn, Md.v_qns, Md.v_i0, Md.v_i1, Md.v_qa, Md.v_qb, Md.v_qc, Md.v_qd, Md.v_qe, Md.v_qf, Md.v_qg, Md.v_qh, Md.v_qi, Md.v_qj, Md.v_qk, Md.v_ql, Md.v_qm, Md.v_qn, Md.v_qo, Md.v_qp, Md.v_qq, Md.v_qr, Md.v_qs, Md.v_qt, Md.v_qu, Md.v_qv, Md.v_qw, Md.v_qx, Md.v_qy, Md.v_qz, Md.v_atI0, Md.v_atI1, Md.v_atI2, Md.v_atI3, Md.v_atI4, Md.v_atI5, Md.v_atI6, Md.v_atI7, Md.v_atI8, Md.v_atI9, Md.v_atI10, Md.v_atI11, Md.v_atI12, Md.v_ixt, Md.v_ixl, Md.v_addi, Md.v_subi, Md.v_gti, Md.v_lti, Md.v_gei, Md.v_lei, Md.v_eqi, Md.v_nei, Md.v_inti, Md.v_intb, Md.v_is, Md.v_isn, Md.v_in0, Md.v_in1, Md.v_in2, Md.v_in3, Md.v_in4, Md.v_in5, Md.v_in6, Md.v_in7, Md.v_lenl, Md.v_lent, Md.v_acat, Md.v_kca, Md.v_kcat, Md.v_lam, Md.v_cap0, Md.v_capc, Md.v_cs1, Md.v_cs2, Md.v_cs3, Md.v_cs4, Md.v_runAsk, Md.v_ask, Md.v_askO, Md.v_askR1, Md.v_askR2, Md.v_lamR1, Md.v_lamR2, Md.v_nf0, Md.v_nf1, Md.v_nf2, Md.v_nf3, Md.v_nf4, Md.v_nf5, Md.v_nfa0, Md.v_nfac, Md.v_nff0, Md.v_nffc, Md.v_apo, Md.v_api, Md.v_ca5, Md.v_ca6, Md.v_ca7, Md.v_ci_3, Md.v_ci_4, Md.v_in8, Md.v_nc0, Md.v_nc1, Md.v_nc2, Md.v_nc3, Md.v_nc4, Md.v_nc5, Md.v_nc6, Md.v_nc7, Md.v_nc8, Md.v_nc9, Md.v_nc10, Md.v_nc11, Md.v_nc12, Md.v_nc13, Md.v_nc14, Md.v_nc15, Md.v_nc16, Md.v_nc17, Md.v_nc18, Md.v_nc19, Md.v_nc20, Md.v_nc21, Md.v_nc22, Md.v_nc23, Md.v_nc24, Md.v_nc25, Md.v_nc26, Md.v_nc27, Md.v_nc28, Md.v_nc29, Md.v_nc30, Md.v_nc31, Md.v_nc32, List.cons_append, List.nil_append, List.replicate_zero, List.replicate_succ, List.getElem?_cons_zero, List.getElem?_cons_succ, List.set_cons_zero, List.set_cons_succ, List.map_nil, List.map_cons, List.append_nil, Bool.not_true, Bool.not_false, Slot.put, List.length_cons, List.length_nil, List.length_append, Nat.reduceAdd, Nat.reduceLT, Nat.reduceLeDiff, Nat.reduceSub, Int.reduceLT, Int.reduceLE, Int.reduceEq, Int.reduceBEq, Int.reduceAdd, Int.reduceSub, Int.reduceMul, Int.reduceNeg, Int.reduceToNat, String.reduceBEq, decide_true, decide_false, Bool.true_and, Bool.false_and, Bool.and_true, Bool.and_false, Bool.true_or, Bool.false_or, Bool.or_true, Bool.or_false, if_true, if_false, ite_true, ite_false, Md.ofStr_beq, Bool.false_eq_true, beq_self_eq_true, reduceIte, Nat.zero_add, reduceCtorEq, ti_int_non, ti_int_bl, ti_int_int, ti_int_str, ti_int_tup, ti_int_lst, ti_int_dk, ti_int_x1, ti_int_x2, ti_bool_non, ti_bool_bl, ti_bool_int, ti_bool_str, ti_bool_tup, ti_bool_lst, ti_bool_dk, ti_bool_x1, ti_bool_x2, ti_list_tuple_non, ti_list_tuple_bl, ti_list_tuple_int, ti_list_tuple_str, ti_list_tuple_tup, ti_list_tuple_lst, ti_list_tuple_dk, ti_list_tuple_x1, ti_list_tuple_x2, ti_BadValue_non, ti_BadValue_bl, ti_BadValue_int, ti_BadValue_str, ti_BadValue_tup, ti_BadValue_lst, ti_BadValue_dk, ti_BadValue_x1, ti_BadValue_x2, ti_BadNumber_non, ti_BadNumber_bl, ti_BadNumber_int, ti_BadNumber_str, ti_BadNumber_tup, ti_BadNumber_lst, ti_BadNumber_dk, ti_BadNumber_x1, ti_BadNumber_x2, ta_part_x1, ta_part_x2, tx_RulesError_1, tx_RulesError_2, d]
  · have d : (o + t == 0) = false := by simpa using e
    rw [if_neg e]
    cases m <;> simp only [sem__law_has, b__law_has, b__law_has_i1, b__law_has_s1, b__law_has_s2, Md.v_seq, Md.v_nx, Md.v_rt, Md.v_bk, Md.v_ct, Md.v_ex, Md.v_ok, Md.v_bx, Md.v_to, Md.v_tx, Md.v_oR, Md.v_sR, Md.v_var, Md.v_k, Md.v_op2, Md.v_k2, Md.v_k3, Md.v_op1, Md.v_k1, Md.v_bR, Md.v_bool, Md.v_not, Md.v_knot, Md.v_and, Md.v_and1, Md.v_and0, Md.v_or, Md.v_or1, Md.v_or0, Md.v_nR, Md.v_notV, Md.v_aR1, Md.v_aR0, Md.v_andV, Md.v_orR1, Md.v_orR0, Md.v_orV, Md.v_if, Md.v_if1, Md.v_if0, Md.v_anil, Md.v_acons, Md.v_kac, Md.v_kad, Md.v_ob1, Md.v_ob2, Md.v_aobj, Md.v_ds0, Md.v_ds1, Md.v_ds2, Md.v_ds3, Md.v_ds4, Md.v_ds5, Md.v_ds6, Md.v_dsg, Md.v_dso, Md.v_dat0, Md.v_datc, Md.v_dco, Md.v_tup, Md.v_lst, Md.v_new, Md.v_lst', Md.v_tup', Md.v_new', Md.v_blR, Md.v_cb, Md.v_cb1, Md.v_cb2, Md.v_slR, Md.v_call, Md.v_cd1, Md.v_cd2, Md.v_ca0, Md.v_ca1, Md.v_ca2, Md.v_ca3, Md.v_ca4, Md.v_ci1, Md.v_ci2, Md.v_ciS, Md.v_ci_0, Md.v_ci_1, Md.v_ci_2, Md.v_io1, Md.v_io2, Md.v_put, Md.v_pu1, Md.v_pu2, Md.v_st1, Md.v_st2, Md.v_st3, Md.v_setE, Md.v_nxO, Md.v_set, Md.v_kset, Md.v_snew, Md.v_knew, Md.v_expr, Md.v_kex, Md.v_ret, Md.v_kret, Md.v_retN, Md.v_nil, Md.v_sif, Md.v_if_t, Md.v_if_f, Md.v_fr, Md.v_freeze, Md.v_la1, Md.v_la2, Md.v_lst_at, Md.v_ixR, Md.v_ixO, Md.v_gix, Md.v_kix, Md.v_leR, Md.v_lenO, Md.v_sput, Md.v_kpu, Md.v_gpu, Md.v_kpv, Md.v_gme, Md.v_kme, Md.v_meth, Md.v_raise, Md.v_ra1, Md.v_ra2, Md.v_par, Md.v_pa, Md.v_pa2, Md.v_tryK, Md.v_tk1, Md.v_tk2', Md.v_run, Md.v_ru1, Md.v_ru2, Md.v_ru3, Md.v_ou0, Md.v_ou1, Md.v_ou2, Md.v_it, Md.v_it1, Md.v_it2, Md.v_r1, Md.v_for, Md.v_kfo, Md.v_m1, Md.v_m1R, Md.v_m1S, Md.v_ifB, Md.v_ifB1, Md.v_ifB0, Md.v_mkD, Md.v_mkX, Md.v_make, Md.v_makeK, Md.v_mkG, Md.v_fldS, Md.v_fsR, Md.v_ins0, Md.v_fsO, Md.v_fld, Md.v_its, Md.v_lc, Md.v_lcR, Md.v_ofNew, Md.v_ofR, Md.v_chain, Md.v_ch1, Md.v_chY, Md.v_ch2t, Md.v_ch2f, Md.v_ch3, Md.v_cut, Md.v_cu1, Md.v_cu2, Md.v_cu3, Md.v_nop, Md.v_part, Md.v_ptR, Md.v_unp, Md.v_unO, Md.v_tgO, Md.v_tgs0, Md.v_tgs, Md.v_tgB, Md.v_ttt, Md.v_tname, Md.v_fg0, Md.v_fgc, Md.v_fg1, Md.v_fgn, Md.v_fgt, Md.v_fgb, Md.v_fgr, Md.v_fgx, Md.v_lc0, Md.v_lcc, Md.v_lc1, Md.v_lc2t, Md.v_lc2f, Md.v_lc3, Md.v_yes, Md.v_wi0, Md.v_wi, Md.v_re0, Md.v_re, Md.v_reS, Md.v_ow0, Md.v_ow, Md.v_oku, Md.v_okd, Md.v_lce, Md.v_lcet, Md.v_callK, Md.v_ckR, Md.v_callN, Md.v_cnd1, Md.v_cnd2, Md.v_cn0, Md.v_cn1, Md.v_cn2, Md.v_cn3, Md.v_emk0, Md.v_aug, Md.v_agS, Md.v_kag, Md.v_agO, Md.v_r2, Md.v_r2R, Md.v_r1n, Md.v_rg0, Md.v_rgs, Md.v_emk, Md.v_mkR1, Md.v_mkR2, Md.v_tkx, Md.v_tkf, Md.v_tkt, Md.v_ttl, Md.v_stf, Md.v_lk0, Md.v_lk, Md.v_lkt, Md.v_lkf, Md.v_pd0, Md.v_pd, Md.v_pdt, Md.v_pdf, Md.v_atc, Md.v_atx, Md.v_eq, Md.v_ne, Md.v_eqs, Md.v_nes, Md.v_inl, Md.v_int, Md.v_nil', Md.v_nit', Md.v_fl0, Md.v_fl1, Md.v_fl2, Md.v_fl3, Md.v_fl4, Md.v_fl5, Md.v_fa0, Md.v_fac, Md.v_q0, Md.v_q1, Md.v_q2, Md.v_q3, Md.v_q4, Md.v_q5, Md.v_q6, Md.v_q7, Md.v_qs0, Md.v_qsc, Md.v_qsn, Md.v_qns, Md.v_i0, Md.v_i1, Md.v_qa, Md.v_qb, Md.v_qc, Md.v_qd, Md.v_qe, Md.v_qf, Md.v_qg, Md.v_qh, Md.v_qi, Md.v_qj, Md.v_qk, Md.v_ql, Md.v_qm, Md.v_qn, Md.v_qo, Md.v_qp, Md.v_qq, Md.v_qr, Md.v_qs, Md.v_qt, Md.v_qu, Md.v_qv, Md.v_qw, Md.v_qx, Md.v_qy, Md.v_qz, Md.v_atI0, Md.v_atI1, Md.v_atI2, Md.v_atI3, Md.v_atI4, Md.v_atI5, Md.v_atI6, Md.v_atI7, Md.v_atI8, Md.v_atI9, Md.v_atI10, Md.v_atI11, Md.v_atI12, Md.v_ixt, Md.v_ixl, Md.v_addi, Md.v_subi, Md.v_gti, Md.v_lti, Md.v_gei, Md.v_lei, Md.v_eqi, Md.v_nei, Md.v_inti, Md.v_intb, Md.v_is, Md.v_isn, Md.v_in0, Md.v_in1, Md.v_in2, Md.v_in3, Md.v_in4, Md.v_in5, Md.v_in6, Md.v_in7, Md.v_lenl, Md.v_lent, Md.v_acat, Md.v_kca, Md.v_kcat, Md.v_lam, Md.v_cap0, Md.v_capc, Md.v_cs1, Md.v_cs2, Md.v_cs3, Md.v_cs4, Md.v_runAsk, Md.v_ask, Md.v_askO, Md.v_askR1, Md.v_askR2, Md.v_lamR1, Md.v_lamR2, Md.v_nf0, Md.v_nf1, Md.v_nf2, Md.v_nf3, Md.v_nf4, Md.v_nf5, Md.v_nfa0, Md.v_nfac, Md.v_nff0, Md.v_nffc, Md.v_apo, Md.v_api, Md.v_ca5, Md.v_ca6, Md.v_ca7, Md.v_ci_3, Md.v_ci_4, Md.v_in8, Md.v_nc0, Md.v_nc1, Md.v_nc2, Md.v_nc3, Md.v_nc4, Md.v_nc5, Md.v_nc6, Md.v_nc7, Md.v_nc8, Md.v_nc9, Md.v_nc10, Md.v_nc11, Md.v_nc12, Md.v_nc13, Md.v_nc14, Md.v_nc15, Md.v_nc16, Md.v_nc17, Md.v_nc18, Md.v_nc19, Md.v_nc20, Md.v_nc21, Md.v_nc22, Md.v_nc23, Md.v_nc24, Md.v_nc25, Md.v_nc26, Md.v_nc27, Md.v_nc28, Md.v_nc29, Md.v_nc30, Md.v_nc31, Md.v_nc32, List.cons_append, List.nil_append, List.replicate_zero, List.replicate_succ, List.getElem?_cons_zero, List.getElem?_cons_succ, List.set_cons_zero, List.set_cons_succ, List.map_nil, List.map_cons, List.append_nil, Bool.not_true, Bool.not_false, Slot.put, List.length_cons, List.length_nil, List.length_append, Nat.reduceAdd, Nat.reduceLT, Nat.reduceLeDiff, Nat.reduceSub, Int.reduceLT, Int.reduceLE, Int.reduceEq, Int.reduceBEq, Int.reduceAdd, Int.reduceSub, Int.reduceMul, Int.reduceNeg, Int.reduceToNat, String.reduceBEq, decide_true, decide_false, Bool.true_and, Bool.false_and, Bool.and_true, Bool.and_false, Bool.true_or, Bool.false_or, Bool.or_true, Bool.or_false, if_true, if_false, ite_true, ite_false, Md.ofStr_beq, Bool.false_eq_true, beq_self_eq_true, reduceIte, Nat.zero_add, reduceCtorEq, ti_int_non, ti_int_bl, ti_int_int, ti_int_str, ti_int_tup, ti_int_lst, ti_int_dk, ti_int_x1, ti_int_x2, ti_bool_non, ti_bool_bl, ti_bool_int, ti_bool_str, ti_bool_tup, ti_bool_lst, ti_bool_dk, ti_bool_x1, ti_bool_x2, ti_list_tuple_non, ti_list_tuple_bl, ti_list_tuple_int, ti_list_tuple_str, ti_list_tuple_tup, ti_list_tuple_lst, ti_list_tuple_dk, ti_list_tuple_x1, ti_list_tuple_x2, ti_BadValue_non, ti_BadValue_bl, ti_BadValue_int, ti_BadValue_str, ti_BadValue_tup, ti_BadValue_lst, ti_BadValue_dk, ti_BadValue_x1, ti_BadValue_x2, ti_BadNumber_non, ti_BadNumber_bl, ti_BadNumber_int, ti_BadNumber_str, ti_BadNumber_tup, ti_BadNumber_lst, ti_BadNumber_dk, ti_BadNumber_x1, ti_BadNumber_x2, ta_part_x1, ta_part_x2, tx_RulesError_1, tx_RulesError_2, d, x1, x2]
/-- the least number, by its two sides -/
theorem lm_least (p q t : Int) (m : Bool) (h0 : 0 ≤ p) (h1 : p ≤ q) (h2 : 1 ≤ q) (h3 : m = true → p < q) (ht : 0 ≤ t) :
    (LM p q m t = .non ∧ p = q ∧ 0 < t) ∨ ∃ n, LM p q m t = .int n ∧ 0 ≤ n ∧ n ≤ p * t + 1 ∧ HasP n t p q m = true ∧ (n = 0 ∨ HasP (n - 1) t p q m = false) := by
  unfold LM
  by_cases t0 : t = 0
  · subst t0
    rw [if_pos rfl]
    refine .inr ⟨1, rfl, by decide, by omega, ?_, .inr ?_⟩
    · unfold HasP
      rw [if_neg (by omega)]
      cases m with
      | true => rw [if_pos rfl]; have := h3 rfl; rw [decide_eq_true]; omega
      | false => rw [if_neg (by simp)]; rw [decide_eq_true]; omega
    · unfold HasP
      rw [if_pos (by omega)]
  · rw [if_neg t0]
    by_cases e : p = q
    · exact .inl ⟨by rw [if_pos e], e, by omega⟩
    · rw [if_neg e]
      have hd : 0 < q - p := by omega
      have hpt : 0 ≤ p * t := Int.mul_nonneg h0 ht
      have ex : ∀ n : Int, p * (n + t) < n * q ↔ p * t < n * (q - p) := fun n => by
        rw [Int.mul_add, Int.mul_sub, Int.mul_comm n p]
        omega
      have ex2 : ∀ n : Int, p * (n + t) ≤ n * q ↔ p * t ≤ n * (q - p) := fun n => by
        rw [Int.mul_add, Int.mul_sub, Int.mul_comm n p]
        omega
      cases m with
      | true =>
        rw [if_pos rfl]
        have g1 := Int.ediv_mul_le (p * t) (show q - p ≠ 0 by omega)
        have g2 := Int.lt_ediv_add_one_mul_self (p * t) hd
        have g3 : 0 ≤ p * t / (q - p) := Int.ediv_nonneg hpt (by omega)
        have g4 : p * t / (q - p) ≤ p * t := Int.ediv_le_self _ hpt
        refine .inr ⟨_, rfl, by omega, by omega, ?_, .inr ?_⟩
        · unfold HasP
          rw [if_neg (by omega), if_pos rfl, decide_eq_true]
          exact (ex _).mpr g2
        · unfold HasP
          rw [if_neg (by omega), if_pos rfl, decide_eq_false]
          intro z
          have := (ex _).mp z
          rw [show p * t / (q - p) + 1 - 1 = p * t / (q - p) by omega] at this
          omega
      | false =>
        rw [if_neg (by simp)]
        have g1 := Int.ediv_mul_le (-p * t) (show q - p ≠ 0 by omega)
        have g2 := Int.lt_ediv_add_one_mul_self (-p * t) hd
        have en : -p * t = -(p * t) := Int.neg_mul _ _
        generalize hk : -p * t / (q - p) = k at g1 g2 ⊢
        rw [en] at g1 g2
        have k0 : k ≤ 0 := by
          rw [← hk]
          exact Int.ediv_nonpos_of_nonpos_of_neg (by omega) (by omega)
        have g1' : p * t ≤ (-k) * (q - p) := by rw [Int.neg_mul]; omega
        have g2' : (-k - 1) * (q - p) < p * t := by
          have : (-k - 1) * (q - p) = -((k + 1) * (q - p)) := by rw [← Int.neg_mul]; congr 1; omega
          omega
        have kb : -k ≤ p * t + 1 := by
          by_cases z : 1 ≤ -k - 1
          · have := Int.mul_le_mul_of_nonneg_left (show 1 ≤ q - p by omega) (show 0 ≤ -k - 1 by omega)
            omega
          · omega
        refine .inr ⟨-k, rfl, by omega, kb, ?_, ?_⟩
        · unfold HasP
          rw [if_neg (by omega), if_neg (by simp), decide_eq_true]
          exact (ex2 _).mpr g1'
        · by_cases z : k = 0
          · exact .inl (by omega)
          · refine .inr ?_
            unfold HasP
            rw [if_neg (by omega), if_neg (by simp), decide_eq_false]
            intro y
            have := (ex2 _).mp y
            omega
theorem is_least (p q t : Int) (m : Bool) (bp : Bt 300 p) (bq : Bt 300 q) (bt : Bt 500 t) (h0 : 0 ≤ p) (h1 : p ≤ q) (h2 : 1 ≤ q) (h3 : m = true → p < q) (ht : 0 ≤ t) :
    sem__law_is_least [.dat (LM p q m t), .dat (.int t), .dat (.int p), .dat (.int q), .dat (.bl m)] = .ok (.bl true) [.dat (LM p q m t), .dat (.int t), .dat (.int p), .dat (.int q), .dat (.bl m)] := by
  rcases lm_least p q t m h0 h1 h2 h3 ht with ⟨e, e2, e3⟩ | ⟨n, e, n0, n1, a, b⟩
  · rw [e]
    subst e2
    have d : decide (0 < t) = true := decide_eq_true e3
    simp only [sem__law_is_least, b__law_is_least, b__law_is_least_i1, b__law_is_least_i2, b__law_is_least_s1, b__law_is_least_s2, Md.v_seq, Md.v_nx, Md.v_rt, Md.v_bk, Md.v_ct, Md.v_ex, Md.v_ok, Md.v_bx, Md.v_to, Md.v_tx, Md.v_oR, Md.v_sR, Md.v_var, Md.v_k, Md.v_op2, Md.v_k2, Md.v_k3, Md.v_op1, Md.v_k1, Md.v_bR, Md.v_bool, Md.v_not, Md.v_knot, Md.v_and, Md.v_and1, Md.v_and0, Md.v_or, Md.v_or1, Md.v_or0, Md.v_nR, Md.v_notV, Md.v_aR1, Md.v_aR0, Md.v_andV, Md.v_orR1, Md.v_orR0, Md.v_orV, Md.v_if, Md.v_if1, Md.v_if0, Md.v_anil, Md.v_acons, Md.v_kac, Md.v_kad, Md.v_ob1, Md.v_ob2, Md.v_aobj, Md.v_ds0, Md.v_ds1, Md.v_ds2, Md.v_ds3, Md.v_ds4, Md.v_ds5, Md.v_ds6, Md.v_dsg, Md.v_dso, Md.v_dat0, Md.v_datc, Md.v_dco, Md.v_tup, Md.v_lst, Md.v_new, Md.v_lst', Md.v_tup', Md.v_new', Md.v_blR, Md.v_cb, Md.v_cb1, Md.v_cb2, Md.v_slR, Md.v_call, Md.v_cd1, Md.v_cd2, Md.v_ca0, Md.v_ca1, Md.v_ca2, Md.v_ca3, Md.v_ca4, Md.v_ci1, Md.v_ci2, Md.v_ciS, Md.v_ci_0, Md.v_ci_1, Md.v_ci_2, Md.v_io1, Md.v_io2, Md.v_put, Md.v_pu1, Md.v_pu2, Md.v_st1, Md.v_st2, Md.v_st3, Md.v_setE, Md.v_nxO, Md.v_set, Md.v_kset, Md.v_snew, Md.v_knew, Md.v_expr, Md.v_kex, Md.v_ret, Md.v_kret, Md.v_retN, Md.v_nil, Md.v_sif, Md.v_if_t, Md.v_if_f, Md.v_fr, Md.v_freeze, Md.v_la1, Md.v_la2, Md.v_lst_at, Md.v_ixR, Md.v_ixO, Md.v_gix, Md.v_kix, Md.v_leR, Md.v_lenO, Md.v_sput, Md.v_kpu, Md.v_gpu, Md.v_kpv, Md.v_gme, Md.v_kme, Md.v_meth, Md.v_raise, Md.v_ra1, Md.v_ra2, Md.v_par, Md.v_pa, Md.v_pa2, Md.v_tryK, Md.v_tk1, Md.v_tk2', Md.v_run, Md.v_ru1, Md.v_ru2, Md.v_ru3, Md.v_ou0, Md.v_ou1, Md.v_ou2, Md.v_it, Md.v_it1, Md.v_it2, Md.v_r1, Md.v_for, Md.v_kfo, Md.v_m1, Md.v_m1R, Md.v_m1S, Md.v_ifB, Md.v_ifB1, Md.v_ifB0, Md.v_mkD, Md.v_mkX, Md.v_make, Md.v_makeK, Md.v_mkG, Md.v_fldS, Md.v_fsR, Md.v_ins0, Md.v_fsO, Md.v_fld, Md.v_its, Md.v_lc, Md.v_lcR, Md.v_ofNew, Md.v_ofR, Md.v_chain, Md.v_ch1, Md.v_chY, Md.v_ch2t, Md.v_ch2f, Md.v_ch3, Md.v_cut, Md.v_cu1, Md.v_cu2, Md.v_cu3, Md.v_nop, Md.v_part, Md.v_ptR, Md.v_unp, Md.v_unO, Md.v_tgO, Md.v_tgs0, Md.v_tgs, Md.v_tgB, Md.v_ttt, Md.v_tname, Md.v_fg0, Md.v_fgc, Md.v_fg1, Md.v_fgn, Md.v_fgt, Md.v_fgb, Md.v_fgr, Md.v_fgx, Md.v_lc0, Md.v_lcc, Md.v_lc1, Md.v_lc2t, Md.v_lc2f, Md.v_lc3, Md.v_yes, Md.v_wi0, Md.v_wi, Md.v_re0, Md.v_re, Md.v_reS, Md.v_ow0, Md.v_ow, Md.v_oku, Md.v_okd, Md.v_lce, Md.v_lcet, Md.v_callK, Md.v_ckR, Md.v_callN, Md.v_cnd1, Md.v_cnd2, Md.v_cn0, Md.v_cn1, Md.v_cn2, Md.v_cn3, Md.v_emk0, Md.v_aug, Md.v_agS, Md.v_kag, Md.v_agO, Md.v_r2, Md.v_r2R, Md.v_r1n, Md.v_rg0, Md.v_rgs, Md.v_emk, Md.v_mkR1, Md.v_mkR2, Md.v_tkx, Md.v_tkf, Md.v_tkt, Md.v_ttl, Md.v_stf, Md.v_lk0, Md.v_lk, Md.v_lkt, Md.v_lkf, Md.v_pd0, Md.v_pd, Md.v_pdt, Md.v_pdf, Md.v_atc, Md.v_atx, Md.v_eq, Md.v_ne, Md.v_eqs, Md.v_nes, Md.v_inl, Md.v_int, Md.v_nil', Md.v_nit', Md.v_fl0, Md.v_fl1, Md.v_fl2, Md.v_fl3, Md.v_fl4, Md.v_fl5, Md.v_fa0, Md.v_fac, Md.v_q0, Md.v_q1, Md.v_q2, Md.v_q3, Md.v_q4, Md.v_q5, Md.v_q6, Md.v_q7, Md.v_qs0, Md.v_qsc, Md.v_qsn, Md.v_qns, Md.v_i0, Md.v_i1, Md.v_qa, Md.v_qb, Md.v_qc, Md.v_qd, Md.v_qe, Md.v_qf, Md.v_qg, Md.v_qh, Md.v_qi, Md.v_qj, Md.v_qk, Md.v_ql, Md.v_qm, Md.v_qn, Md.v_qo, Md.v_qp, Md.v_qq, Md.v_qr, Md.v_qs, Md.v_qt, Md.v_qu, Md.v_qv, Md.v_qw, Md.v_qx, Md.v_qy, Md.v_qz, Md.v_atI0, Md.v_atI1, Md.v_atI2, Md.v_atI3, Md.v_atI4, Md.v_atI5, Md.v_atI6, Md.v_atI7, Md.v_atI8, Md.v_atI9, Md.v_atI10, Md.v_atI11, Md.v_atI12, Md.v_ixt, Md.v_ixl, Md.v_addi, Md.v_subi, Md.v_gti, Md.v_lti, Md.v_gei, Md.v_lei, Md.v_eqi, Md.v_nei, Md.v_inti, Md.v_intb, Md.v_is, Md.v_isn, Md.v_in0, Md.v_in1, Md.v_in2, Md.v_in3, Md.v_in4, Md.v_in5, Md.v_in6, Md.v_in7, Md.v_lenl, Md.v_lent, Md.v_acat, Md.v_kca, Md.v_kcat, Md.v_lam, Md.v_cap0, Md.v_capc, Md.v_cs1, Md.v_cs2, Md.v_cs3, Md.v_cs4, Md.v_runAsk, Md.v_ask, Md.v_askO, Md.v_askR1, Md.v_askR2, Md.v_lamR1, Md.v_lamR2, Md.v_nf0, Md.v_nf1, Md.v_nf2, Md.v_nf3, Md.v_nf4, Md.v_nf5, Md.v_nfa0, Md.v_nfac, Md.v_nff0, Md.v_nffc, Md.v_apo, Md.v_api, Md.v_ca5, Md.v_ca6, Md.v_ca7, Md.v_ci_3, Md.v_ci_4, Md.v_in8, Md.v_nc0, Md.v_nc1, Md.v_nc2, Md.v_nc3, Md.v_nc4, Md.v_nc5, Md.v_nc6, Md.v_nc7, Md.v_nc8, Md.v_nc9, Md.v_nc10, Md.v_nc11, Md.v_nc12, Md.v_nc13, Md.v_nc14, Md.v_nc15, Md.v_nc16, Md.v_nc17, Md.v_nc18, Md.v_nc19, Md.v_nc20, Md.v_nc21, Md.v_nc22, Md.v_nc23, Md.v_nc24, Md.v_nc25, Md.v_nc26, Md.v_nc27, Md.v_nc28, Md.v_nc29, Md.v_nc30, Md.v_nc31, Md.v_nc32, List.cons_append, List.nil_append, List.replicate_zero, List.replicate_succ, List.getElem?_cons_zero, List.getElem?_cons_succ, List.set_cons_zero, List.set_cons_succ, List.map_nil, List.map_cons, List.append_nil, Bool.not_true, Bool.not_false, Slot.put, List.length_cons, List.length_nil, List.length_append, Nat.reduceAdd, Nat.reduceLT, Nat.reduceLeDiff, Nat.reduceSub, Int.reduceLT, Int.reduceLE, Int.reduceEq, Int.reduceBEq, Int.reduceAdd, Int.reduceSub, Int.reduceMul, Int.reduceNeg, Int.reduceToNat, String.reduceBEq, decide_true, decide_false, Bool.true_and, Bool.false_and, Bool.and_true, Bool.and_false, Bool.true_or, Bool.false_or, Bool.or_true, Bool.or_false, if_true, if_false, ite_true, ite_false, Md.ofStr_beq, Bool.false_eq_true, beq_self_eq_true, reduceIte, Nat.zero_add, reduceCtorEq, ti_int_non, ti_int_bl, ti_int_int, ti_int_str, ti_int_tup, ti_int_lst, ti_int_dk, ti_int_x1, ti_int_x2, ti_bool_non, ti_bool_bl, ti_bool_int, ti_bool_str, ti_bool_tup, ti_bool_lst, ti_bool_dk, ti_bool_x1, ti_bool_x2, ti_list_tuple_non, ti_list_tuple_bl, ti_list_tuple_int, ti_list_tuple_str, ti_list_tuple_tup, ti_list_tuple_lst, ti_list_tuple_dk, ti_list_tuple_x1, ti_list_tuple_x2, ti_BadValue_non, ti_BadValue_bl, ti_BadValue_int, ti_BadValue_str, ti_BadValue_tup, ti_BadValue_lst, ti_BadValue_dk, ti_BadValue_x1, ti_BadValue_x2, ti_BadNumber_non, ti_BadNumber_bl, ti_BadNumber_int, ti_BadNumber_str, ti_BadNumber_tup, ti_BadNumber_lst, ti_BadNumber_dk, ti_BadNumber_x1, ti_BadNumber_x2, ta_part_x1, ta_part_x2, tx_RulesError_1, tx_RulesError_2, d]
  · rw [e]
    have bn : Bt 900 n := bt_lt (bt_mono (bt_add (bt_mul bp bt) (bt_sm (n := 800) (by decide) (by decide))) (by decide)) n0 n1
    have d : decide (n < 0) = false := decide_eq_false (by omega)
    have k1 := has_ok n t p q m (bt_mono bn (by decide)) (bt_mono bt (by decide)) bp bq
    have k2 := has_ok (n - 1) t p q m (bt_mono (bt_sub bn (bt_sm (n := 900) (by decide) (by decide))) (by decide)) (bt_mono bt (by decide)) bp bq
    rw [a] at k1
    rcases b with b | b
    · subst b
      simp only [sem__law_is_least, b__law_is_least, b__law_is_least_i1, b__law_is_least_i2, b__law_is_least_s1, b__law_is_least_s2, Md.v_seq, Md.v_nx, Md.v_rt, Md.v_bk, Md.v_ct, Md.v_ex, Md.v_ok, Md.v_bx, Md.v_to, Md.v_tx, Md.v_oR, Md.v_sR, Md.v_var, Md.v_k, Md.v_op2, Md.v_k2, Md.v_k3, Md.v_op1, Md.v_k1, Md.v_bR, Md.v_bool, Md.v_not, Md.v_knot, Md.v_and, Md.v_and1, Md.v_and0, Md.v_or, Md.v_or1, Md.v_or0, Md.v_nR, Md.v_notV, Md.v_aR1, Md.v_aR0, Md.v_andV, Md.v_orR1, Md.v_orR0, Md.v_orV, Md.v_if, Md.v_if1, Md.v_if0, Md.v_anil, Md.v_acons, Md.v_kac, Md.v_kad, Md.v_ob1, Md.v_ob2, Md.v_aobj, Md.v_ds0, Md.v_ds1, Md.v_ds2, Md.v_ds3, Md.v_ds4, Md.v_ds5, Md.v_ds6, Md.v_dsg, Md.v_dso, Md.v_dat0, Md.v_datc, Md.v_dco, Md.v_tup, Md.v_lst, Md.v_new, Md.v_lst', Md.v_tup', Md.v_new', Md.v_blR, Md.v_cb, Md.v_cb1, Md.v_cb2, Md.v_slR, Md.v_call, Md.v_cd1, Md.v_cd2, Md.v_ca0, Md.v_ca1, Md.v_ca2, Md.v_ca3, Md.v_ca4, Md.v_ci1, Md.v_ci2, Md.v_ciS, Md.v_ci_0, Md.v_ci_1, Md.v_ci_2, Md.v_io1, Md.v_io2, Md.v_put, Md.v_pu1, Md.v_pu2, Md.v_st1, Md.v_st2, Md.v_st3, Md.v_setE, Md.v_nxO, Md.v_set, Md.v_kset, Md.v_snew, Md.v_knew, Md.v_expr, Md.v_kex, Md.v_ret, Md.v_kret, Md.v_retN, Md.v_nil, Md.v_sif, Md.v_if_t, Md.v_if_f, Md.v_fr, Md.v_freeze, Md.v_la1, Md.v_la2, Md.v_lst_at, Md.v_ixR, Md.v_ixO, Md.v_gix, Md.v_kix, Md.v_leR, Md.v_lenO, Md.v_sput, Md.v_kpu, Md.v_gpu, Md.v_kpv, Md.v_gme, Md.v_kme, Md.v_meth, Md.v_raise, Md.v_ra1, Md.v_ra2, Md.v_par, Md.v_pa, Md.v_pa2, Md.v_tryK, Md.v_tk1, Md.v_tk2', Md.v_run, Md.v_ru1, Md.v_ru2, Md.v_ru3, Md.v_ou0, Md.v_ou1, Md.v_ou2, Md.v_it, Md.v_it1, Md.v_it2, Md.v_r1, Md.v_for, Md.v_kfo, Md.v_m1, Md.v_m1R, Md.v_m1S, Md.v_ifB, Md.v_ifB1, Md.v_ifB0, Md.v_mkD, Md.v_mkX, Md.v_make, Md.v_makeK, Md.v_mkG, Md.v_fldS, Md.v_fsR, Md.v_ins0, Md.v_fsO, Md.v_fld, Md.v_its, Md.v_lc, Md.v_lcR, Md.v_ofNew, Md.v_ofR, Md.v_chain, Md.v_ch1, Md.v_chY, Md.v_ch2t, Md.v_ch2f, Md.v_ch3, Md.v_cut, Md.v_cu1, Md.v_cu2, Md.v_cu3, Md.v_nop, Md.v_part, Md.v_ptR, Md.v_unp, Md.v_unO, Md.v_tgO, Md.v_tgs0, Md.v_tgs, Md.v_tgB, Md.v_ttt, Md.v_tname, Md.v_fg0, Md.v_fgc, Md.v_fg1, Md.v_fgn, Md.v_fgt, Md.v_fgb, Md.v_fgr, Md.v_fgx, Md.v_lc0, Md.v_lcc, Md.v_lc1, Md.v_lc2t, Md.v_lc2f, Md.v_lc3, Md.v_yes, Md.v_wi0, Md.v_wi, Md.v_re0, Md.v_re, Md.v_reS, Md.v_ow0, Md.v_ow, Md.v_oku, Md.v_okd, Md.v_lce, Md.v_lcet, Md.v_callK, Md.v_ckR, Md.v_callN, Md.v_cnd1, Md.v_cnd2, Md.v_cn0, Md.v_cn1, Md.v_cn2, Md.v_cn3, Md.v_emk0, Md.v_aug, Md.v_agS, Md.v_kag, Md.v_agO, Md.v_r2, Md.v_r2R, Md.v_r1n, Md.v_rg0, Md.v_rgs, Md.v_emk, Md.v_mkR1, Md.v_mkR2, Md.v_tkx, Md.v_tkf, Md.v_tkt, Md.v_ttl, Md.v_stf, Md.v_lk0, Md.v_lk, Md.v_lkt, Md.v_lkf, Md.v_pd0, Md.v_pd, Md.v_pdt, Md.v_pdf, Md.v_atc, Md.v_atx, Md.v_eq, Md.v_ne, Md.v_eqs, Md.v_nes, Md.v_inl, Md.v_int, Md.v_nil', Md.v_nit', Md.v_fl0, Md.v_fl1, Md.v_fl2, Md.v_fl3, Md.v_fl4, Md.v_fl5, Md.v_fa0, Md.v_fac, Md.v_q0, Md.v_q1, Md.v_q2, Md.v_q3, Md.v_q4, Md.v_q5, Md.v_q6, Md.v_q7, Md.v_qs0, Md.v_qsc, Md.v_qsn, Md.v_qns, Md.v_i0, Md.v_i1, Md.v_qa, Md.v_qb, Md.v_qc, Md.v_qd, Md.v_qe, Md.v_qf, Md.v_qg, Md.v_qh, Md.v_qi, Md.v_qj, Md.v_qk, Md.v_ql, Md.v_qm, Md.v_qn, Md.v_qo, Md.v_qp, Md.v_qq, Md.v_qr, Md.v_qs, Md.v_qt, Md.v_qu, Md.v_qv, Md.v_qw, Md.v_qx, Md.v_qy, Md.v_qz, Md.v_atI0, Md.v_atI1, Md.v_atI2, Md.v_atI3, Md.v_atI4, Md.v_atI5, Md.v_atI6, Md.v_atI7, Md.v_atI8, Md.v_atI9, Md.v_atI10, Md.v_atI11, Md.v_atI12, Md.v_ixt, Md.v_ixl, Md.v_addi, Md.v_subi, Md.v_gti, Md.v_lti, Md.v_gei, Md.v_lei, Md.v_eqi, Md.v_nei, Md.v_inti, Md.v_intb, Md.v_is, Md.v_isn, Md.v_in0, Md.v_in1, Md.v_in2, Md.v_in3, Md.v_in4, Md.v_in5, Md.v_in6, Md.v_in7, Md.v_lenl, Md.v_lent, Md.v_acat, Md.v_kca, Md.v_kcat, Md.v_lam, Md.v_cap0, Md.v_capc, Md.v_cs1, Md.v_cs2, Md.v_cs3, Md.v_cs4, Md.v_runAsk, Md.v_ask, Md.v_askO, Md.v_askR1, Md.v_askR2, Md.v_lamR1, Md.v_lamR2, Md.v_nf0, Md.v_nf1, Md.v_nf2, Md.v_nf3, Md.v_nf4, Md.v_nf5, Md.v_nfa0, Md.v_nfac, Md.v_nff0, Md.v_nffc, Md.v_apo, Md.v_api, Md.v_ca5, Md.v_ca6, Md.v_ca7, Md.v_ci_3, Md.v_ci_4, Md.v_in8, Md.v_nc0, Md.v_nc1, Md.v_nc2, Md.v_nc3, Md.v_nc4, Md.v_nc5, Md.v_nc6, Md.v_nc7, Md.v_nc8, Md.v_nc9, Md.v_nc10, Md.v_nc11, Md.v_nc12, Md.v_nc13, Md.v_nc14, Md.v_nc15, Md.v_nc16, Md.v_nc17, Md.v_nc18, Md.v_nc19, Md.v_nc20, Md.v_nc21, Md.v_nc22, Md.v_nc23, Md.v_nc24, Md.v_nc25, Md.v_nc26, Md.v_nc27, Md.v_nc28, Md.v_nc29, Md.v_nc30, Md.v_nc31, Md.v_nc32, List.cons_append, List.nil_append, List.replicate_zero, List.replicate_succ, List.getElem?_cons_zero, List.getElem?_cons_succ, List.set_cons_zero, List.set_cons_succ, List.map_nil, List.map_cons, List.append_nil, Bool.not_true, Bool.not_false, Slot.put, List.length_cons, List.length_nil, List.length_append, Nat.reduceAdd, Nat.reduceLT, Nat.reduceLeDiff, Nat.reduceSub, Int.reduceLT, Int.reduceLE, Int.reduceEq, Int.reduceBEq, Int.reduceAdd, Int.reduceSub, Int.reduceMul, Int.reduceNeg, Int.reduceToNat, String.reduceBEq, decide_true, decide_false, Bool.true_and, Bool.false_and, Bool.and_true, Bool.and_false, Bool.true_or, Bool.false_or, Bool.or_true, Bool.or_false, if_true, if_false, ite_true, ite_false, Md.ofStr_beq, Bool.false_eq_true, beq_self_eq_true, reduceIte, Nat.zero_add, reduceCtorEq, ti_int_non, ti_int_bl, ti_int_int, ti_int_str, ti_int_tup, ti_int_lst, ti_int_dk, ti_int_x1, ti_int_x2, ti_bool_non, ti_bool_bl, ti_bool_int, ti_bool_str, ti_bool_tup, ti_bool_lst, ti_bool_dk, ti_bool_x1, ti_bool_x2, ti_list_tuple_non, ti_list_tuple_bl, ti_list_tuple_int, ti_list_tuple_str, ti_list_tuple_tup, ti_list_tuple_lst, ti_list_tuple_dk, ti_list_tuple_x1, ti_list_tuple_x2, ti_BadValue_non, ti_BadValue_bl, ti_BadValue_int, ti_BadValue_str, ti_BadValue_tup, ti_BadValue_lst, ti_BadValue_dk, ti_BadValue_x1, ti_BadValue_x2, ti_BadNumber_non, ti_BadNumber_bl, ti_BadNumber_int, ti_BadNumber_str, ti_BadNumber_tup, ti_BadNumber_lst, ti_BadNumber_dk, ti_BadNumber_x1, ti_BadNumber_x2, ta_part_x1, ta_part_x2, tx_RulesError_1, tx_RulesError_2, d, k1]
    · rw [b] at k2
      by_cases z : n = 0
      · subst z
        simp only [sem__law_is_least, b__law_is_least, b__law_is_least_i1, b__law_is_least_i2, b__law_is_least_s1, b__law_is_least_s2, Md.v_seq, Md.v_nx, Md.v_rt, Md.v_bk, Md.v_ct, Md.v_ex, Md.v_ok, Md.v_bx, Md.v_to, Md.v_tx, Md.v_oR, Md.v_sR, Md.v_var, Md.v_k, Md.v_op2, Md.v_k2, Md.v_k3, Md.v_op1, Md.v_k1, Md.v_bR, Md.v_bool, Md.v_not, Md.v_knot, Md.v_and, Md.v_and1, Md.v_and0, Md.v_or, Md.v_or1, Md.v_or0, Md.v_nR, Md.v_notV, Md.v_aR1, Md.v_aR0, Md.v_andV, Md.v_orR1, Md.v_orR0, Md.v_orV, Md.v_if, Md.v_if1, Md.v_if0, Md.v_anil, Md.v_acons, Md.v_kac, Md.v_kad, Md.v_ob1, Md.v_ob2, Md.v_aobj, Md.v_ds0, Md.v_ds1, Md.v_ds2, Md.v_ds3, Md.v_ds4, Md.v_ds5, Md.v_ds6, Md.v_dsg, Md.v_dso, Md.v_dat0, Md.v_datc, Md.v_dco, Md.v_tup, Md.v_lst, Md.v_new, Md.v_lst', Md.v_tup', Md.v_new', Md.v_blR, Md.v_cb, Md.v_cb1, Md.v_cb2, Md.v_slR, Md.v_call, Md.v_cd1, Md.v_cd2, Md.v_ca0, Md.v_ca1, Md.v_ca2, Md.v_ca3, Md.v_ca4, Md.v_ci1, Md.v_ci2, Md.v_ciS, Md.v_ci_0, Md.v_ci_1, Md.v_ci_2, Md.v_io1, Md.v_io2, Md.v_put, Md.v_pu1, Md.v_pu2, Md.v_st1, Md.v_st2, Md.v_st3, Md.v_setE, Md.v_nxO, Md.v_set, Md.v_kset, Md.v_snew, Md.v_knew, Md.v_expr, Md.v_kex, Md.v_ret, Md.v_kret, Md.v_retN, Md.v_nil, Md.v_sif, Md.v_if_t, Md.v_if_f, Md.v_fr, Md.v_freeze, Md.v_la1, Md.v_la2, Md.v_lst_at, Md.v_ixR, Md.v_ixO, Md.v_gix, Md.v_kix, Md.v_leR, Md.v_lenO, Md.v_sput, Md.v_kpu, Md.v_gpu, Md.v_kpv, Md.v_gme, Md.v_kme, Md.v_meth, Md.v_raise, Md.v_ra1, Md.v_ra2, Md.v_par, Md.v_pa, Md.v_pa2, Md.v_tryK, Md.v_tk1, Md.v_tk2', Md.v_run, Md.v_ru1, Md.v_ru2, Md.v_ru3, Md.v_ou0, Md.v_ou1, Md.v_ou2, Md.v_it, Md.v_it1, Md.v_it2, Md.v_r1, Md.v_for, Md.v_kfo, Md.v_m1, Md.v_m1R, Md.v_m1S, Md.v_ifB, Md.v_ifB1, Md.v_ifB0, Md.v_mkD, Md.v_mkX, Md.v_make, Md.v_makeK, Md.v_mkG, Md.v_fldS, Md.v_fsR, Md.v_ins0, Md.v_fsO, Md.v_fld, Md.v_its, Md.v_lc, Md.v_lcR, Md.v_ofNew, Md.v_ofR, Md.v_chain, Md.v_ch1, Md.v_chY, Md.v_ch2t, Md.v_ch2f, Md.v_ch3, Md.v_cut, Md.v_cu1, Md.v_cu2, Md.v_cu3, Md.v_nop, Md.v_part, Md.v_ptR, Md.v_unp, Md.v_unO, Md.v_tgO, Md.v_tgs0, Md.v_tgs, Md.v_tgB, Md.v_ttt, Md.v_tname, Md.v_fg0, Md.v_fgc, Md.v_fg1, Md.v_fgn, Md.v_fgt, Md.v_fgb, Md.v_fgr, Md.v_fgx, Md.v_lc0, Md.v_lcc, Md.v_lc1, Md.v_lc2t, Md.v_lc2f, Md.v_lc3, Md.v_yes, Md.v_wi0, Md.v_wi, Md.v_re0, Md.v_re, Md.v_reS, Md.v_ow0, Md.v_ow, Md.v_oku, Md.v_okd, Md.v_lce, Md.v_lcet, Md.v_callK, Md.v_ckR, Md.v_callN, Md.v_cnd1, Md.v_cnd2, Md.v_cn0, Md.v_cn1, Md.v_cn2, Md.v_cn3, Md.v_emk0, Md.v_aug, Md.v_agS, Md.v_kag, Md.v_agO, Md.v_r2, Md.v_r2R, Md.v_r1n, Md.v_rg0, Md.v_rgs, Md.v_emk, Md.v_mkR1, Md.v_mkR2, Md.v_tkx, Md.v_tkf, Md.v_tkt, Md.v_ttl, Md.v_stf, Md.v_lk0, Md.v_lk, Md.v_lkt, Md.v_lkf, Md.v_pd0, Md.v_pd, Md.v_pdt, Md.v_pdf, Md.v_atc, Md.v_atx, Md.v_eq, Md.v_ne, Md.v_eqs, Md.v_nes, Md.v_inl, Md.v_int, Md.v_nil', Md.v_nit', Md.v_fl0, Md.v_fl1, Md.v_fl2, Md.v_fl3, Md.v_fl4, Md.v_fl5, Md.v_fa0, Md.v_fac, Md.v_q0, Md.v_q1, Md.v_q2, Md.v_q3, Md.v_q4, Md.v_q5, Md.v_q6, Md.v_q7, Md.v_qs0, Md.v_qsc, Md.v_qsn, Md.v_qns, Md.v_i0, Md.v_i1, Md.v_qa, Md.v_qb, Md.v_qc, Md.v_qd, Md.v_qe, Md.v_qf, Md.v_qg, Md.v_qh, Md.v_qi, Md.v_qj, Md.v_qk, Md.v_ql, Md.v_qm, Md.v_qn, Md.v_qo, Md.v_qp, Md.v_qq, Md.v_qr, Md.v_qs, Md.v_qt, Md.v_qu, Md.v_qv, Md.v_qw, Md.v_qx, Md.v_qy, Md.v_qz, Md.v_atI0, Md.v_atI1, Md.v_atI2, Md.v_atI3, Md.v_atI4, Md.v_atI5, Md.v_atI6, Md.v_atI7, Md.v_atI8, Md.v_atI9, Md.v_atI10, Md.v_atI11, Md.v_atI12, Md.v_ixt, Md.v_ixl, Md.v_addi, Md.v_subi, Md.v_gti, Md.v_lti, Md.v_gei, Md.v_lei, Md.v_eqi, Md.v_nei, Md.v_inti, Md.v_intb, Md.v_is, Md.v_isn, Md.v_in0, Md.v_in1, Md.v_in2, Md.v_in3, Md.v_in4, Md.v_in5, Md.v_in6, Md.v_in7, Md.v_lenl, Md.v_lent, Md.v_acat, Md.v_kca, Md.v_kcat, Md.v_lam, Md.v_cap0, Md.v_capc, Md.v_cs1, Md.v_cs2, Md.v_cs3, Md.v_cs4, Md.v_runAsk, Md.v_ask, Md.v_askO, Md.v_askR1, Md.v_askR2, Md.v_lamR1, Md.v_lamR2, Md.v_nf0, Md.v_nf1, Md.v_nf2, Md.v_nf3, Md.v_nf4, Md.v_nf5, Md.v_nfa0, Md.v_nfac, Md.v_nff0, Md.v_nffc, Md.v_apo, Md.v_api, Md.v_ca5, Md.v_ca6, Md.v_ca7, Md.v_ci_3, Md.v_ci_4, Md.v_in8, Md.v_nc0, Md.v_nc1, Md.v_nc2, Md.v_nc3, Md.v_nc4, Md.v_nc5, Md.v_nc6, Md.v_nc7, Md.v_nc8, Md.v_nc9, Md.v_nc10, Md.v_nc11, Md.v_nc12, Md.v_nc13, Md.v_nc14, Md.v_nc15, Md.v_nc16, Md.v_nc17, Md.v_nc18, Md.v_nc19, Md.v_nc20, Md.v_nc21, Md.v_nc22, Md.v_nc23, Md.v_nc24, Md.v_nc25, Md.v_nc26, Md.v_nc27, Md.v_nc28, Md.v_nc29, Md.v_nc30, Md.v_nc31, Md.v_nc32, List.cons_append, List.nil_append, List.replicate_zero, List.replicate_succ, List.getElem?_cons_zero, List.getElem?_cons_succ, List.set_cons_zero, List.set_cons_succ, List.map_nil, List.map_cons, List.append_nil, Bool.not_true, Bool.not_false, Slot.put, List.length_cons, List.length_nil, List.length_append, Nat.reduceAdd, Nat.reduceLT, Nat.reduceLeDiff, Nat.reduceSub, Int.reduceLT, Int.reduceLE, Int.reduceEq, Int.reduceBEq, Int.reduceAdd, Int.reduceSub, Int.reduceMul, Int.reduceNeg, Int.reduceToNat, String.reduceBEq, decide_true, decide_false, Bool.true_and, Bool.false_and, Bool.and_true, Bool.and_false, Bool.true_or, Bool.false_or, Bool.or_true, Bool.or_false, if_true, if_false, ite_true, ite_false, Md.ofStr_beq, Bool.false_eq_true, beq_self_eq_true, reduceIte, Nat.zero_add, reduceCtorEq, ti_int_non, ti_int_bl, ti_int_int, ti_int_str, ti_int_tup, ti_int_lst, ti_int_dk, ti_int_x1, ti_int_x2, ti_bool_non, ti_bool_bl, ti_bool_int, ti_bool_str, ti_bool_tup, ti_bool_lst, ti_bool_dk, ti_bool_x1, ti_bool_x2, ti_list_tuple_non, ti_list_tuple_bl, ti_list_tuple_int, ti_list_tuple_str, ti_list_tuple_tup, ti_list_tuple_lst, ti_list_tuple_dk, ti_list_tuple_x1, ti_list_tuple_x2, ti_BadValue_non, ti_BadValue_bl, ti_BadValue_int, ti_BadValue_str, ti_BadValue_tup, ti_BadValue_lst, ti_BadValue_dk, ti_BadValue_x1, ti_BadValue_x2, ti_BadNumber_non, ti_BadNumber_bl, ti_BadNumber_int, ti_BadNumber_str, ti_BadNumber_tup, ti_BadNumber_lst, ti_BadNumber_dk, ti_BadNumber_x1, ti_BadNumber_x2, ta_part_x1, ta_part_x2, tx_RulesError_1, tx_RulesError_2, d, k1]
      · have d2 : (n == 0) = false := by simpa using z
        simp only [sem__law_is_least, b__law_is_least, b__law_is_least_i1, b__law_is_least_i2, b__law_is_least_s1, b__law_is_least_s2, Md.v_seq, Md.v_nx, Md.v_rt, Md.v_bk, Md.v_ct, Md.v_ex, Md.v_ok, Md.v_bx, Md.v_to, Md.v_tx, Md.v_oR, Md.v_sR, Md.v_var, Md.v_k, Md.v_op2, Md.v_k2, Md.v_k3, Md.v_op1, Md.v_k1, Md.v_bR, Md.v_bool, Md.v_not, Md.v_knot, Md.v_and, Md.v_and1, Md.v_and0, Md.v_or, Md.v_or1, Md.v_or0, Md.v_nR, Md.v_notV, Md.v_aR1, Md.v_aR0, Md.v_andV, Md.v_orR1, Md.v_orR0, Md.v_orV, Md.v_if, Md.v_if1, Md.v_if0, Md.v_anil, Md.v_acons, Md.v_kac, Md.v_kad, Md.v_ob1, Md.v_ob2, Md.v_aobj, Md.v_ds0, Md.v_ds1, Md.v_ds2, Md.v_ds3, Md.v_ds4, Md.v_ds5, Md.v_ds6, Md.v_dsg, Md.v_dso, Md.v_dat0, Md.v_datc, Md.v_dco, Md.v_tup, Md.v_lst, Md.v_new, Md.v_lst', Md.v_tup', Md.v_new', Md.v_blR, Md.v_cb, Md.v_cb1, Md.v_cb2, Md.v_slR, Md.v_call, Md.v_cd1, Md.v_cd2, Md.v_ca0, Md.v_ca1, Md.v_ca2, Md.v_ca3, Md.v_ca4, Md.v_ci1, Md.v_ci2, Md.v_ciS, Md.v_ci_0, Md.v_ci_1, Md.v_ci_2, Md.v_io1, Md.v_io2, Md.v_put, Md.v_pu1, Md.v_pu2, Md.v_st1, Md.v_st2, Md.v_st3, Md.v_setE, Md.v_nxO, Md.v_set, Md.v_kset, Md.v_snew, Md.v_knew, Md.v_expr, Md.v_kex, Md.v_ret, Md.v_kret, Md.v_retN, Md.v_nil, Md.v_sif, Md.v_if_t, Md.v_if_f, Md.v_fr, Md.v_freeze, Md.v_la1, Md.v_la2, Md.v_lst_at, Md.v_ixR, Md.v_ixO, Md.v_gix, Md.v_kix, Md.v_leR, Md.v_lenO, Md.v_sput, Md.v_kpu, Md.v_gpu, Md.v_kpv, Md.v_gme, Md.v_kme, Md.v_meth, Md.v_raise, Md.v_ra1, Md.v_ra2, Md.v_par, Md.v_pa, Md.v_pa2, Md.v_tryK, Md.v_tk1, Md.v_tk2', Md.v_run, Md.v_ru1, Md.v_ru2, Md.v_ru3, Md.v_ou0, Md.v_ou1, Md.v_ou2, Md.v_it, Md.v_it1, Md.v_it2, Md.v_r1, Md.v_for, Md.v_kfo, Md.v_m1, Md.v_m1R, Md.v_m1S, Md.v_ifB, Md.v_ifB1, Md.v_ifB0, Md.v_mkD, Md.v_mkX, Md.v_make, Md.v_makeK, Md.v_mkG, Md.v_fldS, Md.v_fsR, Md.v_ins0, Md.v_fsO, Md.v_fld, Md.v_its, Md.v_lc, Md.v_lcR, Md.v_ofNew, Md.v_ofR, Md.v_chain, Md.v_ch1, Md.v_chY, Md.v_ch2t, Md.v_ch2f, Md.v_ch3, Md.v_cut, Md.v_cu1, Md.v_cu2, Md.v_cu3, Md.v_nop, Md.v_part, Md.v_ptR, Md.v_unp, Md.v_unO, Md.v_tgO, Md.v_tgs0, Md.v_tgs, Md.v_tgB, Md.v_ttt, Md.v_tname, Md.v_fg0, Md.v_fgc, Md.v_fg1, Md.v_fgn, Md.v_fgt, Md.v_fgb, Md.v_fgr, Md.v_fgx, Md.v_lc0, Md.v_lcc, Md.v_lc1, Md.v_lc2t, Md.v_lc2f, Md.v_lc3, Md.v_yes, Md.v_wi0, Md.v_wi, Md.v_re0, Md.v_re, Md.v_reS, Md.v_ow0, Md.v_ow, Md.v_oku, Md.v_okd, Md.v_lce, Md.v_lcet, Md.v_callK, Md.v_ckR, Md.v_callN, Md.v_cnd1, Md.v_cnd2, Md.v_cn0, Md.v_cn1, Md.v_cn2, Md.v_cn3, Md.v_emk0, Md.v_aug, Md.v_agS, Md.v_kag, Md.v_agO, Md.v_r2, Md.v_r2R, Md.v_r1n, Md.v_rg0, Md.v_rgs, Md.v_emk, Md.v_mkR1, Md.v_mkR2, Md.v_tkx, Md.v_tkf, Md.v_tkt, Md.v_ttl, Md.v_stf, Md.v_lk0, Md.v_lk, Md.v_lkt, Md.v_lkf, Md.v_pd0, Md.v_pd, Md.v_pdt, Md.v_pdf, Md.v_atc, Md.v_atx, Md.v_eq, Md.v_ne, Md.v_eqs, Md.v_nes, Md.v_inl, Md.v_int, Md.v_nil', Md.v_nit', Md.v_fl0, Md.v_fl1, Md.v_fl2, Md.v_fl3, Md.v_fl4, Md.v_fl5, Md.v_fa0, Md.v_fac, Md.v_q0, Md.v_q1, Md.v_q2, Md.v_q3, Md.v_q4, Md.v_q5, Md.v_q6, Md.v_q7, Md.v_qs0, Md.v_qsc, Md.v_qsn, Md.v_qns, Md.v_i0, Md.v_i1, Md.v_qa, Md.v_qb, Md.v_qc, Md.v_qd, Md.v_qe, Md.v_qf, Md.v_qg, Md.v_qh, Md.v_qi, Md.v_qj, Md.v_qk, Md.v_ql, Md.v_qm, Md.v_qn, Md.v_qo, Md.v_qp, Md.v_qq, Md.v_qr, Md.v_qs, Md.v_qt, Md.v_qu, Md.v_qv, Md.v_qw, Md.v_qx, Md.v_qy, Md.v_qz, Md.v_atI0, Md.v_atI1, Md.v_atI2, Md.v_atI3, Md.v_atI4, Md.v_atI5, Md.v_atI6, Md.v_atI7, Md.v_atI8, Md.v_atI9, Md.v_atI10, Md.v_atI11, Md.v_atI12, Md.v_ixt, Md.v_ixl, Md.v_addi, Md.v_subi, Md.v_gti, Md.v_lti, Md.v_gei, Md.v_lei, Md.v_eqi, Md.v_nei, Md.v_inti, Md.v_intb, Md.v_is, Md.v_isn, Md.v_in0, Md.v_in1, Md.v_in2, Md.v_in3, Md.v_in4, Md.v_in5, Md.v_in6, Md.v_in7, Md.v_lenl, Md.v_lent, Md.v_acat, Md.v_kca, Md.v_kcat, Md.v_lam, Md.v_cap0, Md.v_capc, Md.v_cs1, Md.v_cs2, Md.v_cs3, Md.v_cs4, Md.v_runAsk, Md.v_ask, Md.v_askO, Md.v_askR1, Md.v_askR2, Md.v_lamR1, Md.v_lamR2, Md.v_nf0, Md.v_nf1, Md.v_nf2, Md.v_nf3, Md.v_nf4, Md.v_nf5, Md.v_nfa0, Md.v_nfac, Md.v_nff0, Md.v_nffc, Md.v_apo, Md.v_api, Md.v_ca5, Md.v_ca6, Md.v_ca7, Md.v_ci_3, Md.v_ci_4, Md.v_in8, Md.v_nc0, Md.v_nc1, Md.v_nc2, Md.v_nc3, Md.v_nc4, Md.v_nc5, Md.v_nc6, Md.v_nc7, Md.v_nc8, Md.v_nc9, Md.v_nc10, Md.v_nc11, Md.v_nc12, Md.v_nc13, Md.v_nc14, Md.v_nc15, Md.v_nc16, Md.v_nc17, Md.v_nc18, Md.v_nc19, Md.v_nc20, Md.v_nc21, Md.v_nc22, Md.v_nc23, Md.v_nc24, Md.v_nc25, Md.v_nc26, Md.v_nc27, Md.v_nc28, Md.v_nc29, Md.v_nc30, Md.v_nc31, Md.v_nc32, List.cons_append, List.nil_append, List.replicate_zero, List.replicate_succ, List.getElem?_cons_zero, List.getElem?_cons_succ, List.set_cons_zero, List.set_cons_succ, List.map_nil, List.map_cons, List.append_nil, Bool.not_true, Bool.not_false, Slot.put, List.length_cons, List.length_nil, List.length_append, Nat.reduceAdd, Nat.reduceLT, Nat.reduceLeDiff, Nat.reduceSub, Int.reduceLT, Int.reduceLE, Int.reduceEq, Int.reduceBEq, Int.reduceAdd, Int.reduceSub, Int.reduceMul, Int.reduceNeg, Int.reduceToNat, String.reduceBEq, decide_true, decide_false, Bool.true_and, Bool.false_and, Bool.and_true, Bool.and_false, Bool.true_or, Bool.false_or, Bool.or_true, Bool.or_false, if_true, if_false, ite_true, ite_false, Md.ofStr_beq, Bool.false_eq_true, beq_self_eq_true, reduceIte, Nat.zero_add, reduceCtorEq, ti_int_non, ti_int_bl, ti_int_int, ti_int_str, ti_int_tup, ti_int_lst, ti_int_dk, ti_int_x1, ti_int_x2, ti_bool_non, ti_bool_bl, ti_bool_int, ti_bool_str, ti_bool_tup, ti_bool_lst, ti_bool_dk, ti_bool_x1, ti_bool_x2, ti_list_tuple_non, ti_list_tuple_bl, ti_list_tuple_int, ti_list_tuple_str, ti_list_tuple_tup, ti_list_tuple_lst, ti_list_tuple_dk, ti_list_tuple_x1, ti_list_tuple_x2, ti_BadValue_non, ti_BadValue_bl, ti_BadValue_int, ti_BadValue_str, ti_BadValue_tup, ti_BadValue_lst, ti_BadValue_dk, ti_BadValue_x1, ti_BadValue_x2, ti_BadNumber_non, ti_BadNumber_bl, ti_BadNumber_int, ti_BadNumber_str, ti_BadNumber_tup, ti_BadNumber_lst, ti_BadNumber_dk, ti_BadNumber_x1, ti_BadNumber_x2, ta_part_x1, ta_part_x2, tx_RulesError_1, tx_RulesError_2, d, d2, k1, k2]
theorem rep_lm (p q t : Int) (m : Bool) (bp : Bt 300 p) (bq : Bt 300 q) (bt : Bt 500 t) (h0 : 0 ≤ p) (h1 : p ≤ q) (h2 : 1 ≤ q) (h3 : m = true → p < q) (ht : 0 ≤ t) : ∃ s, bRepr [LM p q m t] = some (.str s) := by
  rcases lm_least p q t m h0 h1 h2 h3 ht with ⟨e, e2, e3⟩ | ⟨n, e, n0, n1, a, b⟩
  · rw [e]; exact ⟨_, rep_non⟩
  · rw [e]
    have bn : Bt 900 n := bt_lt (bt_mono (bt_add (bt_mul bp bt) (bt_sm (n := 800) (by decide) (by decide))) (by decide)) n0 n1
    exact rep_int (bt_mono bn (by decide))
end Lw

namespace Lw
open PySem PySem.Spec PyProof.Rows L2 Md
theorem rf_v (x : String) (e : En) : sem__law_refused (.ex 1 [("part", .str (Str.ofString x))] e) = .ok (.tup [.str "value", .str (Str.ofString x)]) [.dat .fn] := by
  simp only [sem__law_refused, b__law_refused, b__law_refused_t1, b__law_refused_i1, b__law_refused_s1, b__law_refused_s2, b__law_refused_s3, Md.v_seq, Md.v_nx, Md.v_rt, Md.v_bk, Md.v_ct, Md.v_ex, Md.v_ok, Md.v_bx, Md.v_to, Md.v_tx, Md.v_oR, Md.v_sR, Md.v_var, Md.v_k, Md.v_op2, Md.v_k2, Md.v_k3, Md.v_op1, Md.v_k1, Md.v_bR, Md.v_bool, Md.v_not, Md.v_knot, Md.v_and, Md.v_and1, Md.v_and0, Md.v_or, Md.v_or1, Md.v_or0, Md.v_nR, Md.v_notV, Md.v_aR1, Md.v_aR0, Md.v_andV, Md.v_orR1, Md.v_orR0, Md.v_orV, Md.v_if, Md.v_if1, Md.v_if0, Md.v_anil, Md.v_acons, Md.v_kac, Md.v_kad, Md.v_ob1, Md.v_ob2, Md.v_aobj, Md.v_ds0, Md.v_ds1, Md.v_ds2, Md.v_ds3, Md.v_ds4, Md.v_ds5, Md.v_ds6, Md.v_dsg, Md.v_dso, Md.v_dat0, Md.v_datc, Md.v_dco, Md.v_tup, Md.v_lst, Md.v_new, Md.v_lst', Md.v_tup', Md.v_new', Md.v_blR, Md.v_cb, Md.v_cb1, Md.v_cb2, Md.v_slR, Md.v_call, Md.v_cd1, Md.v_cd2, Md.v_ca0, Md.v_ca1, Md.v_ca2, Md.v_ca3, Md.v_ca4, Md.v_ci1, Md.v_ci2, Md.v_ciS, Md.v_ci_0, Md.v_ci_1, Md.v_ci_2, Md.v_io1, Md.v_io2, Md.v_put, Md.v_pu1, Md.v_pu2, Md.v_st1, Md.v_st2, Md.v_st3, Md.v_setE, Md.v_nxO, Md.v_set, Md.v_kset, Md.v_snew, Md.v_knew, Md.v_expr, Md.v_kex, Md.v_ret, Md.v_kret, Md.v_retN, Md.v_nil, Md.v_sif, Md.v_if_t, Md.v_if_f, Md.v_fr, Md.v_freeze, Md.v_la1, Md.v_la2, Md.v_lst_at, Md.v_ixR, Md.v_ixO, Md.v_gix, Md.v_kix, Md.v_leR, Md.v_lenO, Md.v_sput, Md.v_kpu, Md.v_gpu, Md.v_kpv, Md.v_gme, Md.v_kme, Md.v_meth, Md.v_raise, Md.v_ra1, Md.v_ra2, Md.v_par, Md.v_pa, Md.v_pa2, Md.v_tryK, Md.v_tk1, Md.v_tk2', Md.v_run, Md.v_ru1, Md.v_ru2, Md.v_ru3, Md.v_ou0, Md.v_ou1, Md.v_ou2, Md.v_it, Md.v_it1, Md.v_it2, Md.v_r1, Md.v_for, Md.v_kfo, Md.v_m1, Md.v_m1R, Md.v_m1S, Md.v_ifB, Md.v_ifB1, Md.v_ifB0, Md.v_mkD, Md.v_mkX, Md.v_make, Md.v_makeK, Md.v_mkG, Md.v_fldS, Md.v_fsR, Md.v_ins0, Md.v_fsO, Md.v_fld, Md.v_its, Md.v_lc, Md.v_lcR, Md.v_ofNew, Md.v_ofR, Md.v_chain, Md.v_ch1, Md.v_chY, Md.v_ch2t, Md.v_ch2f, Md.v_ch3, Md.v_cut, Md.v_cu1, Md.v_cu2, Md.v_cu3, Md.v_nop, Md.v_part, Md.v_ptR, Md.v_unp, Md.v_unO, Md.v_tgO, Md.v_tgs0, Md.v_tgs, Md.v_tgB, Md.v_ttt, Md.v_tname, Md.v_fg0, Md.v_fgc, Md.v_fg1, Md.v_fgn, Md.v_fgt, Md.v_fgb, Md.v_fgr, Md.v_fgx, Md.v_lc0, Md.v_lcc, Md.v_lc1, Md.v_lc2t, Md.v_lc2f, Md.v_lc3, Md.v_yes, Md.v_wi0, Md.v_wi, Md.v_re0, Md.v_re, Md.v_reS, Md.v_ow0, Md.v_ow, Md.v_oku, Md.v_okd, Md.v_lce, Md.v_lcet, Md.v_callK, Md.v_ckR, Md.v_callN, Md.v_cnd1, Md.v_cnd2, Md.v_cn0, Md.v_cn1, Md.v_cn2, Md.v_cn3, Md.v_emk0, Md.v_aug, Md.v_agS, Md.v_kag, Md.v_agO, Md.v_r2, Md.v_r2R, Md.v_r1n, Md.v_rg0, Md.v_rgs, Md.v_emk, Md.v_mkR1, Md.v_mkR2, Md.v_tkx, Md.v_tkf, Md.v_tkt, Md.v_ttl, Md.v_stf, Md.v_lk0, Md.v_lk, Md.v_lkt, Md.v_lkf, Md.v_pd0, Md.v_pd, Md.v_pdt, Md.v_pdf, Md.v_atc, Md.v_atx, Md.v_eq, Md.v_ne, Md.v_eqs, Md.v_nes, Md.v_inl, Md.v_int, Md.v_nil', Md.v_nit', Md.v_fl0, Md.v_fl1, Md.v_fl2, Md.v_fl3, Md.v_fl4, Md.v_fl5, Md.v_fa0, Md.v_fac, Md.v_q0, Md.v_q1, Md.v_q2, Md.v_q3, Md.v_q4, Md.v_q5, Md.v_q6, Md.v_q7, Md.v_qs0, Md.v_qsc, Md.v_qsn, Md.v_qns, Md.v_i0, Md.v_i1, Md.v_qa, Md.v_qb, Md.v_qc, Md.v_qd, Md.v_qe, Md.v_qf, Md.v_qg, Md.v_qh, Md.v_qi, Md.v_qj, Md.v_qk, Md.v_ql, Md.v_qm, Md.v_qn, Md.v_qo, Md.v_qp, Md.v_qq, Md.v_qr, Md.v_qs, Md.v_qt, Md.v_qu, Md.v_qv, Md.v_qw, Md.v_qx, Md.v_qy, Md.v_qz, Md.v_atI0, Md.v_atI1, Md.v_atI2, Md.v_atI3, Md.v_atI4, Md.v_atI5, Md.v_atI6, Md.v_atI7, Md.v_atI8, Md.v_atI9, Md.v_atI10, Md.v_atI11, Md.v_atI12, Md.v_ixt, Md.v_ixl, Md.v_addi, Md.v_subi, Md.v_gti, Md.v_lti, Md.v_gei, Md.v_lei, Md.v_eqi, Md.v_nei, Md.v_inti, Md.v_intb, Md.v_is, Md.v_isn, Md.v_in0, Md.v_in1, Md.v_in2, Md.v_in3, Md.v_in4, Md.v_in5, Md.v_in6, Md.v_in7, Md.v_lenl, Md.v_lent, Md.v_acat, Md.v_kca, Md.v_kcat, Md.v_lam, Md.v_cap0, Md.v_capc, Md.v_cs1, Md.v_cs2, Md.v_cs3, Md.v_cs4, Md.v_runAsk, Md.v_ask, Md.v_askO, Md.v_askR1, Md.v_askR2, Md.v_lamR1, Md.v_lamR2, Md.v_nf0, Md.v_nf1, Md.v_nf2, Md.v_nf3, Md.v_nf4, Md.v_nf5, Md.v_nfa0, Md.v_nfac, Md.v_nff0, Md.v_nffc, Md.v_apo, Md.v_api, Md.v_ca5, Md.v_ca6, Md.v_ca7, Md.v_ci_3, Md.v_ci_4, Md.v_in8, Md.v_nc0, Md.v_nc1, Md.v_nc2, Md.v_nc3, Md.v_nc4, Md.v_nc5, Md.v_nc6, Md.v_nc7, Md.v_nc8, Md.v_nc9, Md.v_nc10, Md.v_nc11, Md.v_nc12, Md.v_nc13, Md.v_nc14, Md.v_nc15, Md.v_nc16, Md.v_nc17, Md.v_nc18, Md.v_nc19, Md.v_nc20, Md.v_nc21, Md.v_nc22, Md.v_nc23, Md.v_nc24, Md.v_nc25, Md.v_nc26, Md.v_nc27, Md.v_nc28, Md.v_nc29, Md.v_nc30, Md.v_nc31, Md.v_nc32, List.cons_append, List.nil_append, List.replicate_zero, List.replicate_succ, List.getElem?_cons_zero, List.getElem?_cons_succ, List.set_cons_zero, List.set_cons_succ, List.map_nil, List.map_cons, List.append_nil, Bool.not_true, Bool.not_false, Slot.put, List.length_cons, List.length_nil, List.length_append, Nat.reduceAdd, Nat.reduceLT, Nat.reduceLeDiff, Nat.reduceSub, Int.reduceLT, Int.reduceLE, Int.reduceEq, Int.reduceBEq, Int.reduceAdd, Int.reduceSub, Int.reduceMul, Int.reduceNeg, Int.reduceToNat, String.reduceBEq, decide_true, decide_false, Bool.true_and, Bool.false_and, Bool.and_true, Bool.and_false, Bool.true_or, Bool.false_or, Bool.or_true, Bool.or_false, if_true, if_false, ite_true, ite_false, Md.ofStr_beq, Bool.false_eq_true, beq_self_eq_true, reduceIte, Nat.zero_add, reduceCtorEq, ti_int_non, ti_int_bl, ti_int_int, ti_int_str, ti_int_tup, ti_int_lst, ti_int_dk, ti_int_x1, ti_int_x2, ti_bool_non, ti_bool_bl, ti_bool_int, ti_bool_str, ti_bool_tup, ti_bool_lst, ti_bool_dk, ti_bool_x1, ti_bool_x2, ti_list_tuple_non, ti_list_tuple_bl, ti_list_tuple_int, ti_list_tuple_str, ti_list_tuple_tup, ti_list_tuple_lst, ti_list_tuple_dk, ti_list_tuple_x1, ti_list_tuple_x2, ti_BadValue_non, ti_BadValue_bl, ti_BadValue_int, ti_BadValue_str, ti_BadValue_tup, ti_BadValue_lst, ti_BadValue_dk, ti_BadValue_x1, ti_BadValue_x2, ti_BadNumber_non, ti_BadNumber_bl, ti_BadNumber_int, ti_BadNumber_str, ti_BadNumber_tup, ti_BadNumber_lst, ti_BadNumber_dk, ti_BadNumber_x1, ti_BadNumber_x2, ta_part_x1, ta_part_x2, tx_RulesError_1, tx_RulesError_2]
theorem rf_n (x : String) (e : En) : sem__law_refused (.ex 2 [("part", .str (Str.ofString x))] e) = .ok (.tup [.str "number", .str (Str.ofString x)]) [.dat .fn] := by
  simp only [sem__law_refused, b__law_refused, b__law_refused_t1, b__law_refused_i1, b__law_refused_s1, b__law_refused_s2, b__law_refused_s3, Md.v_seq, Md.v_nx, Md.v_rt, Md.v_bk, Md.v_ct, Md.v_ex, Md.v_ok, Md.v_bx, Md.v_to, Md.v_tx, Md.v_oR, Md.v_sR, Md.v_var, Md.v_k, Md.v_op2, Md.v_k2, Md.v_k3, Md.v_op1, Md.v_k1, Md.v_bR, Md.v_bool, Md.v_not, Md.v_knot, Md.v_and, Md.v_and1, Md.v_and0, Md.v_or, Md.v_or1, Md.v_or0, Md.v_nR, Md.v_notV, Md.v_aR1, Md.v_aR0, Md.v_andV, Md.v_orR1, Md.v_orR0, Md.v_orV, Md.v_if, Md.v_if1, Md.v_if0, Md.v_anil, Md.v_acons, Md.v_kac, Md.v_kad, Md.v_ob1, Md.v_ob2, Md.v_aobj, Md.v_ds0, Md.v_ds1, Md.v_ds2, Md.v_ds3, Md.v_ds4, Md.v_ds5, Md.v_ds6, Md.v_dsg, Md.v_dso, Md.v_dat0, Md.v_datc, Md.v_dco, Md.v_tup, Md.v_lst, Md.v_new, Md.v_lst', Md.v_tup', Md.v_new', Md.v_blR, Md.v_cb, Md.v_cb1, Md.v_cb2, Md.v_slR, Md.v_call, Md.v_cd1, Md.v_cd2, Md.v_ca0, Md.v_ca1, Md.v_ca2, Md.v_ca3, Md.v_ca4, Md.v_ci1, Md.v_ci2, Md.v_ciS, Md.v_ci_0, Md.v_ci_1, Md.v_ci_2, Md.v_io1, Md.v_io2, Md.v_put, Md.v_pu1, Md.v_pu2, Md.v_st1, Md.v_st2, Md.v_st3, Md.v_setE, Md.v_nxO, Md.v_set, Md.v_kset, Md.v_snew, Md.v_knew, Md.v_expr, Md.v_kex, Md.v_ret, Md.v_kret, Md.v_retN, Md.v_nil, Md.v_sif, Md.v_if_t, Md.v_if_f, Md.v_fr, Md.v_freeze, Md.v_la1, Md.v_la2, Md.v_lst_at, Md.v_ixR, Md.v_ixO, Md.v_gix, Md.v_kix, Md.v_leR, Md.v_lenO, Md.v_sput, Md.v_kpu, Md.v_gpu, Md.v_kpv, Md.v_gme, Md.v_kme, Md.v_meth, Md.v_raise, Md.v_ra1, Md.v_ra2, Md.v_par, Md.v_pa, Md.v_pa2, Md.v_tryK, Md.v_tk1, Md.v_tk2', Md.v_run, Md.v_ru1, Md.v_ru2, Md.v_ru3, Md.v_ou0, Md.v_ou1, Md.v_ou2, Md.v_it, Md.v_it1, Md.v_it2, Md.v_r1, Md.v_for, Md.v_kfo, Md.v_m1, Md.v_m1R, Md.v_m1S, Md.v_ifB, Md.v_ifB1, Md.v_ifB0, Md.v_mkD, Md.v_mkX, Md.v_make, Md.v_makeK, Md.v_mkG, Md.v_fldS, Md.v_fsR, Md.v_ins0, Md.v_fsO, Md.v_fld, Md.v_its, Md.v_lc, Md.v_lcR, Md.v_ofNew, Md.v_ofR, Md.v_chain, Md.v_ch1, Md.v_chY, Md.v_ch2t, Md.v_ch2f, Md.v_ch3, Md.v_cut, Md.v_cu1, Md.v_cu2, Md.v_cu3, Md.v_nop, Md.v_part, Md.v_ptR, Md.v_unp, Md.v_unO, Md.v_tgO, Md.v_tgs0, Md.v_tgs, Md.v_tgB, Md.v_ttt, Md.v_tname, Md.v_fg0, Md.v_fgc, Md.v_fg1, Md.v_fgn, Md.v_fgt, Md.v_fgb, Md.v_fgr, Md.v_fgx, Md.v_lc0, Md.v_lcc, Md.v_lc1, Md.v_lc2t, Md.v_lc2f, Md.v_lc3, Md.v_yes, Md.v_wi0, Md.v_wi, Md.v_re0, Md.v_re, Md.v_reS, Md.v_ow0, Md.v_ow, Md.v_oku, Md.v_okd, Md.v_lce, Md.v_lcet, Md.v_callK, Md.v_ckR, Md.v_callN, Md.v_cnd1, Md.v_cnd2, Md.v_cn0, Md.v_cn1, Md.v_cn2, Md.v_cn3, Md.v_emk0, Md.v_aug, Md.v_agS, Md.v_kag, Md.v_agO, Md.v_r2, Md.v_r2R, Md.v_r1n, Md.v_rg0, Md.v_rgs, Md.v_emk, Md.v_mkR1, Md.v_mkR2, Md.v_tkx, Md.v_tkf, Md.v_tkt, Md.v_ttl, Md.v_stf, Md.v_lk0, Md.v_lk, Md.v_lkt, Md.v_lkf, Md.v_pd0, Md.v_pd, Md.v_pdt, Md.v_pdf, Md.v_atc, Md.v_atx, Md.v_eq, Md.v_ne, Md.v_eqs, Md.v_nes, Md.v_inl, Md.v_int, Md.v_nil', Md.v_nit', Md.v_fl0, Md.v_fl1, Md.v_fl2, Md.v_fl3, Md.v_fl4, Md.v_fl5, Md.v_fa0, Md.v_fac, Md.v_q0, Md.v_q1, Md.v_q2, Md.v_q3, Md.v_q4, Md.v_q5, Md.v_q6, Md.v_q7, Md.v_qs0, Md.v_qsc, Md.v_qsn, Md.v_qns, Md.v_i0, Md.v_i1, Md.v_qa, Md.v_qb, Md.v_qc, Md.v_qd, Md.v_qe, Md.v_qf, Md.v_qg, Md.v_qh, Md.v_qi, Md.v_qj, Md.v_qk, Md.v_ql, Md.v_qm, Md.v_qn, Md.v_qo, Md.v_qp, Md.v_qq, Md.v_qr, Md.v_qs, Md.v_qt, Md.v_qu, Md.v_qv, Md.v_qw, Md.v_qx, Md.v_qy, Md.v_qz, Md.v_atI0, Md.v_atI1, Md.v_atI2, Md.v_atI3, Md.v_atI4, Md.v_atI5, Md.v_atI6, Md.v_atI7, Md.v_atI8, Md.v_atI9, Md.v_atI10, Md.v_atI11, Md.v_atI12, Md.v_ixt, Md.v_ixl, Md.v_addi, Md.v_subi, Md.v_gti, Md.v_lti, Md.v_gei, Md.v_lei, Md.v_eqi, Md.v_nei, Md.v_inti, Md.v_intb, Md.v_is, Md.v_isn, Md.v_in0, Md.v_in1, Md.v_in2, Md.v_in3, Md.v_in4, Md.v_in5, Md.v_in6, Md.v_in7, Md.v_lenl, Md.v_lent, Md.v_acat, Md.v_kca, Md.v_kcat, Md.v_lam, Md.v_cap0, Md.v_capc, Md.v_cs1, Md.v_cs2, Md.v_cs3, Md.v_cs4, Md.v_runAsk, Md.v_ask, Md.v_askO, Md.v_askR1, Md.v_askR2, Md.v_lamR1, Md.v_lamR2, Md.v_nf0, Md.v_nf1, Md.v_nf2, Md.v_nf3, Md.v_nf4, Md.v_nf5, Md.v_nfa0, Md.v_nfac, Md.v_nff0, Md.v_nffc, Md.v_apo, Md.v_api, Md.v_ca5, Md.v_ca6, Md.v_ca7, Md.v_ci_3, Md.v_ci_4, Md.v_in8, Md.v_nc0, Md.v_nc1, Md.v_nc2, Md.v_nc3, Md.v_nc4, Md.v_nc5, Md.v_nc6, Md.v_nc7, Md.v_nc8, Md.v_nc9, Md.v_nc10, Md.v_nc11, Md.v_nc12, Md.v_nc13, Md.v_nc14, Md.v_nc15, Md.v_nc16, Md.v_nc17, Md.v_nc18, Md.v_nc19, Md.v_nc20, Md.v_nc21, Md.v_nc22, Md.v_nc23, Md.v_nc24, Md.v_nc25, Md.v_nc26, Md.v_nc27, Md.v_nc28, Md.v_nc29, Md.v_nc30, Md.v_nc31, Md.v_nc32, List.cons_append, List.nil_append, List.replicate_zero, List.replicate_succ, List.getElem?_cons_zero, List.getElem?_cons_succ, List.set_cons_zero, List.set_cons_succ, List.map_nil, List.map_cons, List.append_nil, Bool.not_true, Bool.not_false, Slot.put, List.length_cons, List.length_nil, List.length_append, Nat.reduceAdd, Nat.reduceLT, Nat.reduceLeDiff, Nat.reduceSub, Int.reduceLT, Int.reduceLE, Int.reduceEq, Int.reduceBEq, Int.reduceAdd, Int.reduceSub, Int.reduceMul, Int.reduceNeg, Int.reduceToNat, String.reduceBEq, decide_true, decide_false, Bool.true_and, Bool.false_and, Bool.and_true, Bool.and_false, Bool.true_or, Bool.false_or, Bool.or_true, Bool.or_false, if_true, if_false, ite_true, ite_false, Md.ofStr_beq, Bool.false_eq_true, beq_self_eq_true, reduceIte, Nat.zero_add, reduceCtorEq, ti_int_non, ti_int_bl, ti_int_int, ti_int_str, ti_int_tup, ti_int_lst, ti_int_dk, ti_int_x1, ti_int_x2, ti_bool_non, ti_bool_bl, ti_bool_int, ti_bool_str, ti_bool_tup, ti_bool_lst, ti_bool_dk, ti_bool_x1, ti_bool_x2, ti_list_tuple_non, ti_list_tuple_bl, ti_list_tuple_int, ti_list_tuple_str, ti_list_tuple_tup, ti_list_tuple_lst, ti_list_tuple_dk, ti_list_tuple_x1, ti_list_tuple_x2, ti_BadValue_non, ti_BadValue_bl, ti_BadValue_int, ti_BadValue_str, ti_BadValue_tup, ti_BadValue_lst, ti_BadValue_dk, ti_BadValue_x1, ti_BadValue_x2, ti_BadNumber_non, ti_BadNumber_bl, ti_BadNumber_int, ti_BadNumber_str, ti_BadNumber_tup, ti_BadNumber_lst, ti_BadNumber_dk, ti_BadNumber_x1, ti_BadNumber_x2, ta_part_x1, ta_part_x2, tx_RulesError_1, tx_RulesError_2]
def Bad (d : D) : Prop := sem_is_share [.dat d] = .ok (.bl false) [.dat d]
theorem bad_for {d t : D} (h : Bad d) : sem_members_for [.dat d, .dat t] = .ex 1 [("part", .str (Str.ofString "share"))] [.dat d, .dat t] := by
  unfold Bad at h
  simp only [sem_members_for, b_members_for, b_members_for_i1, b_members_for_s1, b_members_for_s2, Md.v_seq, Md.v_nx, Md.v_rt, Md.v_bk, Md.v_ct, Md.v_ex, Md.v_ok, Md.v_bx, Md.v_to, Md.v_tx, Md.v_oR, Md.v_sR, Md.v_var, Md.v_k, Md.v_op2, Md.v_k2, Md.v_k3, Md.v_op1, Md.v_k1, Md.v_bR, Md.v_bool, Md.v_not, Md.v_knot, Md.v_and, Md.v_and1, Md.v_and0, Md.v_or, Md.v_or1, Md.v_or0, Md.v_nR, Md.v_notV, Md.v_aR1, Md.v_aR0, Md.v_andV, Md.v_orR1, Md.v_orR0, Md.v_orV, Md.v_if, Md.v_if1, Md.v_if0, Md.v_anil, Md.v_acons, Md.v_kac, Md.v_kad, Md.v_ob1, Md.v_ob2, Md.v_aobj, Md.v_ds0, Md.v_ds1, Md.v_ds2, Md.v_ds3, Md.v_ds4, Md.v_ds5, Md.v_ds6, Md.v_dsg, Md.v_dso, Md.v_dat0, Md.v_datc, Md.v_dco, Md.v_tup, Md.v_lst, Md.v_new, Md.v_lst', Md.v_tup', Md.v_new', Md.v_blR, Md.v_cb, Md.v_cb1, Md.v_cb2, Md.v_slR, Md.v_call, Md.v_cd1, Md.v_cd2, Md.v_ca0, Md.v_ca1, Md.v_ca2, Md.v_ca3, Md.v_ca4, Md.v_ci1, Md.v_ci2, Md.v_ciS, Md.v_ci_0, Md.v_ci_1, Md.v_ci_2, Md.v_io1, Md.v_io2, Md.v_put, Md.v_pu1, Md.v_pu2, Md.v_st1, Md.v_st2, Md.v_st3, Md.v_setE, Md.v_nxO, Md.v_set, Md.v_kset, Md.v_snew, Md.v_knew, Md.v_expr, Md.v_kex, Md.v_ret, Md.v_kret, Md.v_retN, Md.v_nil, Md.v_sif, Md.v_if_t, Md.v_if_f, Md.v_fr, Md.v_freeze, Md.v_la1, Md.v_la2, Md.v_lst_at, Md.v_ixR, Md.v_ixO, Md.v_gix, Md.v_kix, Md.v_leR, Md.v_lenO, Md.v_sput, Md.v_kpu, Md.v_gpu, Md.v_kpv, Md.v_gme, Md.v_kme, Md.v_meth, Md.v_raise, Md.v_ra1, Md.v_ra2, Md.v_par, Md.v_pa, Md.v_pa2, Md.v_tryK, Md.v_tk1, Md.v_tk2', Md.v_run, Md.v_ru1, Md.v_ru2, Md.v_ru3, Md.v_ou0, Md.v_ou1, Md.v_ou2, Md.v_it, Md.v_it1, Md.v_it2, Md.v_r1, Md.v_for, Md.v_kfo, Md.v_m1, Md.v_m1R, Md.v_m1S, Md.v_ifB, Md.v_ifB1, Md.v_ifB0, Md.v_mkD, Md.v_mkX, Md.v_make, Md.v_makeK, Md.v_mkG, Md.v_fldS, Md.v_fsR, Md.v_ins0, Md.v_fsO, Md.v_fld, Md.v_its, Md.v_lc, Md.v_lcR, Md.v_ofNew, Md.v_ofR, Md.v_chain, Md.v_ch1, Md.v_chY, Md.v_ch2t, Md.v_ch2f, Md.v_ch3, Md.v_cut, Md.v_cu1, Md.v_cu2, Md.v_cu3, Md.v_nop, Md.v_part, Md.v_ptR, Md.v_unp, Md.v_unO, Md.v_tgO, Md.v_tgs0, Md.v_tgs, Md.v_tgB, Md.v_ttt, Md.v_tname, Md.v_fg0, Md.v_fgc, Md.v_fg1, Md.v_fgn, Md.v_fgt, Md.v_fgb, Md.v_fgr, Md.v_fgx, Md.v_lc0, Md.v_lcc, Md.v_lc1, Md.v_lc2t, Md.v_lc2f, Md.v_lc3, Md.v_yes, Md.v_wi0, Md.v_wi, Md.v_re0, Md.v_re, Md.v_reS, Md.v_ow0, Md.v_ow, Md.v_oku, Md.v_okd, Md.v_lce, Md.v_lcet, Md.v_callK, Md.v_ckR, Md.v_callN, Md.v_cnd1, Md.v_cnd2, Md.v_cn0, Md.v_cn1, Md.v_cn2, Md.v_cn3, Md.v_emk0, Md.v_aug, Md.v_agS, Md.v_kag, Md.v_agO, Md.v_r2, Md.v_r2R, Md.v_r1n, Md.v_rg0, Md.v_rgs, Md.v_emk, Md.v_mkR1, Md.v_mkR2, Md.v_tkx, Md.v_tkf, Md.v_tkt, Md.v_ttl, Md.v_stf, Md.v_lk0, Md.v_lk, Md.v_lkt, Md.v_lkf, Md.v_pd0, Md.v_pd, Md.v_pdt, Md.v_pdf, Md.v_atc, Md.v_atx, Md.v_eq, Md.v_ne, Md.v_eqs, Md.v_nes, Md.v_inl, Md.v_int, Md.v_nil', Md.v_nit', Md.v_fl0, Md.v_fl1, Md.v_fl2, Md.v_fl3, Md.v_fl4, Md.v_fl5, Md.v_fa0, Md.v_fac, Md.v_q0, Md.v_q1, Md.v_q2, Md.v_q3, Md.v_q4, Md.v_q5, Md.v_q6, Md.v_q7, Md.v_qs0, Md.v_qsc, Md.v_qsn, Md.v_qns, Md.v_i0, Md.v_i1, Md.v_qa, Md.v_qb, Md.v_qc, Md.v_qd, Md.v_qe, Md.v_qf, Md.v_qg, Md.v_qh, Md.v_qi, Md.v_qj, Md.v_qk, Md.v_ql, Md.v_qm, Md.v_qn, Md.v_qo, Md.v_qp, Md.v_qq, Md.v_qr, Md.v_qs, Md.v_qt, Md.v_qu, Md.v_qv, Md.v_qw, Md.v_qx, Md.v_qy, Md.v_qz, Md.v_atI0, Md.v_atI1, Md.v_atI2, Md.v_atI3, Md.v_atI4, Md.v_atI5, Md.v_atI6, Md.v_atI7, Md.v_atI8, Md.v_atI9, Md.v_atI10, Md.v_atI11, Md.v_atI12, Md.v_ixt, Md.v_ixl, Md.v_addi, Md.v_subi, Md.v_gti, Md.v_lti, Md.v_gei, Md.v_lei, Md.v_eqi, Md.v_nei, Md.v_inti, Md.v_intb, Md.v_is, Md.v_isn, Md.v_in0, Md.v_in1, Md.v_in2, Md.v_in3, Md.v_in4, Md.v_in5, Md.v_in6, Md.v_in7, Md.v_lenl, Md.v_lent, Md.v_acat, Md.v_kca, Md.v_kcat, Md.v_lam, Md.v_cap0, Md.v_capc, Md.v_cs1, Md.v_cs2, Md.v_cs3, Md.v_cs4, Md.v_runAsk, Md.v_ask, Md.v_askO, Md.v_askR1, Md.v_askR2, Md.v_lamR1, Md.v_lamR2, Md.v_nf0, Md.v_nf1, Md.v_nf2, Md.v_nf3, Md.v_nf4, Md.v_nf5, Md.v_nfa0, Md.v_nfac, Md.v_nff0, Md.v_nffc, Md.v_apo, Md.v_api, Md.v_ca5, Md.v_ca6, Md.v_ca7, Md.v_ci_3, Md.v_ci_4, Md.v_in8, Md.v_nc0, Md.v_nc1, Md.v_nc2, Md.v_nc3, Md.v_nc4, Md.v_nc5, Md.v_nc6, Md.v_nc7, Md.v_nc8, Md.v_nc9, Md.v_nc10, Md.v_nc11, Md.v_nc12, Md.v_nc13, Md.v_nc14, Md.v_nc15, Md.v_nc16, Md.v_nc17, Md.v_nc18, Md.v_nc19, Md.v_nc20, Md.v_nc21, Md.v_nc22, Md.v_nc23, Md.v_nc24, Md.v_nc25, Md.v_nc26, Md.v_nc27, Md.v_nc28, Md.v_nc29, Md.v_nc30, Md.v_nc31, Md.v_nc32, List.cons_append, List.nil_append, List.replicate_zero, List.replicate_succ, List.getElem?_cons_zero, List.getElem?_cons_succ, List.set_cons_zero, List.set_cons_succ, List.map_nil, List.map_cons, List.append_nil, Bool.not_true, Bool.not_false, Slot.put, List.length_cons, List.length_nil, List.length_append, Nat.reduceAdd, Nat.reduceLT, Nat.reduceLeDiff, Nat.reduceSub, Int.reduceLT, Int.reduceLE, Int.reduceEq, Int.reduceBEq, Int.reduceAdd, Int.reduceSub, Int.reduceMul, Int.reduceNeg, Int.reduceToNat, String.reduceBEq, decide_true, decide_false, Bool.true_and, Bool.false_and, Bool.and_true, Bool.and_false, Bool.true_or, Bool.false_or, Bool.or_true, Bool.or_false, if_true, if_false, ite_true, ite_false, Md.ofStr_beq, Bool.false_eq_true, beq_self_eq_true, reduceIte, Nat.zero_add, reduceCtorEq, ti_int_non, ti_int_bl, ti_int_int, ti_int_str, ti_int_tup, ti_int_lst, ti_int_dk, ti_int_x1, ti_int_x2, ti_bool_non, ti_bool_bl, ti_bool_int, ti_bool_str, ti_bool_tup, ti_bool_lst, ti_bool_dk, ti_bool_x1, ti_bool_x2, ti_list_tuple_non, ti_list_tuple_bl, ti_list_tuple_int, ti_list_tuple_str, ti_list_tuple_tup, ti_list_tuple_lst, ti_list_tuple_dk, ti_list_tuple_x1, ti_list_tuple_x2, ti_BadValue_non, ti_BadValue_bl, ti_BadValue_int, ti_BadValue_str, ti_BadValue_tup, ti_BadValue_lst, ti_BadValue_dk, ti_BadValue_x1, ti_BadValue_x2, ti_BadNumber_non, ti_BadNumber_bl, ti_BadNumber_int, ti_BadNumber_str, ti_BadNumber_tup, ti_BadNumber_lst, ti_BadNumber_dk, ti_BadNumber_x1, ti_BadNumber_x2, ta_part_x1, ta_part_x2, tx_RulesError_1, tx_RulesError_2, h]
def wrong1 (p q : Int) : List D := [.non, .int 5, .str "12F", .tup [], .tup [.int p, .int q], .tup [.int p, .int q, .bl false, .bl false], .tup [.int p, .int q, .int 0], .tup [.int p, .int q, .int 1], .tup [.int p, .int q, .non], .tup [.int (q + 1), .int q, .bl false], .tup [.int (-1), .int q, .bl false]]
def wrong2 (p q : Int) : List D := [.tup [.int 0, .int 0, .bl false], .tup [.int p, .int 0, .bl false], .tup [.int p, .int (-q), .bl false], .tup [.int q, .int q, .bl true], .lst [.int q, .int q, .bl true], .tup [.bl true, .int q, .bl false], .tup [.int p, .bl true, .bl false], .tup [.str "1", .str "2", .bl false], .dk []]
theorem isint_b (b : Bool) : sem_is_integer [.dat (.bl b)] = .ok (.bl false) [.dat (.bl b)] := by
  simp only [sem_is_integer, b_is_integer, Md.v_seq, Md.v_nx, Md.v_rt, Md.v_bk, Md.v_ct, Md.v_ex, Md.v_ok, Md.v_bx, Md.v_to, Md.v_tx, Md.v_oR, Md.v_sR, Md.v_var, Md.v_k, Md.v_op2, Md.v_k2, Md.v_k3, Md.v_op1, Md.v_k1, Md.v_bR, Md.v_bool, Md.v_not, Md.v_knot, Md.v_and, Md.v_and1, Md.v_and0, Md.v_or, Md.v_or1, Md.v_or0, Md.v_nR, Md.v_notV, Md.v_aR1, Md.v_aR0, Md.v_andV, Md.v_orR1, Md.v_orR0, Md.v_orV, Md.v_if, Md.v_if1, Md.v_if0, Md.v_anil, Md.v_acons, Md.v_kac, Md.v_kad, Md.v_ob1, Md.v_ob2, Md.v_aobj, Md.v_ds0, Md.v_ds1, Md.v_ds2, Md.v_ds3, Md.v_ds4, Md.v_ds5, Md.v_ds6, Md.v_dsg, Md.v_dso, Md.v_dat0, Md.v_datc, Md.v_dco, Md.v_tup, Md.v_lst, Md.v_new, Md.v_lst', Md.v_tup', Md.v_new', Md.v_blR, Md.v_cb, Md.v_cb1, Md.v_cb2, Md.v_slR, Md.v_call, Md.v_cd1, Md.v_cd2, Md.v_ca0, Md.v_ca1, Md.v_ca2, Md.v_ca3, Md.v_ca4, Md.v_ci1, Md.v_ci2, Md.v_ciS, Md.v_ci_0, Md.v_ci_1, Md.v_ci_2, Md.v_io1, Md.v_io2, Md.v_put, Md.v_pu1, Md.v_pu2, Md.v_st1, Md.v_st2, Md.v_st3, Md.v_setE, Md.v_nxO, Md.v_set, Md.v_kset, Md.v_snew, Md.v_knew, Md.v_expr, Md.v_kex, Md.v_ret, Md.v_kret, Md.v_retN, Md.v_nil, Md.v_sif, Md.v_if_t, Md.v_if_f, Md.v_fr, Md.v_freeze, Md.v_la1, Md.v_la2, Md.v_lst_at, Md.v_ixR, Md.v_ixO, Md.v_gix, Md.v_kix, Md.v_leR, Md.v_lenO, Md.v_sput, Md.v_kpu, Md.v_gpu, Md.v_kpv, Md.v_gme, Md.v_kme, Md.v_meth, Md.v_raise, Md.v_ra1, Md.v_ra2, Md.v_par, Md.v_pa, Md.v_pa2, Md.v_tryK, Md.v_tk1, Md.v_tk2', Md.v_run, Md.v_ru1, Md.v_ru2, Md.v_ru3, Md.v_ou0, Md.v_ou1, Md.v_ou2, Md.v_it, Md.v_it1, Md.v_it2, Md.v_r1, Md.v_for, Md.v_kfo, Md.v_m1, Md.v_m1R, Md.v_m1S, Md.v_ifB, Md.v_ifB1, Md.v_ifB0, Md.v_mkD, Md.v_mkX, Md.v_make, Md.v_makeK, Md.v_mkG, Md.v_fldS, Md.v_fsR, Md.v_ins0, Md.v_fsO, Md.v_fld, Md.v_its, Md.v_lc, Md.v_lcR, Md.v_ofNew, Md.v_ofR, Md.v_chain, Md.v_ch1, Md.v_chY, Md.v_ch2t, Md.v_ch2f, Md.v_ch3, Md.v_cut, Md.v_cu1, Md.v_cu2, Md.v_cu3, Md.v_nop, Md.v_part, Md.v_ptR, Md.v_unp, Md.v_unO, Md.v_tgO, Md.v_tgs0, Md.v_tgs, Md.v_tgB, Md.v_ttt, Md.v_tname, Md.v_fg0, Md.v_fgc, Md.v_fg1, Md.v_fgn, Md.v_fgt, Md.v_fgb, Md.v_fgr, Md.v_fgx, Md.v_lc0, Md.v_lcc, Md.v_lc1, Md.v_lc2t, Md.v_lc2f, Md.v_lc3, Md.v_yes, Md.v_wi0, Md.v_wi, Md.v_re0, Md.v_re, Md.v_reS, Md.v_ow0, Md.v_ow, Md.v_oku, Md.v_okd, Md.v_lce, Md.v_lcet, Md.v_callK, Md.v_ckR, Md.v_callN, Md.v_cnd1, Md.v_cnd2, Md.v_cn0, Md.v_cn1, Md.v_cn2, Md.v_cn3, Md.v_emk0, Md.v_aug, Md.v_agS, Md.v_kag, Md.v_agO, Md.v_r2, Md.v_r2R, Md.v_r1n, Md.v_rg0, Md.v_rgs, Md.v_emk, Md.v_mkR1, Md.v_mkR2, Md.v_tkx, Md.v_tkf, Md.v_tkt, Md.v_ttl, Md.v_stf, Md.v_lk0, Md.v_lk, Md.v_lkt, Md.v_lkf, Md.v_pd0, Md.v_pd, Md.v_pdt, Md.v_pdf, Md.v_atc, Md.v_atx, Md.v_eq, Md.v_ne, Md.v_eqs, Md.v_nes, Md.v_inl, Md.v_int, Md.v_nil', Md.v_nit', Md.v_fl0, Md.v_fl1, Md.v_fl2, Md.v_fl3, Md.v_fl4, Md.v_fl5, Md.v_fa0, Md.v_fac, Md.v_q0, Md.v_q1, Md.v_q2, Md.v_q3, Md.v_q4, Md.v_q5, Md.v_q6, Md.v_q7, Md.v_qs0, Md.v_qsc, Md.v_qsn, Md.v_qns, Md.v_i0, Md.v_i1, Md.v_qa, Md.v_qb, Md.v_qc, Md.v_qd, Md.v_qe, Md.v_qf, Md.v_qg, Md.v_qh, Md.v_qi, Md.v_qj, Md.v_qk, Md.v_ql, Md.v_qm, Md.v_qn, Md.v_qo, Md.v_qp, Md.v_qq, Md.v_qr, Md.v_qs, Md.v_qt, Md.v_qu, Md.v_qv, Md.v_qw, Md.v_qx, Md.v_qy, Md.v_qz, Md.v_atI0, Md.v_atI1, Md.v_atI2, Md.v_atI3, Md.v_atI4, Md.v_atI5, Md.v_atI6, Md.v_atI7, Md.v_atI8, Md.v_atI9, Md.v_atI10, Md.v_atI11, Md.v_atI12, Md.v_ixt, Md.v_ixl, Md.v_addi, Md.v_subi, Md.v_gti, Md.v_lti, Md.v_gei, Md.v_lei, Md.v_eqi, Md.v_nei, Md.v_inti, Md.v_intb, Md.v_is, Md.v_isn, Md.v_in0, Md.v_in1, Md.v_in2, Md.v_in3, Md.v_in4, Md.v_in5, Md.v_in6, Md.v_in7, Md.v_lenl, Md.v_lent, Md.v_acat, Md.v_kca, Md.v_kcat, Md.v_lam, Md.v_cap0, Md.v_capc, Md.v_cs1, Md.v_cs2, Md.v_cs3, Md.v_cs4, Md.v_runAsk, Md.v_ask, Md.v_askO, Md.v_askR1, Md.v_askR2, Md.v_lamR1, Md.v_lamR2, Md.v_nf0, Md.v_nf1, Md.v_nf2, Md.v_nf3, Md.v_nf4, Md.v_nf5, Md.v_nfa0, Md.v_nfac, Md.v_nff0, Md.v_nffc, Md.v_apo, Md.v_api, Md.v_ca5, Md.v_ca6, Md.v_ca7, Md.v_ci_3, Md.v_ci_4, Md.v_in8, Md.v_nc0, Md.v_nc1, Md.v_nc2, Md.v_nc3, Md.v_nc4, Md.v_nc5, Md.v_nc6, Md.v_nc7, Md.v_nc8, Md.v_nc9, Md.v_nc10, Md.v_nc11, Md.v_nc12, Md.v_nc13, Md.v_nc14, Md.v_nc15, Md.v_nc16, Md.v_nc17, Md.v_nc18, Md.v_nc19, Md.v_nc20, Md.v_nc21, Md.v_nc22, Md.v_nc23, Md.v_nc24, Md.v_nc25, Md.v_nc26, Md.v_nc27, Md.v_nc28, Md.v_nc29, Md.v_nc30, Md.v_nc31, Md.v_nc32, List.cons_append, List.nil_append, List.replicate_zero, List.replicate_succ, List.getElem?_cons_zero, List.getElem?_cons_succ, List.set_cons_zero, List.set_cons_succ, List.map_nil, List.map_cons, List.append_nil, Bool.not_true, Bool.not_false, Slot.put, List.length_cons, List.length_nil, List.length_append, Nat.reduceAdd, Nat.reduceLT, Nat.reduceLeDiff, Nat.reduceSub, Int.reduceLT, Int.reduceLE, Int.reduceEq, Int.reduceBEq, Int.reduceAdd, Int.reduceSub, Int.reduceMul, Int.reduceNeg, Int.reduceToNat, String.reduceBEq, decide_true, decide_false, Bool.true_and, Bool.false_and, Bool.and_true, Bool.and_false, Bool.true_or, Bool.false_or, Bool.or_true, Bool.or_false, if_true, if_false, ite_true, ite_false, Md.ofStr_beq, Bool.false_eq_true, beq_self_eq_true, reduceIte, Nat.zero_add, reduceCtorEq, ti_int_non, ti_int_bl, ti_int_int, ti_int_str, ti_int_tup, ti_int_lst, ti_int_dk, ti_int_x1, ti_int_x2, ti_bool_non, ti_bool_bl, ti_bool_int, ti_bool_str, ti_bool_tup, ti_bool_lst, ti_bool_dk, ti_bool_x1, ti_bool_x2, ti_list_tuple_non, ti_list_tuple_bl, ti_list_tuple_int, ti_list_tuple_str, ti_list_tuple_tup, ti_list_tuple_lst, ti_list_tuple_dk, ti_list_tuple_x1, ti_list_tuple_x2, ti_BadValue_non, ti_BadValue_bl, ti_BadValue_int, ti_BadValue_str, ti_BadValue_tup, ti_BadValue_lst, ti_BadValue_dk, ti_BadValue_x1, ti_BadValue_x2, ti_BadNumber_non, ti_BadNumber_bl, ti_BadNumber_int, ti_BadNumber_str, ti_BadNumber_tup, ti_BadNumber_lst, ti_BadNumber_dk, ti_BadNumber_x1, ti_BadNumber_x2, ta_part_x1, ta_part_x2, tx_RulesError_1, tx_RulesError_2]
theorem isint_s (b : Str) : sem_is_integer [.dat (.str b)] = .ok (.bl false) [.dat (.str b)] := by
  simp only [sem_is_integer, b_is_integer, Md.v_seq, Md.v_nx, Md.v_rt, Md.v_bk, Md.v_ct, Md.v_ex, Md.v_ok, Md.v_bx, Md.v_to, Md.v_tx, Md.v_oR, Md.v_sR, Md.v_var, Md.v_k, Md.v_op2, Md.v_k2, Md.v_k3, Md.v_op1, Md.v_k1, Md.v_bR, Md.v_bool, Md.v_not, Md.v_knot, Md.v_and, Md.v_and1, Md.v_and0, Md.v_or, Md.v_or1, Md.v_or0, Md.v_nR, Md.v_notV, Md.v_aR1, Md.v_aR0, Md.v_andV, Md.v_orR1, Md.v_orR0, Md.v_orV, Md.v_if, Md.v_if1, Md.v_if0, Md.v_anil, Md.v_acons, Md.v_kac, Md.v_kad, Md.v_ob1, Md.v_ob2, Md.v_aobj, Md.v_ds0, Md.v_ds1, Md.v_ds2, Md.v_ds3, Md.v_ds4, Md.v_ds5, Md.v_ds6, Md.v_dsg, Md.v_dso, Md.v_dat0, Md.v_datc, Md.v_dco, Md.v_tup, Md.v_lst, Md.v_new, Md.v_lst', Md.v_tup', Md.v_new', Md.v_blR, Md.v_cb, Md.v_cb1, Md.v_cb2, Md.v_slR, Md.v_call, Md.v_cd1, Md.v_cd2, Md.v_ca0, Md.v_ca1, Md.v_ca2, Md.v_ca3, Md.v_ca4, Md.v_ci1, Md.v_ci2, Md.v_ciS, Md.v_ci_0, Md.v_ci_1, Md.v_ci_2, Md.v_io1, Md.v_io2, Md.v_put, Md.v_pu1, Md.v_pu2, Md.v_st1, Md.v_st2, Md.v_st3, Md.v_setE, Md.v_nxO, Md.v_set, Md.v_kset, Md.v_snew, Md.v_knew, Md.v_expr, Md.v_kex, Md.v_ret, Md.v_kret, Md.v_retN, Md.v_nil, Md.v_sif, Md.v_if_t, Md.v_if_f, Md.v_fr, Md.v_freeze, Md.v_la1, Md.v_la2, Md.v_lst_at, Md.v_ixR, Md.v_ixO, Md.v_gix, Md.v_kix, Md.v_leR, Md.v_lenO, Md.v_sput, Md.v_kpu, Md.v_gpu, Md.v_kpv, Md.v_gme, Md.v_kme, Md.v_meth, Md.v_raise, Md.v_ra1, Md.v_ra2, Md.v_par, Md.v_pa, Md.v_pa2, Md.v_tryK, Md.v_tk1, Md.v_tk2', Md.v_run, Md.v_ru1, Md.v_ru2, Md.v_ru3, Md.v_ou0, Md.v_ou1, Md.v_ou2, Md.v_it, Md.v_it1, Md.v_it2, Md.v_r1, Md.v_for, Md.v_kfo, Md.v_m1, Md.v_m1R, Md.v_m1S, Md.v_ifB, Md.v_ifB1, Md.v_ifB0, Md.v_mkD, Md.v_mkX, Md.v_make, Md.v_makeK, Md.v_mkG, Md.v_fldS, Md.v_fsR, Md.v_ins0, Md.v_fsO, Md.v_fld, Md.v_its, Md.v_lc, Md.v_lcR, Md.v_ofNew, Md.v_ofR, Md.v_chain, Md.v_ch1, Md.v_chY, Md.v_ch2t, Md.v_ch2f, Md.v_ch3, Md.v_cut, Md.v_cu1, Md.v_cu2, Md.v_cu3, Md.v_nop, Md.v_part, Md.v_ptR, Md.v_unp, Md.v_unO, Md.v_tgO, Md.v_tgs0, Md.v_tgs, Md.v_tgB, Md.v_ttt, Md.v_tname, Md.v_fg0, Md.v_fgc, Md.v_fg1, Md.v_fgn, Md.v_fgt, Md.v_fgb, Md.v_fgr, Md.v_fgx, Md.v_lc0, Md.v_lcc, Md.v_lc1, Md.v_lc2t, Md.v_lc2f, Md.v_lc3, Md.v_yes, Md.v_wi0, Md.v_wi, Md.v_re0, Md.v_re, Md.v_reS, Md.v_ow0, Md.v_ow, Md.v_oku, Md.v_okd, Md.v_lce, Md.v_lcet, Md.v_callK, Md.v_ckR, Md.v_callN, Md.v_cnd1, Md.v_cnd2, Md.v_cn0, Md.v_cn1, Md.v_cn2, Md.v_cn3, Md.v_emk0, Md.v_aug, Md.v_agS, Md.v_kag, Md.v_agO, Md.v_r2, Md.v_r2R, Md.v_r1n, Md.v_rg0, Md.v_rgs, Md.v_emk, Md.v_mkR1, Md.v_mkR2, Md.v_tkx, Md.v_tkf, Md.v_tkt, Md.v_ttl, Md.v_stf, Md.v_lk0, Md.v_lk, Md.v_lkt, Md.v_lkf, Md.v_pd0, Md.v_pd, Md.v_pdt, Md.v_pdf, Md.v_atc, Md.v_atx, Md.v_eq, Md.v_ne, Md.v_eqs, Md.v_nes, Md.v_inl, Md.v_int, Md.v_nil', Md.v_nit', Md.v_fl0, Md.v_fl1, Md.v_fl2, Md.v_fl3, Md.v_fl4, Md.v_fl5, Md.v_fa0, Md.v_fac, Md.v_q0, Md.v_q1, Md.v_q2, Md.v_q3, Md.v_q4, Md.v_q5, Md.v_q6, Md.v_q7, Md.v_qs0, Md.v_qsc, Md.v_qsn, Md.v_qns, Md.v_i0, Md.v_i1, Md.v_qa, Md.v_qb, Md.v_qc, Md.v_qd, Md.v_qe, Md.v_qf, Md.v_qg, Md.v_qh, Md.v_qi, Md.v_qj, Md.v_qk, Md.v_ql, Md.v_qm, Md.v_qn, Md.v_qo, Md.v_qp, Md.v_qq, Md.v_qr, Md.v_qs, Md.v_qt, Md.v_qu, Md.v_qv, Md.v_qw, Md.v_qx, Md.v_qy, Md.v_qz, Md.v_atI0, Md.v_atI1, Md.v_atI2, Md.v_atI3, Md.v_atI4, Md.v_atI5, Md.v_atI6, Md.v_atI7, Md.v_atI8, Md.v_atI9, Md.v_atI10, Md.v_atI11, Md.v_atI12, Md.v_ixt, Md.v_ixl, Md.v_addi, Md.v_subi, Md.v_gti, Md.v_lti, Md.v_gei, Md.v_lei, Md.v_eqi, Md.v_nei, Md.v_inti, Md.v_intb, Md.v_is, Md.v_isn, Md.v_in0, Md.v_in1, Md.v_in2, Md.v_in3, Md.v_in4, Md.v_in5, Md.v_in6, Md.v_in7, Md.v_lenl, Md.v_lent, Md.v_acat, Md.v_kca, Md.v_kcat, Md.v_lam, Md.v_cap0, Md.v_capc, Md.v_cs1, Md.v_cs2, Md.v_cs3, Md.v_cs4, Md.v_runAsk, Md.v_ask, Md.v_askO, Md.v_askR1, Md.v_askR2, Md.v_lamR1, Md.v_lamR2, Md.v_nf0, Md.v_nf1, Md.v_nf2, Md.v_nf3, Md.v_nf4, Md.v_nf5, Md.v_nfa0, Md.v_nfac, Md.v_nff0, Md.v_nffc, Md.v_apo, Md.v_api, Md.v_ca5, Md.v_ca6, Md.v_ca7, Md.v_ci_3, Md.v_ci_4, Md.v_in8, Md.v_nc0, Md.v_nc1, Md.v_nc2, Md.v_nc3, Md.v_nc4, Md.v_nc5, Md.v_nc6, Md.v_nc7, Md.v_nc8, Md.v_nc9, Md.v_nc10, Md.v_nc11, Md.v_nc12, Md.v_nc13, Md.v_nc14, Md.v_nc15, Md.v_nc16, Md.v_nc17, Md.v_nc18, Md.v_nc19, Md.v_nc20, Md.v_nc21, Md.v_nc22, Md.v_nc23, Md.v_nc24, Md.v_nc25, Md.v_nc26, Md.v_nc27, Md.v_nc28, Md.v_nc29, Md.v_nc30, Md.v_nc31, Md.v_nc32, List.cons_append, List.nil_append, List.replicate_zero, List.replicate_succ, List.getElem?_cons_zero, List.getElem?_cons_succ, List.set_cons_zero, List.set_cons_succ, List.map_nil, List.map_cons, List.append_nil, Bool.not_true, Bool.not_false, Slot.put, List.length_cons, List.length_nil, List.length_append, Nat.reduceAdd, Nat.reduceLT, Nat.reduceLeDiff, Nat.reduceSub, Int.reduceLT, Int.reduceLE, Int.reduceEq, Int.reduceBEq, Int.reduceAdd, Int.reduceSub, Int.reduceMul, Int.reduceNeg, Int.reduceToNat, String.reduceBEq, decide_true, decide_false, Bool.true_and, Bool.false_and, Bool.and_true, Bool.and_false, Bool.true_or, Bool.false_or, Bool.or_true, Bool.or_false, if_true, if_false, ite_true, ite_false, Md.ofStr_beq, Bool.false_eq_true, beq_self_eq_true, reduceIte, Nat.zero_add, reduceCtorEq, ti_int_non, ti_int_bl, ti_int_int, ti_int_str, ti_int_tup, ti_int_lst, ti_int_dk, ti_int_x1, ti_int_x2, ti_bool_non, ti_bool_bl, ti_bool_int, ti_bool_str, ti_bool_tup, ti_bool_lst, ti_bool_dk, ti_bool_x1, ti_bool_x2, ti_list_tuple_non, ti_list_tuple_bl, ti_list_tuple_int, ti_list_tuple_str, ti_list_tuple_tup, ti_list_tuple_lst, ti_list_tuple_dk, ti_list_tuple_x1, ti_list_tuple_x2, ti_BadValue_non, ti_BadValue_bl, ti_BadValue_int, ti_BadValue_str, ti_BadValue_tup, ti_BadValue_lst, ti_BadValue_dk, ti_BadValue_x1, ti_BadValue_x2, ti_BadNumber_non, ti_BadNumber_bl, ti_BadNumber_int, ti_BadNumber_str, ti_BadNumber_tup, ti_BadNumber_lst, ti_BadNumber_dk, ti_BadNumber_x1, ti_BadNumber_x2, ta_part_x1, ta_part_x2, tx_RulesError_1, tx_RulesError_2]
theorem all_bad (p q : Int) (h0 : 0 ≤ p) (h1 : p ≤ q) (h2 : 1 ≤ q) : ∀ d ∈ wrong1 p q ++ wrong2 p q, Bad d := by
  intro d hd
  have a0 : decide (0 ≤ p) = true := decide_eq_true h0
  have a1 : decide (0 ≤ q) = true := decide_eq_true (by omega)
  have a2 : decide (0 ≤ q + 1) = true := decide_eq_true (by omega)
  have a3 : decide (q + 1 ≤ q) = false := decide_eq_false (by omega)
  have a4 : decide (p ≤ -q) = false := decide_eq_false (by omega)
  have a5 : decide (q ≤ q) = true := decide_eq_true (by omega)
  have a6 : decide (q < q) = false := decide_eq_false (by omega)
  have a7 : decide (q < 1) = false := decide_eq_false (by omega)
  have a8 : decide ((0 : Int) < 1) = true := by decide
  simp only [wrong1, wrong2, List.cons_append, List.nil_append, List.mem_cons, List.not_mem_nil, or_false] at hd
  rcases hd with rfl | rfl | rfl | rfl | rfl | rfl | rfl | rfl | rfl | rfl | rfl | rfl | rfl | rfl | rfl | rfl | rfl | rfl | rfl | rfl
  all_goals first
    | (unfold Bad; simp only [sem_is_share, b_is_share, b_is_share_i1, b_is_share_i2, b_is_share_s1, b_is_share_s2, b_is_share_s3, Md.v_seq, Md.v_nx, Md.v_rt, Md.v_bk, Md.v_ct, Md.v_ex, Md.v_ok, Md.v_bx, Md.v_to, Md.v_tx, Md.v_oR, Md.v_sR, Md.v_var, Md.v_k, Md.v_op2, Md.v_k2, Md.v_k3, Md.v_op1, Md.v_k1, Md.v_bR, Md.v_bool, Md.v_not, Md.v_knot, Md.v_and, Md.v_and1, Md.v_and0, Md.v_or, Md.v_or1, Md.v_or0, Md.v_nR, Md.v_notV, Md.v_aR1, Md.v_aR0, Md.v_andV, Md.v_orR1, Md.v_orR0, Md.v_orV, Md.v_if, Md.v_if1, Md.v_if0, Md.v_anil, Md.v_acons, Md.v_kac, Md.v_kad, Md.v_ob1, Md.v_ob2, Md.v_aobj, Md.v_ds0, Md.v_ds1, Md.v_ds2, Md.v_ds3, Md.v_ds4, Md.v_ds5, Md.v_ds6, Md.v_dsg, Md.v_dso, Md.v_dat0, Md.v_datc, Md.v_dco, Md.v_tup, Md.v_lst, Md.v_new, Md.v_lst', Md.v_tup', Md.v_new', Md.v_blR, Md.v_cb, Md.v_cb1, Md.v_cb2, Md.v_slR, Md.v_call, Md.v_cd1, Md.v_cd2, Md.v_ca0, Md.v_ca1, Md.v_ca2, Md.v_ca3, Md.v_ca4, Md.v_ci1, Md.v_ci2, Md.v_ciS, Md.v_ci_0, Md.v_ci_1, Md.v_ci_2, Md.v_io1, Md.v_io2, Md.v_put, Md.v_pu1, Md.v_pu2, Md.v_st1, Md.v_st2, Md.v_st3, Md.v_setE, Md.v_nxO, Md.v_set, Md.v_kset, Md.v_snew, Md.v_knew, Md.v_expr, Md.v_kex, Md.v_ret, Md.v_kret, Md.v_retN, Md.v_nil, Md.v_sif, Md.v_if_t, Md.v_if_f, Md.v_fr, Md.v_freeze, Md.v_la1, Md.v_la2, Md.v_lst_at, Md.v_ixR, Md.v_ixO, Md.v_gix, Md.v_kix, Md.v_leR, Md.v_lenO, Md.v_sput, Md.v_kpu, Md.v_gpu, Md.v_kpv, Md.v_gme, Md.v_kme, Md.v_meth, Md.v_raise, Md.v_ra1, Md.v_ra2, Md.v_par, Md.v_pa, Md.v_pa2, Md.v_tryK, Md.v_tk1, Md.v_tk2', Md.v_run, Md.v_ru1, Md.v_ru2, Md.v_ru3, Md.v_ou0, Md.v_ou1, Md.v_ou2, Md.v_it, Md.v_it1, Md.v_it2, Md.v_r1, Md.v_for, Md.v_kfo, Md.v_m1, Md.v_m1R, Md.v_m1S, Md.v_ifB, Md.v_ifB1, Md.v_ifB0, Md.v_mkD, Md.v_mkX, Md.v_make, Md.v_makeK, Md.v_mkG, Md.v_fldS, Md.v_fsR, Md.v_ins0, Md.v_fsO, Md.v_fld, Md.v_its, Md.v_lc, Md.v_lcR, Md.v_ofNew, Md.v_ofR, Md.v_chain, Md.v_ch1, Md.v_chY, Md.v_ch2t, Md.v_ch2f, Md.v_ch3, Md.v_cut, Md.v_cu1, Md.v_cu2, Md.v_cu3, Md.v_nop, Md.v_part, Md.v_ptR, Md.v_unp, Md.v_unO, Md.v_tgO, Md.v_tgs0, Md.v_tgs, Md.v_tgB, Md.v_ttt, Md.v_tname, Md.v_fg0, Md.v_fgc, Md.v_fg1, Md.v_fgn, Md.v_fgt, Md.v_fgb, Md.v_fgr, Md.v_fgx, Md.v_lc0, Md.v_lcc, Md.v_lc1, Md.v_lc2t, Md.v_lc2f, Md.v_lc3, Md.v_yes, Md.v_wi0, Md.v_wi, Md.v_re0, Md.v_re, Md.v_reS, Md.v_ow0, Md.v_ow, Md.v_oku, Md.v_okd, Md.v_lce, Md.v_lcet, Md.v_callK, Md.v_ckR, Md.v_callN, Md.v_cnd1, Md.v_cnd2, Md.v_cn0, Md.v_cn1, Md.v_cn2, Md.v_cn3, Md.v_emk0, Md.v_aug, Md.v_agS, Md.v_kag, Md.v_agO, Md.v_r2, Md.v_r2R, Md.v_r1n, Md.v_rg0, Md.v_rgs, Md.v_emk, Md.v_mkR1, Md.v_mkR2, Md.v_tkx, Md.v_tkf, Md.v_tkt, Md.v_ttl, Md.v_stf, Md.v_lk0, Md.v_lk, Md.v_lkt, Md.v_lkf, Md.v_pd0, Md.v_pd, Md.v_pdt, Md.v_pdf, Md.v_atc, Md.v_atx, Md.v_eq, Md.v_ne, Md.v_eqs, Md.v_nes, Md.v_inl, Md.v_int, Md.v_nil', Md.v_nit', Md.v_fl0, Md.v_fl1, Md.v_fl2, Md.v_fl3, Md.v_fl4, Md.v_fl5, Md.v_fa0, Md.v_fac, Md.v_q0, Md.v_q1, Md.v_q2, Md.v_q3, Md.v_q4, Md.v_q5, Md.v_q6, Md.v_q7, Md.v_qs0, Md.v_qsc, Md.v_qsn, Md.v_qns, Md.v_i0, Md.v_i1, Md.v_qa, Md.v_qb, Md.v_qc, Md.v_qd, Md.v_qe, Md.v_qf, Md.v_qg, Md.v_qh, Md.v_qi, Md.v_qj, Md.v_qk, Md.v_ql, Md.v_qm, Md.v_qn, Md.v_qo, Md.v_qp, Md.v_qq, Md.v_qr, Md.v_qs, Md.v_qt, Md.v_qu, Md.v_qv, Md.v_qw, Md.v_qx, Md.v_qy, Md.v_qz, Md.v_atI0, Md.v_atI1, Md.v_atI2, Md.v_atI3, Md.v_atI4, Md.v_atI5, Md.v_atI6, Md.v_atI7, Md.v_atI8, Md.v_atI9, Md.v_atI10, Md.v_atI11, Md.v_atI12, Md.v_ixt, Md.v_ixl, Md.v_addi, Md.v_subi, Md.v_gti, Md.v_lti, Md.v_gei, Md.v_lei, Md.v_eqi, Md.v_nei, Md.v_inti, Md.v_intb, Md.v_is, Md.v_isn, Md.v_in0, Md.v_in1, Md.v_in2, Md.v_in3, Md.v_in4, Md.v_in5, Md.v_in6, Md.v_in7, Md.v_lenl, Md.v_lent, Md.v_acat, Md.v_kca, Md.v_kcat, Md.v_lam, Md.v_cap0, Md.v_capc, Md.v_cs1, Md.v_cs2, Md.v_cs3, Md.v_cs4, Md.v_runAsk, Md.v_ask, Md.v_askO, Md.v_askR1, Md.v_askR2, Md.v_lamR1, Md.v_lamR2, Md.v_nf0, Md.v_nf1, Md.v_nf2, Md.v_nf3, Md.v_nf4, Md.v_nf5, Md.v_nfa0, Md.v_nfac, Md.v_nff0, Md.v_nffc, Md.v_apo, Md.v_api, Md.v_ca5, Md.v_ca6, Md.v_ca7, Md.v_ci_3, Md.v_ci_4, Md.v_in8, Md.v_nc0, Md.v_nc1, Md.v_nc2, Md.v_nc3, Md.v_nc4, Md.v_nc5, Md.v_nc6, Md.v_nc7, Md.v_nc8, Md.v_nc9, Md.v_nc10, Md.v_nc11, Md.v_nc12, Md.v_nc13, Md.v_nc14, Md.v_nc15, Md.v_nc16, Md.v_nc17, Md.v_nc18, Md.v_nc19, Md.v_nc20, Md.v_nc21, Md.v_nc22, Md.v_nc23, Md.v_nc24, Md.v_nc25, Md.v_nc26, Md.v_nc27, Md.v_nc28, Md.v_nc29, Md.v_nc30, Md.v_nc31, Md.v_nc32, List.cons_append, List.nil_append, List.replicate_zero, List.replicate_succ, List.getElem?_cons_zero, List.getElem?_cons_succ, List.set_cons_zero, List.set_cons_succ, List.map_nil, List.map_cons, List.append_nil, Bool.not_true, Bool.not_false, Slot.put, List.length_cons, List.length_nil, List.length_append, Nat.reduceAdd, Nat.reduceLT, Nat.reduceLeDiff, Nat.reduceSub, Int.reduceLT, Int.reduceLE, Int.reduceEq, Int.reduceBEq, Int.reduceAdd, Int.reduceSub, Int.reduceMul, Int.reduceNeg, Int.reduceToNat, String.reduceBEq, decide_true, decide_false, Bool.true_and, Bool.false_and, Bool.and_true, Bool.and_false, Bool.true_or, Bool.false_or, Bool.or_true, Bool.or_false, if_true, if_false, ite_true, ite_false, Md.ofStr_beq, Bool.false_eq_true, beq_self_eq_true, reduceIte, Nat.zero_add, reduceCtorEq, ti_int_non, ti_int_bl, ti_int_int, ti_int_str, ti_int_tup, ti_int_lst, ti_int_dk, ti_int_x1, ti_int_x2, ti_bool_non, ti_bool_bl, ti_bool_int, ti_bool_str, ti_bool_tup, ti_bool_lst, ti_bool_dk, ti_bool_x1, ti_bool_x2, ti_list_tuple_non, ti_list_tuple_bl, ti_list_tuple_int, ti_list_tuple_str, ti_list_tuple_tup, ti_list_tuple_lst, ti_list_tuple_dk, ti_list_tuple_x1, ti_list_tuple_x2, ti_BadValue_non, ti_BadValue_bl, ti_BadValue_int, ti_BadValue_str, ti_BadValue_tup, ti_BadValue_lst, ti_BadValue_dk, ti_BadValue_x1, ti_BadValue_x2, ti_BadNumber_non, ti_BadNumber_bl, ti_BadNumber_int, ti_BadNumber_str, ti_BadNumber_tup, ti_BadNumber_lst, ti_BadNumber_dk, ti_BadNumber_x1, ti_BadNumber_x2, ta_part_x1, ta_part_x2, tx_RulesError_1, tx_RulesError_2, isint, isint_b, isint_s, a0, a1, a2, a3, a4, a5, a6, a7, a8]; done)
    | (unfold Bad
       cases hz : decide (p ≤ 0) <;> simp only [sem_is_share, b_is_share, b_is_share_i1, b_is_share_i2, b_is_share_s1, b_is_share_s2, b_is_share_s3, Md.v_seq, Md.v_nx, Md.v_rt, Md.v_bk, Md.v_ct, Md.v_ex, Md.v_ok, Md.v_bx, Md.v_to, Md.v_tx, Md.v_oR, Md.v_sR, Md.v_var, Md.v_k, Md.v_op2, Md.v_k2, Md.v_k3, Md.v_op1, Md.v_k1, Md.v_bR, Md.v_bool, Md.v_not, Md.v_knot, Md.v_and, Md.v_and1, Md.v_and0, Md.v_or, Md.v_or1, Md.v_or0, Md.v_nR, Md.v_notV, Md.v_aR1, Md.v_aR0, Md.v_andV, Md.v_orR1, Md.v_orR0, Md.v_orV, Md.v_if, Md.v_if1, Md.v_if0, Md.v_anil, Md.v_acons, Md.v_kac, Md.v_kad, Md.v_ob1, Md.v_ob2, Md.v_aobj, Md.v_ds0, Md.v_ds1, Md.v_ds2, Md.v_ds3, Md.v_ds4, Md.v_ds5, Md.v_ds6, Md.v_dsg, Md.v_dso, Md.v_dat0, Md.v_datc, Md.v_dco, Md.v_tup, Md.v_lst, Md.v_new, Md.v_lst', Md.v_tup', Md.v_new', Md.v_blR, Md.v_cb, Md.v_cb1, Md.v_cb2, Md.v_slR, Md.v_call, Md.v_cd1, Md.v_cd2, Md.v_ca0, Md.v_ca1, Md.v_ca2, Md.v_ca3, Md.v_ca4, Md.v_ci1, Md.v_ci2, Md.v_ciS, Md.v_ci_0, Md.v_ci_1, Md.v_ci_2, Md.v_io1, Md.v_io2, Md.v_put, Md.v_pu1, Md.v_pu2, Md.v_st1, Md.v_st2, Md.v_st3, Md.v_setE, Md.v_nxO, Md.v_set, Md.v_kset, Md.v_snew, Md.v_knew, Md.v_expr, Md.v_kex, Md.v_ret, Md.v_kret, Md.v_retN, Md.v_nil, Md.v_sif, Md.v_if_t, Md.v_if_f, Md.v_fr, Md.v_freeze, Md.v_la1, Md.v_la2, Md.v_lst_at, Md.v_ixR, Md.v_ixO, Md.v_gix, Md.v_kix, Md.v_leR, Md.v_lenO, Md.v_sput, Md.v_kpu, Md.v_gpu, Md.v_kpv, Md.v_gme, Md.v_kme, Md.v_meth, Md.v_raise, Md.v_ra1, Md.v_ra2, Md.v_par, Md.v_pa, Md.v_pa2, Md.v_tryK, Md.v_tk1, Md.v_tk2', Md.v_run, Md.v_ru1, Md.v_ru2, Md.v_ru3, Md.v_ou0, Md.v_ou1, Md.v_ou2, Md.v_it, Md.v_it1, Md.v_it2, Md.v_r1, Md.v_for, Md.v_kfo, Md.v_m1, Md.v_m1R, Md.v_m1S, Md.v_ifB, Md.v_ifB1, Md.v_ifB0, Md.v_mkD, Md.v_mkX, Md.v_make, Md.v_makeK, Md.v_mkG, Md.v_fldS, Md.v_fsR, Md.v_ins0, Md.v_fsO, Md.v_fld, Md.v_its, Md.v_lc, Md.v_lcR, Md.v_ofNew, Md.v_ofR, Md.v_chain, Md.v_ch1, Md.v_chY, Md.v_ch2t, Md.v_ch2f, Md.v_ch3, Md.v_cut, Md.v_cu1, Md.v_cu2, Md.v_cu3, Md.v_nop, Md.v_part, Md.v_ptR, Md.v_unp, Md.v_unO, Md.v_tgO, Md.v_tgs0, Md.v_tgs, Md.v_tgB, Md.v_ttt, Md.v_tname, Md.v_fg0, Md.v_fgc, Md.v_fg1, Md.v_fgn, Md.v_fgt, Md.v_fgb, Md.v_fgr, Md.v_fgx, Md.v_lc0, Md.v_lcc, Md.v_lc1, Md.v_lc2t, Md.v_lc2f, Md.v_lc3, Md.v_yes, Md.v_wi0, Md.v_wi, Md.v_re0, Md.v_re, Md.v_reS, Md.v_ow0, Md.v_ow, Md.v_oku, Md.v_okd, Md.v_lce, Md.v_lcet, Md.v_callK, Md.v_ckR, Md.v_callN, Md.v_cnd1, Md.v_cnd2, Md.v_cn0, Md.v_cn1, Md.v_cn2, Md.v_cn3, Md.v_emk0, Md.v_aug, Md.v_agS, Md.v_kag, Md.v_agO, Md.v_r2, Md.v_r2R, Md.v_r1n, Md.v_rg0, Md.v_rgs, Md.v_emk, Md.v_mkR1, Md.v_mkR2, Md.v_tkx, Md.v_tkf, Md.v_tkt, Md.v_ttl, Md.v_stf, Md.v_lk0, Md.v_lk, Md.v_lkt, Md.v_lkf, Md.v_pd0, Md.v_pd, Md.v_pdt, Md.v_pdf, Md.v_atc, Md.v_atx, Md.v_eq, Md.v_ne, Md.v_eqs, Md.v_nes, Md.v_inl, Md.v_int, Md.v_nil', Md.v_nit', Md.v_fl0, Md.v_fl1, Md.v_fl2, Md.v_fl3, Md.v_fl4, Md.v_fl5, Md.v_fa0, Md.v_fac, Md.v_q0, Md.v_q1, Md.v_q2, Md.v_q3, Md.v_q4, Md.v_q5, Md.v_q6, Md.v_q7, Md.v_qs0, Md.v_qsc, Md.v_qsn, Md.v_qns, Md.v_i0, Md.v_i1, Md.v_qa, Md.v_qb, Md.v_qc, Md.v_qd, Md.v_qe, Md.v_qf, Md.v_qg, Md.v_qh, Md.v_qi, Md.v_qj, Md.v_qk, Md.v_ql, Md.v_qm, Md.v_qn, Md.v_qo, Md.v_qp, Md.v_qq, Md.v_qr, Md.v_qs, Md.v_qt, Md.v_qu, Md.v_qv, Md.v_qw, Md.v_qx, Md.v_qy, Md.v_qz, Md.v_atI0, Md.v_atI1, Md.v_atI2, Md.v_atI3, Md.v_atI4, Md.v_atI5, Md.v_atI6, Md.v_atI7, Md.v_atI8, Md.v_atI9, Md.v_atI10, Md.v_atI11, Md.v_atI12, Md.v_ixt, Md.v_ixl, Md.v_addi, Md.v_subi, Md.v_gti, Md.v_lti, Md.v_gei, Md.v_lei, Md.v_eqi, Md.v_nei, Md.v_inti, Md.v_intb, Md.v_is, Md.v_isn, Md.v_in0, Md.v_in1, Md.v_in2, Md.v_in3, Md.v_in4, Md.v_in5, Md.v_in6, Md.v_in7, Md.v_lenl, Md.v_lent, Md.v_acat, Md.v_kca, Md.v_kcat, Md.v_lam, Md.v_cap0, Md.v_capc, Md.v_cs1, Md.v_cs2, Md.v_cs3, Md.v_cs4, Md.v_runAsk, Md.v_ask, Md.v_askO, Md.v_askR1, Md.v_askR2, Md.v_lamR1, Md.v_lamR2, Md.v_nf0, Md.v_nf1, Md.v_nf2, Md.v_nf3, Md.v_nf4, Md.v_nf5, Md.v_nfa0, Md.v_nfac, Md.v_nff0, Md.v_nffc, Md.v_apo, Md.v_api, Md.v_ca5, Md.v_ca6, Md.v_ca7, Md.v_ci_3, Md.v_ci_4, Md.v_in8, Md.v_nc0, Md.v_nc1, Md.v_nc2, Md.v_nc3, Md.v_nc4, Md.v_nc5, Md.v_nc6, Md.v_nc7, Md.v_nc8, Md.v_nc9, Md.v_nc10, Md.v_nc11, Md.v_nc12, Md.v_nc13, Md.v_nc14, Md.v_nc15, Md.v_nc16, Md.v_nc17, Md.v_nc18, Md.v_nc19, Md.v_nc20, Md.v_nc21, Md.v_nc22, Md.v_nc23, Md.v_nc24, Md.v_nc25, Md.v_nc26, Md.v_nc27, Md.v_nc28, Md.v_nc29, Md.v_nc30, Md.v_nc31, Md.v_nc32, List.cons_append, List.nil_append, List.replicate_zero, List.replicate_succ, List.getElem?_cons_zero, List.getElem?_cons_succ, List.set_cons_zero, List.set_cons_succ, List.map_nil, List.map_cons, List.append_nil, Bool.not_true, Bool.not_false, Slot.put, List.length_cons, List.length_nil, List.length_append, Nat.reduceAdd, Nat.reduceLT, Nat.reduceLeDiff, Nat.reduceSub, Int.reduceLT, Int.reduceLE, Int.reduceEq, Int.reduceBEq, Int.reduceAdd, Int.reduceSub, Int.reduceMul, Int.reduceNeg, Int.reduceToNat, String.reduceBEq, decide_true, decide_false, Bool.true_and, Bool.false_and, Bool.and_true, Bool.and_false, Bool.true_or, Bool.false_or, Bool.or_true, Bool.or_false, if_true, if_false, ite_true, ite_false, Md.ofStr_beq, Bool.false_eq_true, beq_self_eq_true, reduceIte, Nat.zero_add, reduceCtorEq, ti_int_non, ti_int_bl, ti_int_int, ti_int_str, ti_int_tup, ti_int_lst, ti_int_dk, ti_int_x1, ti_int_x2, ti_bool_non, ti_bool_bl, ti_bool_int, ti_bool_str, ti_bool_tup, ti_bool_lst, ti_bool_dk, ti_bool_x1, ti_bool_x2, ti_list_tuple_non, ti_list_tuple_bl, ti_list_tuple_int, ti_list_tuple_str, ti_list_tuple_tup, ti_list_tuple_lst, ti_list_tuple_dk, ti_list_tuple_x1, ti_list_tuple_x2, ti_BadValue_non, ti_BadValue_bl, ti_BadValue_int, ti_BadValue_str, ti_BadValue_tup, ti_BadValue_lst, ti_BadValue_dk, ti_BadValue_x1, ti_BadValue_x2, ti_BadNumber_non, ti_BadNumber_bl, ti_BadNumber_int, ti_BadNumber_str, ti_BadNumber_tup, ti_BadNumber_lst, ti_BadNumber_dk, ti_BadNumber_x1, ti_BadNumber_x2, ta_part_x1, ta_part_x2, tx_RulesError_1, tx_RulesError_2, isint, isint_b, isint_s, a0, a1, a2, a3, a4, a5, a6, a7, a8, hz])
abbrev RfE (q0 : OO) (p q : Int) (odd wr : D) (s5 s6 : Slot) : En := [.io q0, .dat (.int p), .dat (.int q), .dat odd, .dat wr, s5, s6]
theorem rf_loop (q0 : OO) (p q : Int) (odd wr : D) : ∀ (ds : List D) (s5 s6 : Slot), (∀ d ∈ ds, Bad d) → s5.free = true → s6.free = true →
    ∃ t5 t6, forGo (tName 5) b__law_refused_right_l1 ds (RfE q0 p q odd wr s5 s6) = .nx (RfE q0 p q odd wr t5 t6) ∧ t5.free = true ∧ t6.free = true
  | [], s5, s6, _, f5, f6 => ⟨s5, s6, rfl, f5, f6⟩
  | d :: ds, s5, s6, hb, f5, f6 => by
    have bd := hb d (.head _)
    have k1 := bad_for (t := .int 5) bd
    have k2 := bad_for (t := odd) bd
    have rp : dMul (.lst [.tup [.str (Str.ofString "value"), .str (Str.ofString "share")]]) (.int 2) = some (.lst [.tup [.str (Str.ofString "value"), .str (Str.ofString "share")], .tup [.str (Str.ofString "value"), .str (Str.ofString "share")]]) := rfl
    have body : b__law_refused_right_l1 (RfE q0 p q odd wr (.dat d) s6) = .nx (RfE q0 p q odd wr (.dat d) (.dat (.lst [.tup [.str (Str.ofString "value"), .str (Str.ofString "share")], .tup [.str (Str.ofString "value"), .str (Str.ofString "share")]]))) := by
      simp only [b__law_refused_right_l1, b__law_refused_right_s2, b__law_refused_right_s1, b__law_refused_right_i1, RfE, Md.v_seq, Md.v_nx, Md.v_rt, Md.v_bk, Md.v_ct, Md.v_ex, Md.v_ok, Md.v_bx, Md.v_to, Md.v_tx, Md.v_oR, Md.v_sR, Md.v_var, Md.v_k, Md.v_op2, Md.v_k2, Md.v_k3, Md.v_op1, Md.v_k1, Md.v_bR, Md.v_bool, Md.v_not, Md.v_knot, Md.v_and, Md.v_and1, Md.v_and0, Md.v_or, Md.v_or1, Md.v_or0, Md.v_nR, Md.v_notV, Md.v_aR1, Md.v_aR0, Md.v_andV, Md.v_orR1, Md.v_orR0, Md.v_orV, Md.v_if, Md.v_if1, Md.v_if0, Md.v_anil, Md.v_acons, Md.v_kac, Md.v_kad, Md.v_ob1, Md.v_ob2, Md.v_aobj, Md.v_ds0, Md.v_ds1, Md.v_ds2, Md.v_ds3, Md.v_ds4, Md.v_ds5, Md.v_ds6, Md.v_dsg, Md.v_dso, Md.v_dat0, Md.v_datc, Md.v_dco, Md.v_tup, Md.v_lst, Md.v_new, Md.v_lst', Md.v_tup', Md.v_new', Md.v_blR, Md.v_cb, Md.v_cb1, Md.v_cb2, Md.v_slR, Md.v_call, Md.v_cd1, Md.v_cd2, Md.v_ca0, Md.v_ca1, Md.v_ca2, Md.v_ca3, Md.v_ca4, Md.v_ci1, Md.v_ci2, Md.v_ciS, Md.v_ci_0, Md.v_ci_1, Md.v_ci_2, Md.v_io1, Md.v_io2, Md.v_put, Md.v_pu1, Md.v_pu2, Md.v_st1, Md.v_st2, Md.v_st3, Md.v_setE, Md.v_nxO, Md.v_set, Md.v_kset, Md.v_snew, Md.v_knew, Md.v_expr, Md.v_kex, Md.v_ret, Md.v_kret, Md.v_retN, Md.v_nil, Md.v_sif, Md.v_if_t, Md.v_if_f, Md.v_fr, Md.v_freeze, Md.v_la1, Md.v_la2, Md.v_lst_at, Md.v_ixR, Md.v_ixO, Md.v_gix, Md.v_kix, Md.v_leR, Md.v_lenO, Md.v_sput, Md.v_kpu, Md.v_gpu, Md.v_kpv, Md.v_gme, Md.v_kme, Md.v_meth, Md.v_raise, Md.v_ra1, Md.v_ra2, Md.v_par, Md.v_pa, Md.v_pa2, Md.v_tryK, Md.v_tk1, Md.v_tk2', Md.v_run, Md.v_ru1, Md.v_ru2, Md.v_ru3, Md.v_ou0, Md.v_ou1, Md.v_ou2, Md.v_it, Md.v_it1, Md.v_it2, Md.v_r1, Md.v_for, Md.v_kfo, Md.v_m1, Md.v_m1R, Md.v_m1S, Md.v_ifB, Md.v_ifB1, Md.v_ifB0, Md.v_mkD, Md.v_mkX, Md.v_make, Md.v_makeK, Md.v_mkG, Md.v_fldS, Md.v_fsR, Md.v_ins0, Md.v_fsO, Md.v_fld, Md.v_its, Md.v_lc, Md.v_lcR, Md.v_ofNew, Md.v_ofR, Md.v_chain, Md.v_ch1, Md.v_chY, Md.v_ch2t, Md.v_ch2f, Md.v_ch3, Md.v_cut, Md.v_cu1, Md.v_cu2, Md.v_cu3, Md.v_nop, Md.v_part, Md.v_ptR, Md.v_unp, Md.v_unO, Md.v_tgO, Md.v_tgs0, Md.v_tgs, Md.v_tgB, Md.v_ttt, Md.v_tname, Md.v_fg0, Md.v_fgc, Md.v_fg1, Md.v_fgn, Md.v_fgt, Md.v_fgb, Md.v_fgr, Md.v_fgx, Md.v_lc0, Md.v_lcc, Md.v_lc1, Md.v_lc2t, Md.v_lc2f, Md.v_lc3, Md.v_yes, Md.v_wi0, Md.v_wi, Md.v_re0, Md.v_re, Md.v_reS, Md.v_ow0, Md.v_ow, Md.v_oku, Md.v_okd, Md.v_lce, Md.v_lcet, Md.v_callK, Md.v_ckR, Md.v_callN, Md.v_cnd1, Md.v_cnd2, Md.v_cn0, Md.v_cn1, Md.v_cn2, Md.v_cn3, Md.v_emk0, Md.v_aug, Md.v_agS, Md.v_kag, Md.v_agO, Md.v_r2, Md.v_r2R, Md.v_r1n, Md.v_rg0, Md.v_rgs, Md.v_emk, Md.v_mkR1, Md.v_mkR2, Md.v_tkx, Md.v_tkf, Md.v_tkt, Md.v_ttl, Md.v_stf, Md.v_lk0, Md.v_lk, Md.v_lkt, Md.v_lkf, Md.v_pd0, Md.v_pd, Md.v_pdt, Md.v_pdf, Md.v_atc, Md.v_atx, Md.v_eq, Md.v_ne, Md.v_eqs, Md.v_nes, Md.v_inl, Md.v_int, Md.v_nil', Md.v_nit', Md.v_fl0, Md.v_fl1, Md.v_fl2, Md.v_fl3, Md.v_fl4, Md.v_fl5, Md.v_fa0, Md.v_fac, Md.v_q0, Md.v_q1, Md.v_q2, Md.v_q3, Md.v_q4, Md.v_q5, Md.v_q6, Md.v_q7, Md.v_qs0, Md.v_qsc, Md.v_qsn, Md.v_qns, Md.v_i0, Md.v_i1, Md.v_qa, Md.v_qb, Md.v_qc, Md.v_qd, Md.v_qe, Md.v_qf, Md.v_qg, Md.v_qh, Md.v_qi, Md.v_qj, Md.v_qk, Md.v_ql, Md.v_qm, Md.v_qn, Md.v_qo, Md.v_qp, Md.v_qq, Md.v_qr, Md.v_qs, Md.v_qt, Md.v_qu, Md.v_qv, Md.v_qw, Md.v_qx, Md.v_qy, Md.v_qz, Md.v_atI0, Md.v_atI1, Md.v_atI2, Md.v_atI3, Md.v_atI4, Md.v_atI5, Md.v_atI6, Md.v_atI7, Md.v_atI8, Md.v_atI9, Md.v_atI10, Md.v_atI11, Md.v_atI12, Md.v_ixt, Md.v_ixl, Md.v_addi, Md.v_subi, Md.v_gti, Md.v_lti, Md.v_gei, Md.v_lei, Md.v_eqi, Md.v_nei, Md.v_inti, Md.v_intb, Md.v_is, Md.v_isn, Md.v_in0, Md.v_in1, Md.v_in2, Md.v_in3, Md.v_in4, Md.v_in5, Md.v_in6, Md.v_in7, Md.v_lenl, Md.v_lent, Md.v_acat, Md.v_kca, Md.v_kcat, Md.v_lam, Md.v_cap0, Md.v_capc, Md.v_cs1, Md.v_cs2, Md.v_cs3, Md.v_cs4, Md.v_runAsk, Md.v_ask, Md.v_askO, Md.v_askR1, Md.v_askR2, Md.v_lamR1, Md.v_lamR2, Md.v_nf0, Md.v_nf1, Md.v_nf2, Md.v_nf3, Md.v_nf4, Md.v_nf5, Md.v_nfa0, Md.v_nfac, Md.v_nff0, Md.v_nffc, Md.v_apo, Md.v_api, Md.v_ca5, Md.v_ca6, Md.v_ca7, Md.v_ci_3, Md.v_ci_4, Md.v_in8, Md.v_nc0, Md.v_nc1, Md.v_nc2, Md.v_nc3, Md.v_nc4, Md.v_nc5, Md.v_nc6, Md.v_nc7, Md.v_nc8, Md.v_nc9, Md.v_nc10, Md.v_nc11, Md.v_nc12, Md.v_nc13, Md.v_nc14, Md.v_nc15, Md.v_nc16, Md.v_nc17, Md.v_nc18, Md.v_nc19, Md.v_nc20, Md.v_nc21, Md.v_nc22, Md.v_nc23, Md.v_nc24, Md.v_nc25, Md.v_nc26, Md.v_nc27, Md.v_nc28, Md.v_nc29, Md.v_nc30, Md.v_nc31, Md.v_nc32, List.cons_append, List.nil_append, List.replicate_zero, List.replicate_succ, List.getElem?_cons_zero, List.getElem?_cons_succ, List.set_cons_zero, List.set_cons_succ, List.map_nil, List.map_cons, List.append_nil, Bool.not_true, Bool.not_false, Slot.put, List.length_cons, List.length_nil, List.length_append, Nat.reduceAdd, Nat.reduceLT, Nat.reduceLeDiff, Nat.reduceSub, Int.reduceLT, Int.reduceLE, Int.reduceEq, Int.reduceBEq, Int.reduceAdd, Int.reduceSub, Int.reduceMul, Int.reduceNeg, Int.reduceToNat, String.reduceBEq, decide_true, decide_false, Bool.true_and, Bool.false_and, Bool.and_true, Bool.and_false, Bool.true_or, Bool.false_or, Bool.or_true, Bool.or_false, if_true, if_false, ite_true, ite_false, Md.ofStr_beq, Bool.false_eq_true, beq_self_eq_true, reduceIte, Nat.zero_add, reduceCtorEq, ti_int_non, ti_int_bl, ti_int_int, ti_int_str, ti_int_tup, ti_int_lst, ti_int_dk, ti_int_x1, ti_int_x2, ti_bool_non, ti_bool_bl, ti_bool_int, ti_bool_str, ti_bool_tup, ti_bool_lst, ti_bool_dk, ti_bool_x1, ti_bool_x2, ti_list_tuple_non, ti_list_tuple_bl, ti_list_tuple_int, ti_list_tuple_str, ti_list_tuple_tup, ti_list_tuple_lst, ti_list_tuple_dk, ti_list_tuple_x1, ti_list_tuple_x2, ti_BadValue_non, ti_BadValue_bl, ti_BadValue_int, ti_BadValue_str, ti_BadValue_tup, ti_BadValue_lst, ti_BadValue_dk, ti_BadValue_x1, ti_BadValue_x2, ti_BadNumber_non, ti_BadNumber_bl, ti_BadNumber_int, ti_BadNumber_str, ti_BadNumber_tup, ti_BadNumber_lst, ti_BadNumber_dk, ti_BadNumber_x1, ti_BadNumber_x2, ta_part_x1, ta_part_x2, tx_RulesError_1, tx_RulesError_2, f6, k1, k2, rf_v, rp]
    obtain ⟨t5, t6, hx, g5, g6⟩ := rf_loop q0 p q odd wr ds (.dat d) (.dat (.lst [.tup [.str (Str.ofString "value"), .str (Str.ofString "share")], .tup [.str (Str.ofString "value"), .str (Str.ofString "share")]])) (fun x hx => hb x (.tail _ hx)) rfl rfl
    refine ⟨t5, t6, ?_, g5, g6⟩
    simp only [RfE] at body hx ⊢
    simp only [Md.v_seq, Md.v_nx, Md.v_rt, Md.v_bk, Md.v_ct, Md.v_ex, Md.v_ok, Md.v_bx, Md.v_to, Md.v_tx, Md.v_oR, Md.v_sR, Md.v_var, Md.v_k, Md.v_op2, Md.v_k2, Md.v_k3, Md.v_op1, Md.v_k1, Md.v_bR, Md.v_bool, Md.v_not, Md.v_knot, Md.v_and, Md.v_and1, Md.v_and0, Md.v_or, Md.v_or1, Md.v_or0, Md.v_nR, Md.v_notV, Md.v_aR1, Md.v_aR0, Md.v_andV, Md.v_orR1, Md.v_orR0, Md.v_orV, Md.v_if, Md.v_if1, Md.v_if0, Md.v_anil, Md.v_acons, Md.v_kac, Md.v_kad, Md.v_ob1, Md.v_ob2, Md.v_aobj, Md.v_ds0, Md.v_ds1, Md.v_ds2, Md.v_ds3, Md.v_ds4, Md.v_ds5, Md.v_ds6, Md.v_dsg, Md.v_dso, Md.v_dat0, Md.v_datc, Md.v_dco, Md.v_tup, Md.v_lst, Md.v_new, Md.v_lst', Md.v_tup', Md.v_new', Md.v_blR, Md.v_cb, Md.v_cb1, Md.v_cb2, Md.v_slR, Md.v_call, Md.v_cd1, Md.v_cd2, Md.v_ca0, Md.v_ca1, Md.v_ca2, Md.v_ca3, Md.v_ca4, Md.v_ci1, Md.v_ci2, Md.v_ciS, Md.v_ci_0, Md.v_ci_1, Md.v_ci_2, Md.v_io1, Md.v_io2, Md.v_put, Md.v_pu1, Md.v_pu2, Md.v_st1, Md.v_st2, Md.v_st3, Md.v_setE, Md.v_nxO, Md.v_set, Md.v_kset, Md.v_snew, Md.v_knew, Md.v_expr, Md.v_kex, Md.v_ret, Md.v_kret, Md.v_retN, Md.v_nil, Md.v_sif, Md.v_if_t, Md.v_if_f, Md.v_fr, Md.v_freeze, Md.v_la1, Md.v_la2, Md.v_lst_at, Md.v_ixR, Md.v_ixO, Md.v_gix, Md.v_kix, Md.v_leR, Md.v_lenO, Md.v_sput, Md.v_kpu, Md.v_gpu, Md.v_kpv, Md.v_gme, Md.v_kme, Md.v_meth, Md.v_raise, Md.v_ra1, Md.v_ra2, Md.v_par, Md.v_pa, Md.v_pa2, Md.v_tryK, Md.v_tk1, Md.v_tk2', Md.v_run, Md.v_ru1, Md.v_ru2, Md.v_ru3, Md.v_ou0, Md.v_ou1, Md.v_ou2, Md.v_it, Md.v_it1, Md.v_it2, Md.v_r1, Md.v_for, Md.v_kfo, Md.v_m1, Md.v_m1R, Md.v_m1S, Md.v_ifB, Md.v_ifB1, Md.v_ifB0, Md.v_mkD, Md.v_mkX, Md.v_make, Md.v_makeK, Md.v_mkG, Md.v_fldS, Md.v_fsR, Md.v_ins0, Md.v_fsO, Md.v_fld, Md.v_its, Md.v_lc, Md.v_lcR, Md.v_ofNew, Md.v_ofR, Md.v_chain, Md.v_ch1, Md.v_chY, Md.v_ch2t, Md.v_ch2f, Md.v_ch3, Md.v_cut, Md.v_cu1, Md.v_cu2, Md.v_cu3, Md.v_nop, Md.v_part, Md.v_ptR, Md.v_unp, Md.v_unO, Md.v_tgO, Md.v_tgs0, Md.v_tgs, Md.v_tgB, Md.v_ttt, Md.v_tname, Md.v_fg0, Md.v_fgc, Md.v_fg1, Md.v_fgn, Md.v_fgt, Md.v_fgb, Md.v_fgr, Md.v_fgx, Md.v_lc0, Md.v_lcc, Md.v_lc1, Md.v_lc2t, Md.v_lc2f, Md.v_lc3, Md.v_yes, Md.v_wi0, Md.v_wi, Md.v_re0, Md.v_re, Md.v_reS, Md.v_ow0, Md.v_ow, Md.v_oku, Md.v_okd, Md.v_lce, Md.v_lcet, Md.v_callK, Md.v_ckR, Md.v_callN, Md.v_cnd1, Md.v_cnd2, Md.v_cn0, Md.v_cn1, Md.v_cn2, Md.v_cn3, Md.v_emk0, Md.v_aug, Md.v_agS, Md.v_kag, Md.v_agO, Md.v_r2, Md.v_r2R, Md.v_r1n, Md.v_rg0, Md.v_rgs, Md.v_emk, Md.v_mkR1, Md.v_mkR2, Md.v_tkx, Md.v_tkf, Md.v_tkt, Md.v_ttl, Md.v_stf, Md.v_lk0, Md.v_lk, Md.v_lkt, Md.v_lkf, Md.v_pd0, Md.v_pd, Md.v_pdt, Md.v_pdf, Md.v_atc, Md.v_atx, Md.v_eq, Md.v_ne, Md.v_eqs, Md.v_nes, Md.v_inl, Md.v_int, Md.v_nil', Md.v_nit', Md.v_fl0, Md.v_fl1, Md.v_fl2, Md.v_fl3, Md.v_fl4, Md.v_fl5, Md.v_fa0, Md.v_fac, Md.v_q0, Md.v_q1, Md.v_q2, Md.v_q3, Md.v_q4, Md.v_q5, Md.v_q6, Md.v_q7, Md.v_qs0, Md.v_qsc, Md.v_qsn, Md.v_qns, Md.v_i0, Md.v_i1, Md.v_qa, Md.v_qb, Md.v_qc, Md.v_qd, Md.v_qe, Md.v_qf, Md.v_qg, Md.v_qh, Md.v_qi, Md.v_qj, Md.v_qk, Md.v_ql, Md.v_qm, Md.v_qn, Md.v_qo, Md.v_qp, Md.v_qq, Md.v_qr, Md.v_qs, Md.v_qt, Md.v_qu, Md.v_qv, Md.v_qw, Md.v_qx, Md.v_qy, Md.v_qz, Md.v_atI0, Md.v_atI1, Md.v_atI2, Md.v_atI3, Md.v_atI4, Md.v_atI5, Md.v_atI6, Md.v_atI7, Md.v_atI8, Md.v_atI9, Md.v_atI10, Md.v_atI11, Md.v_atI12, Md.v_ixt, Md.v_ixl, Md.v_addi, Md.v_subi, Md.v_gti, Md.v_lti, Md.v_gei, Md.v_lei, Md.v_eqi, Md.v_nei, Md.v_inti, Md.v_intb, Md.v_is, Md.v_isn, Md.v_in0, Md.v_in1, Md.v_in2, Md.v_in3, Md.v_in4, Md.v_in5, Md.v_in6, Md.v_in7, Md.v_lenl, Md.v_lent, Md.v_acat, Md.v_kca, Md.v_kcat, Md.v_lam, Md.v_cap0, Md.v_capc, Md.v_cs1, Md.v_cs2, Md.v_cs3, Md.v_cs4, Md.v_runAsk, Md.v_ask, Md.v_askO, Md.v_askR1, Md.v_askR2, Md.v_lamR1, Md.v_lamR2, Md.v_nf0, Md.v_nf1, Md.v_nf2, Md.v_nf3, Md.v_nf4, Md.v_nf5, Md.v_nfa0, Md.v_nfac, Md.v_nff0, Md.v_nffc, Md.v_apo, Md.v_api, Md.v_ca5, Md.v_ca6, Md.v_ca7, Md.v_ci_3, Md.v_ci_4, Md.v_in8, Md.v_nc0, Md.v_nc1, Md.v_nc2, Md.v_nc3, Md.v_nc4, Md.v_nc5, Md.v_nc6, Md.v_nc7, Md.v_nc8, Md.v_nc9, Md.v_nc10, Md.v_nc11, Md.v_nc12, Md.v_nc13, Md.v_nc14, Md.v_nc15, Md.v_nc16, Md.v_nc17, Md.v_nc18, Md.v_nc19, Md.v_nc20, Md.v_nc21, Md.v_nc22, Md.v_nc23, Md.v_nc24, Md.v_nc25, Md.v_nc26, Md.v_nc27, Md.v_nc28, Md.v_nc29, Md.v_nc30, Md.v_nc31, Md.v_nc32, List.cons_append, List.nil_append, List.replicate_zero, List.replicate_succ, List.getElem?_cons_zero, List.getElem?_cons_succ, List.set_cons_zero, List.set_cons_succ, List.map_nil, List.map_cons, List.append_nil, Bool.not_true, Bool.not_false, Slot.put, List.length_cons, List.length_nil, List.length_append, Nat.reduceAdd, Nat.reduceLT, Nat.reduceLeDiff, Nat.reduceSub, Int.reduceLT, Int.reduceLE, Int.reduceEq, Int.reduceBEq, Int.reduceAdd, Int.reduceSub, Int.reduceMul, Int.reduceNeg, Int.reduceToNat, String.reduceBEq, decide_true, decide_false, Bool.true_and, Bool.false_and, Bool.and_true, Bool.and_false, Bool.true_or, Bool.false_or, Bool.or_true, Bool.or_false, if_true, if_false, ite_true, ite_false, Md.ofStr_beq, Bool.false_eq_true, beq_self_eq_true, reduceIte, Nat.zero_add, reduceCtorEq, ti_int_non, ti_int_bl, ti_int_int, ti_int_str, ti_int_tup, ti_int_lst, ti_int_dk, ti_int_x1, ti_int_x2, ti_bool_non, ti_bool_bl, ti_bool_int, ti_bool_str, ti_bool_tup, ti_bool_lst, ti_bool_dk, ti_bool_x1, ti_bool_x2, ti_list_tuple_non, ti_list_tuple_bl, ti_list_tuple_int, ti_list_tuple_str, ti_list_tuple_tup, ti_list_tuple_lst, ti_list_tuple_dk, ti_list_tuple_x1, ti_list_tuple_x2, ti_BadValue_non, ti_BadValue_bl, ti_BadValue_int, ti_BadValue_str, ti_BadValue_tup, ti_BadValue_lst, ti_BadValue_dk, ti_BadValue_x1, ti_BadValue_x2, ti_BadNumber_non, ti_BadNumber_bl, ti_BadNumber_int, ti_BadNumber_str, ti_BadNumber_tup, ti_BadNumber_lst, ti_BadNumber_dk, ti_BadNumber_x1, ti_BadNumber_x2, ta_part_x1, ta_part_x2, tx_RulesError_1, tx_RulesError_2, f5, body, hx]
end Lw

namespace Lw
open PySem PySem.Spec PyProof.Rows L2 Md
def oddL : List D := [.non, .int (-1), .bl true, .str "5", .tup [.int 5], .lst [.int 5], .bl false]
theorem odd_n {d : D} (h : d ∈ oddL) : ∃ e, sem_need_integer [.dat (.str (Str.ofString "theirs")), .dat d, .dat (.int 0), .dat .non] = .ex 2 [("part", .str (Str.ofString "theirs"))] e := by
  simp only [oddL, List.mem_cons, List.not_mem_nil, or_false] at h
  rcases h with rfl | rfl | rfl | rfl | rfl | rfl | rfl <;> (simp only [sem_need_integer, b_need_integer, b_need_integer_i1, b_need_integer_i2, b_need_integer_s1, b_need_integer_s2, sem_is_integer, b_is_integer, Md.v_seq, Md.v_nx, Md.v_rt, Md.v_bk, Md.v_ct, Md.v_ex, Md.v_ok, Md.v_bx, Md.v_to, Md.v_tx, Md.v_oR, Md.v_sR, Md.v_var, Md.v_k, Md.v_op2, Md.v_k2, Md.v_k3, Md.v_op1, Md.v_k1, Md.v_bR, Md.v_bool, Md.v_not, Md.v_knot, Md.v_and, Md.v_and1, Md.v_and0, Md.v_or, Md.v_or1, Md.v_or0, Md.v_nR, Md.v_notV, Md.v_aR1, Md.v_aR0, Md.v_andV, Md.v_orR1, Md.v_orR0, Md.v_orV, Md.v_if, Md.v_if1, Md.v_if0, Md.v_anil, Md.v_acons, Md.v_kac, Md.v_kad, Md.v_ob1, Md.v_ob2, Md.v_aobj, Md.v_ds0, Md.v_ds1, Md.v_ds2, Md.v_ds3, Md.v_ds4, Md.v_ds5, Md.v_ds6, Md.v_dsg, Md.v_dso, Md.v_dat0, Md.v_datc, Md.v_dco, Md.v_tup, Md.v_lst, Md.v_new, Md.v_lst', Md.v_tup', Md.v_new', Md.v_blR, Md.v_cb, Md.v_cb1, Md.v_cb2, Md.v_slR, Md.v_call, Md.v_cd1, Md.v_cd2, Md.v_ca0, Md.v_ca1, Md.v_ca2, Md.v_ca3, Md.v_ca4, Md.v_ci1, Md.v_ci2, Md.v_ciS, Md.v_ci_0, Md.v_ci_1, Md.v_ci_2, Md.v_io1, Md.v_io2, Md.v_put, Md.v_pu1, Md.v_pu2, Md.v_st1, Md.v_st2, Md.v_st3, Md.v_setE, Md.v_nxO, Md.v_set, Md.v_kset, Md.v_snew, Md.v_knew, Md.v_expr, Md.v_kex, Md.v_ret, Md.v_kret, Md.v_retN, Md.v_nil, Md.v_sif, Md.v_if_t, Md.v_if_f, Md.v_fr, Md.v_freeze, Md.v_la1, Md.v_la2, Md.v_lst_at, Md.v_ixR, Md.v_ixO, Md.v_gix, Md.v_kix, Md.v_leR, Md.v_lenO, Md.v_sput, Md.v_kpu, Md.v_gpu, Md.v_kpv, Md.v_gme, Md.v_kme, Md.v_meth, Md.v_raise, Md.v_ra1, Md.v_ra2, Md.v_par, Md.v_pa, Md.v_pa2, Md.v_tryK, Md.v_tk1, Md.v_tk2', Md.v_run, Md.v_ru1, Md.v_ru2, Md.v_ru3, Md.v_ou0, Md.v_ou1, Md.v_ou2, Md.v_it, Md.v_it1, Md.v_it2, Md.v_r1, Md.v_for, Md.v_kfo, Md.v_m1, Md.v_m1R, Md.v_m1S, Md.v_ifB, Md.v_ifB1, Md.v_ifB0, Md.v_mkD, Md.v_mkX, Md.v_make, Md.v_makeK, Md.v_mkG, Md.v_fldS, Md.v_fsR, Md.v_ins0, Md.v_fsO, Md.v_fld, Md.v_its, Md.v_lc, Md.v_lcR, Md.v_ofNew, Md.v_ofR, Md.v_chain, Md.v_ch1, Md.v_chY, Md.v_ch2t, Md.v_ch2f, Md.v_ch3, Md.v_cut, Md.v_cu1, Md.v_cu2, Md.v_cu3, Md.v_nop, Md.v_part, Md.v_ptR, Md.v_unp, Md.v_unO, Md.v_tgO, Md.v_tgs0, Md.v_tgs, Md.v_tgB, Md.v_ttt, Md.v_tname, Md.v_fg0, Md.v_fgc, Md.v_fg1, Md.v_fgn, Md.v_fgt, Md.v_fgb, Md.v_fgr, Md.v_fgx, Md.v_lc0, Md.v_lcc, Md.v_lc1, Md.v_lc2t, Md.v_lc2f, Md.v_lc3, Md.v_yes, Md.v_wi0, Md.v_wi, Md.v_re0, Md.v_re, Md.v_reS, Md.v_ow0, Md.v_ow, Md.v_oku, Md.v_okd, Md.v_lce, Md.v_lcet, Md.v_callK, Md.v_ckR, Md.v_callN, Md.v_cnd1, Md.v_cnd2, Md.v_cn0, Md.v_cn1, Md.v_cn2, Md.v_cn3, Md.v_emk0, Md.v_aug, Md.v_agS, Md.v_kag, Md.v_agO, Md.v_r2, Md.v_r2R, Md.v_r1n, Md.v_rg0, Md.v_rgs, Md.v_emk, Md.v_mkR1, Md.v_mkR2, Md.v_tkx, Md.v_tkf, Md.v_tkt, Md.v_ttl, Md.v_stf, Md.v_lk0, Md.v_lk, Md.v_lkt, Md.v_lkf, Md.v_pd0, Md.v_pd, Md.v_pdt, Md.v_pdf, Md.v_atc, Md.v_atx, Md.v_eq, Md.v_ne, Md.v_eqs, Md.v_nes, Md.v_inl, Md.v_int, Md.v_nil', Md.v_nit', Md.v_fl0, Md.v_fl1, Md.v_fl2, Md.v_fl3, Md.v_fl4, Md.v_fl5, Md.v_fa0, Md.v_fac, Md.v_q0, Md.v_q1, Md.v_q2, Md.v_q3, Md.v_q4, Md.v_q5, Md.v_q6, Md.v_q7, Md.v_qs0, Md.v_qsc, Md.v_qsn, Md.v_qns, Md.v_i0, Md.v_i1, Md.v_qa, Md.v_qb, Md.v_qc, Md.v_qd, Md.v_qe, Md.v_qf, Md.v_qg, Md.v_qh, Md.v_qi, Md.v_qj, Md.v_qk, Md.v_ql, Md.v_qm, Md.v_qn, Md.v_qo, Md.v_qp, Md.v_qq, Md.v_qr, Md.v_qs, Md.v_qt, Md.v_qu, Md.v_qv, Md.v_qw, Md.v_qx, Md.v_qy, Md.v_qz, Md.v_atI0, Md.v_atI1, Md.v_atI2, Md.v_atI3, Md.v_atI4, Md.v_atI5, Md.v_atI6, Md.v_atI7, Md.v_atI8, Md.v_atI9, Md.v_atI10, Md.v_atI11, Md.v_atI12, Md.v_ixt, Md.v_ixl, Md.v_addi, Md.v_subi, Md.v_gti, Md.v_lti, Md.v_gei, Md.v_lei, Md.v_eqi, Md.v_nei, Md.v_inti, Md.v_intb, Md.v_is, Md.v_isn, Md.v_in0, Md.v_in1, Md.v_in2, Md.v_in3, Md.v_in4, Md.v_in5, Md.v_in6, Md.v_in7, Md.v_lenl, Md.v_lent, Md.v_acat, Md.v_kca, Md.v_kcat, Md.v_lam, Md.v_cap0, Md.v_capc, Md.v_cs1, Md.v_cs2, Md.v_cs3, Md.v_cs4, Md.v_runAsk, Md.v_ask, Md.v_askO, Md.v_askR1, Md.v_askR2, Md.v_lamR1, Md.v_lamR2, Md.v_nf0, Md.v_nf1, Md.v_nf2, Md.v_nf3, Md.v_nf4, Md.v_nf5, Md.v_nfa0, Md.v_nfac, Md.v_nff0, Md.v_nffc, Md.v_apo, Md.v_api, Md.v_ca5, Md.v_ca6, Md.v_ca7, Md.v_ci_3, Md.v_ci_4, Md.v_in8, Md.v_nc0, Md.v_nc1, Md.v_nc2, Md.v_nc3, Md.v_nc4, Md.v_nc5, Md.v_nc6, Md.v_nc7, Md.v_nc8, Md.v_nc9, Md.v_nc10, Md.v_nc11, Md.v_nc12, Md.v_nc13, Md.v_nc14, Md.v_nc15, Md.v_nc16, Md.v_nc17, Md.v_nc18, Md.v_nc19, Md.v_nc20, Md.v_nc21, Md.v_nc22, Md.v_nc23, Md.v_nc24, Md.v_nc25, Md.v_nc26, Md.v_nc27, Md.v_nc28, Md.v_nc29, Md.v_nc30, Md.v_nc31, Md.v_nc32, List.cons_append, List.nil_append, List.replicate_zero, List.replicate_succ, List.getElem?_cons_zero, List.getElem?_cons_succ, List.set_cons_zero, List.set_cons_succ, List.map_nil, List.map_cons, List.append_nil, Bool.not_true, Bool.not_false, Slot.put, List.length_cons, List.length_nil, List.length_append, Nat.reduceAdd, Nat.reduceLT, Nat.reduceLeDiff, Nat.reduceSub, Int.reduceLT, Int.reduceLE, Int.reduceEq, Int.reduceBEq, Int.reduceAdd, Int.reduceSub, Int.reduceMul, Int.reduceNeg, Int.reduceToNat, String.reduceBEq, decide_true, decide_false, Bool.true_and, Bool.false_and, Bool.and_true, Bool.and_false, Bool.true_or, Bool.false_or, Bool.or_true, Bool.or_false, if_true, if_false, ite_true, ite_false, Md.ofStr_beq, Bool.false_eq_true, beq_self_eq_true, reduceIte, Nat.zero_add, reduceCtorEq, ti_int_non, ti_int_bl, ti_int_int, ti_int_str, ti_int_tup, ti_int_lst, ti_int_dk, ti_int_x1, ti_int_x2, ti_bool_non, ti_bool_bl, ti_bool_int, ti_bool_str, ti_bool_tup, ti_bool_lst, ti_bool_dk, ti_bool_x1, ti_bool_x2, ti_list_tuple_non, ti_list_tuple_bl, ti_list_tuple_int, ti_list_tuple_str, ti_list_tuple_tup, ti_list_tuple_lst, ti_list_tuple_dk, ti_list_tuple_x1, ti_list_tuple_x2, ti_BadValue_non, ti_BadValue_bl, ti_BadValue_int, ti_BadValue_str, ti_BadValue_tup, ti_BadValue_lst, ti_BadValue_dk, ti_BadValue_x1, ti_BadValue_x2, ti_BadNumber_non, ti_BadNumber_bl, ti_BadNumber_int, ti_BadNumber_str, ti_BadNumber_tup, ti_BadNumber_lst, ti_BadNumber_dk, ti_BadNumber_x1, ti_BadNumber_x2, ta_part_x1, ta_part_x2, tx_RulesError_1, tx_RulesError_2]; exact ⟨_, rfl⟩)
theorem refused_right {n : Int} {q0 : OO} (h : PenQ n q0) (hn : n < 900000) (p q : Int) (h0 : 0 ≤ p) (h1 : p ≤ q) (h2 : 1 ≤ q) :
    ∃ q', sem__law_refused_right [.io q0, .dat (.int p), .dat (.int q)] = .ok (.bl true) [.io q', .dat (.int p), .dat (.int q)] ∧ PenQ (n + 1) q' := by
  obtain ⟨odd, q1, e1, ho, a1⟩ := pick h oddL (by simp [oddL]) (by simp [oddL]) (by omega)
  obtain ⟨e, e2⟩ := odd_n ho
  obtain ⟨t5, t6, e3, f5, f6⟩ := rf_loop q1 p q odd (.lst (wrong1 p q ++ wrong2 p q)) (wrong1 p q ++ wrong2 p q) .unk .unk (all_bad p q h0 h1 h2) rfl rfl
  have ad : dAdd (.lst (wrong1 p q)) (.lst (wrong2 p q)) = some (.lst (wrong1 p q ++ wrong2 p q)) := rfl
  have sh := (share_t p q false h0 h1 h2 (by simp)).1
  have t3 : sem_members_for [.dat (.tup [.int p, .int q, .bl false]), .dat odd] = .ex 2 [("part", .str (Str.ofString "theirs"))] [.dat (.tup [.int p, .int q, .bl false]), .dat odd] := by
    simp only [sem_members_for, b_members_for, b_members_for_i1, b_members_for_s1, b_members_for_s2, Md.v_seq, Md.v_nx, Md.v_rt, Md.v_bk, Md.v_ct, Md.v_ex, Md.v_ok, Md.v_bx, Md.v_to, Md.v_tx, Md.v_oR, Md.v_sR, Md.v_var, Md.v_k, Md.v_op2, Md.v_k2, Md.v_k3, Md.v_op1, Md.v_k1, Md.v_bR, Md.v_bool, Md.v_not, Md.v_knot, Md.v_and, Md.v_and1, Md.v_and0, Md.v_or, Md.v_or1, Md.v_or0, Md.v_nR, Md.v_notV, Md.v_aR1, Md.v_aR0, Md.v_andV, Md.v_orR1, Md.v_orR0, Md.v_orV, Md.v_if, Md.v_if1, Md.v_if0, Md.v_anil, Md.v_acons, Md.v_kac, Md.v_kad, Md.v_ob1, Md.v_ob2, Md.v_aobj, Md.v_ds0, Md.v_ds1, Md.v_ds2, Md.v_ds3, Md.v_ds4, Md.v_ds5, Md.v_ds6, Md.v_dsg, Md.v_dso, Md.v_dat0, Md.v_datc, Md.v_dco, Md.v_tup, Md.v_lst, Md.v_new, Md.v_lst', Md.v_tup', Md.v_new', Md.v_blR, Md.v_cb, Md.v_cb1, Md.v_cb2, Md.v_slR, Md.v_call, Md.v_cd1, Md.v_cd2, Md.v_ca0, Md.v_ca1, Md.v_ca2, Md.v_ca3, Md.v_ca4, Md.v_ci1, Md.v_ci2, Md.v_ciS, Md.v_ci_0, Md.v_ci_1, Md.v_ci_2, Md.v_io1, Md.v_io2, Md.v_put, Md.v_pu1, Md.v_pu2, Md.v_st1, Md.v_st2, Md.v_st3, Md.v_setE, Md.v_nxO, Md.v_set, Md.v_kset, Md.v_snew, Md.v_knew, Md.v_expr, Md.v_kex, Md.v_ret, Md.v_kret, Md.v_retN, Md.v_nil, Md.v_sif, Md.v_if_t, Md.v_if_f, Md.v_fr, Md.v_freeze, Md.v_la1, Md.v_la2, Md.v_lst_at, Md.v_ixR, Md.v_ixO, Md.v_gix, Md.v_kix, Md.v_leR, Md.v_lenO, Md.v_sput, Md.v_kpu, Md.v_gpu, Md.v_kpv, Md.v_gme, Md.v_kme, Md.v_meth, Md.v_raise, Md.v_ra1, Md.v_ra2, Md.v_par, Md.v_pa, Md.v_pa2, Md.v_tryK, Md.v_tk1, Md.v_tk2', Md.v_run, Md.v_ru1, Md.v_ru2, Md.v_ru3, Md.v_ou0, Md.v_ou1, Md.v_ou2, Md.v_it, Md.v_it1, Md.v_it2, Md.v_r1, Md.v_for, Md.v_kfo, Md.v_m1, Md.v_m1R, Md.v_m1S, Md.v_ifB, Md.v_ifB1, Md.v_ifB0, Md.v_mkD, Md.v_mkX, Md.v_make, Md.v_makeK, Md.v_mkG, Md.v_fldS, Md.v_fsR, Md.v_ins0, Md.v_fsO, Md.v_fld, Md.v_its, Md.v_lc, Md.v_lcR, Md.v_ofNew, Md.v_ofR, Md.v_chain, Md.v_ch1, Md.v_chY, Md.v_ch2t, Md.v_ch2f, Md.v_ch3, Md.v_cut, Md.v_cu1, Md.v_cu2, Md.v_cu3, Md.v_nop, Md.v_part, Md.v_ptR, Md.v_unp, Md.v_unO, Md.v_tgO, Md.v_tgs0, Md.v_tgs, Md.v_tgB, Md.v_ttt, Md.v_tname, Md.v_fg0, Md.v_fgc, Md.v_fg1, Md.v_fgn, Md.v_fgt, Md.v_fgb, Md.v_fgr, Md.v_fgx, Md.v_lc0, Md.v_lcc, Md.v_lc1, Md.v_lc2t, Md.v_lc2f, Md.v_lc3, Md.v_yes, Md.v_wi0, Md.v_wi, Md.v_re0, Md.v_re, Md.v_reS, Md.v_ow0, Md.v_ow, Md.v_oku, Md.v_okd, Md.v_lce, Md.v_lcet, Md.v_callK, Md.v_ckR, Md.v_callN, Md.v_cnd1, Md.v_cnd2, Md.v_cn0, Md.v_cn1, Md.v_cn2, Md.v_cn3, Md.v_emk0, Md.v_aug, Md.v_agS, Md.v_kag, Md.v_agO, Md.v_r2, Md.v_r2R, Md.v_r1n, Md.v_rg0, Md.v_rgs, Md.v_emk, Md.v_mkR1, Md.v_mkR2, Md.v_tkx, Md.v_tkf, Md.v_tkt, Md.v_ttl, Md.v_stf, Md.v_lk0, Md.v_lk, Md.v_lkt, Md.v_lkf, Md.v_pd0, Md.v_pd, Md.v_pdt, Md.v_pdf, Md.v_atc, Md.v_atx, Md.v_eq, Md.v_ne, Md.v_eqs, Md.v_nes, Md.v_inl, Md.v_int, Md.v_nil', Md.v_nit', Md.v_fl0, Md.v_fl1, Md.v_fl2, Md.v_fl3, Md.v_fl4, Md.v_fl5, Md.v_fa0, Md.v_fac, Md.v_q0, Md.v_q1, Md.v_q2, Md.v_q3, Md.v_q4, Md.v_q5, Md.v_q6, Md.v_q7, Md.v_qs0, Md.v_qsc, Md.v_qsn, Md.v_qns, Md.v_i0, Md.v_i1, Md.v_qa, Md.v_qb, Md.v_qc, Md.v_qd, Md.v_qe, Md.v_qf, Md.v_qg, Md.v_qh, Md.v_qi, Md.v_qj, Md.v_qk, Md.v_ql, Md.v_qm, Md.v_qn, Md.v_qo, Md.v_qp, Md.v_qq, Md.v_qr, Md.v_qs, Md.v_qt, Md.v_qu, Md.v_qv, Md.v_qw, Md.v_qx, Md.v_qy, Md.v_qz, Md.v_atI0, Md.v_atI1, Md.v_atI2, Md.v_atI3, Md.v_atI4, Md.v_atI5, Md.v_atI6, Md.v_atI7, Md.v_atI8, Md.v_atI9, Md.v_atI10, Md.v_atI11, Md.v_atI12, Md.v_ixt, Md.v_ixl, Md.v_addi, Md.v_subi, Md.v_gti, Md.v_lti, Md.v_gei, Md.v_lei, Md.v_eqi, Md.v_nei, Md.v_inti, Md.v_intb, Md.v_is, Md.v_isn, Md.v_in0, Md.v_in1, Md.v_in2, Md.v_in3, Md.v_in4, Md.v_in5, Md.v_in6, Md.v_in7, Md.v_lenl, Md.v_lent, Md.v_acat, Md.v_kca, Md.v_kcat, Md.v_lam, Md.v_cap0, Md.v_capc, Md.v_cs1, Md.v_cs2, Md.v_cs3, Md.v_cs4, Md.v_runAsk, Md.v_ask, Md.v_askO, Md.v_askR1, Md.v_askR2, Md.v_lamR1, Md.v_lamR2, Md.v_nf0, Md.v_nf1, Md.v_nf2, Md.v_nf3, Md.v_nf4, Md.v_nf5, Md.v_nfa0, Md.v_nfac, Md.v_nff0, Md.v_nffc, Md.v_apo, Md.v_api, Md.v_ca5, Md.v_ca6, Md.v_ca7, Md.v_ci_3, Md.v_ci_4, Md.v_in8, Md.v_nc0, Md.v_nc1, Md.v_nc2, Md.v_nc3, Md.v_nc4, Md.v_nc5, Md.v_nc6, Md.v_nc7, Md.v_nc8, Md.v_nc9, Md.v_nc10, Md.v_nc11, Md.v_nc12, Md.v_nc13, Md.v_nc14, Md.v_nc15, Md.v_nc16, Md.v_nc17, Md.v_nc18, Md.v_nc19, Md.v_nc20, Md.v_nc21, Md.v_nc22, Md.v_nc23, Md.v_nc24, Md.v_nc25, Md.v_nc26, Md.v_nc27, Md.v_nc28, Md.v_nc29, Md.v_nc30, Md.v_nc31, Md.v_nc32, List.cons_append, List.nil_append, List.replicate_zero, List.replicate_succ, List.getElem?_cons_zero, List.getElem?_cons_succ, List.set_cons_zero, List.set_cons_succ, List.map_nil, List.map_cons, List.append_nil, Bool.not_true, Bool.not_false, Slot.put, List.length_cons, List.length_nil, List.length_append, Nat.reduceAdd, Nat.reduceLT, Nat.reduceLeDiff, Nat.reduceSub, Int.reduceLT, Int.reduceLE, Int.reduceEq, Int.reduceBEq, Int.reduceAdd, Int.reduceSub, Int.reduceMul, Int.reduceNeg, Int.reduceToNat, String.reduceBEq, decide_true, decide_false, Bool.true_and, Bool.false_and, Bool.and_true, Bool.and_false, Bool.true_or, Bool.false_or, Bool.or_true, Bool.or_false, if_true, if_false, ite_true, ite_false, Md.ofStr_beq, Bool.false_eq_true, beq_self_eq_true, reduceIte, Nat.zero_add, reduceCtorEq, ti_int_non, ti_int_bl, ti_int_int, ti_int_str, ti_int_tup, ti_int_lst, ti_int_dk, ti_int_x1, ti_int_x2, ti_bool_non, ti_bool_bl, ti_bool_int, ti_bool_str, ti_bool_tup, ti_bool_lst, ti_bool_dk, ti_bool_x1, ti_bool_x2, ti_list_tuple_non, ti_list_tuple_bl, ti_list_tuple_int, ti_list_tuple_str, ti_list_tuple_tup, ti_list_tuple_lst, ti_list_tuple_dk, ti_list_tuple_x1, ti_list_tuple_x2, ti_BadValue_non, ti_BadValue_bl, ti_BadValue_int, ti_BadValue_str, ti_BadValue_tup, ti_BadValue_lst, ti_BadValue_dk, ti_BadValue_x1, ti_BadValue_x2, ti_BadNumber_non, ti_BadNumber_bl, ti_BadNumber_int, ti_BadNumber_str, ti_BadNumber_tup, ti_BadNumber_lst, ti_BadNumber_dk, ti_BadNumber_x1, ti_BadNumber_x2, ta_part_x1, ta_part_x2, tx_RulesError_1, tx_RulesError_2, sh, e2]
  refine ⟨q1, ?_, a1⟩
  simp only [oddL] at e1
  have n1 : (-1 : Int) = -1 := rfl
  simp only [wrong1, wrong2, RfE, List.cons_append, List.nil_append] at e3 ad
  simp only [sem__law_refused_right, b__law_refused_right, b__law_refused_right_s6, b__law_refused_right_s5, b__law_refused_right_s4, b__law_refused_right_s3, perm_0, Md.v_seq, Md.v_nx, Md.v_rt, Md.v_bk, Md.v_ct, Md.v_ex, Md.v_ok, Md.v_bx, Md.v_to, Md.v_tx, Md.v_oR, Md.v_sR, Md.v_var, Md.v_k, Md.v_op2, Md.v_k2, Md.v_k3, Md.v_op1, Md.v_k1, Md.v_bR, Md.v_bool, Md.v_not, Md.v_knot, Md.v_and, Md.v_and1, Md.v_and0, Md.v_or, Md.v_or1, Md.v_or0, Md.v_nR, Md.v_notV, Md.v_aR1, Md.v_aR0, Md.v_andV, Md.v_orR1, Md.v_orR0, Md.v_orV, Md.v_if, Md.v_if1, Md.v_if0, Md.v_anil, Md.v_acons, Md.v_kac, Md.v_kad, Md.v_ob1, Md.v_ob2, Md.v_aobj, Md.v_ds0, Md.v_ds1, Md.v_ds2, Md.v_ds3, Md.v_ds4, Md.v_ds5, Md.v_ds6, Md.v_dsg, Md.v_dso, Md.v_dat0, Md.v_datc, Md.v_dco, Md.v_tup, Md.v_lst, Md.v_new, Md.v_lst', Md.v_tup', Md.v_new', Md.v_blR, Md.v_cb, Md.v_cb1, Md.v_cb2, Md.v_slR, Md.v_call, Md.v_cd1, Md.v_cd2, Md.v_ca0, Md.v_ca1, Md.v_ca2, Md.v_ca3, Md.v_ca4, Md.v_ci1, Md.v_ci2, Md.v_ciS, Md.v_ci_0, Md.v_ci_1, Md.v_ci_2, Md.v_io1, Md.v_io2, Md.v_put, Md.v_pu1, Md.v_pu2, Md.v_st1, Md.v_st2, Md.v_st3, Md.v_setE, Md.v_nxO, Md.v_set, Md.v_kset, Md.v_snew, Md.v_knew, Md.v_expr, Md.v_kex, Md.v_ret, Md.v_kret, Md.v_retN, Md.v_nil, Md.v_sif, Md.v_if_t, Md.v_if_f, Md.v_fr, Md.v_freeze, Md.v_la1, Md.v_la2, Md.v_lst_at, Md.v_ixR, Md.v_ixO, Md.v_gix, Md.v_kix, Md.v_leR, Md.v_lenO, Md.v_sput, Md.v_kpu, Md.v_gpu, Md.v_kpv, Md.v_gme, Md.v_kme, Md.v_meth, Md.v_raise, Md.v_ra1, Md.v_ra2, Md.v_par, Md.v_pa, Md.v_pa2, Md.v_tryK, Md.v_tk1, Md.v_tk2', Md.v_run, Md.v_ru1, Md.v_ru2, Md.v_ru3, Md.v_ou0, Md.v_ou1, Md.v_ou2, Md.v_it, Md.v_it1, Md.v_it2, Md.v_r1, Md.v_for, Md.v_kfo, Md.v_m1, Md.v_m1R, Md.v_m1S, Md.v_ifB, Md.v_ifB1, Md.v_ifB0, Md.v_mkD, Md.v_mkX, Md.v_make, Md.v_makeK, Md.v_mkG, Md.v_fldS, Md.v_fsR, Md.v_ins0, Md.v_fsO, Md.v_fld, Md.v_its, Md.v_lc, Md.v_lcR, Md.v_ofNew, Md.v_ofR, Md.v_chain, Md.v_ch1, Md.v_chY, Md.v_ch2t, Md.v_ch2f, Md.v_ch3, Md.v_cut, Md.v_cu1, Md.v_cu2, Md.v_cu3, Md.v_nop, Md.v_part, Md.v_ptR, Md.v_unp, Md.v_unO, Md.v_tgO, Md.v_tgs0, Md.v_tgs, Md.v_tgB, Md.v_ttt, Md.v_tname, Md.v_fg1, Md.v_fgn, Md.v_fgt, Md.v_fgb, Md.v_fgr, Md.v_fgx, Md.v_lc1, Md.v_lc2t, Md.v_lc2f, Md.v_lc3, Md.v_yes, Md.v_wi0, Md.v_wi, Md.v_re0, Md.v_re, Md.v_reS, Md.v_ow0, Md.v_ow, Md.v_oku, Md.v_okd, Md.v_lce, Md.v_lcet, Md.v_callK, Md.v_ckR, Md.v_callN, Md.v_cnd1, Md.v_cnd2, Md.v_cn0, Md.v_cn1, Md.v_cn2, Md.v_cn3, Md.v_emk0, Md.v_aug, Md.v_agS, Md.v_kag, Md.v_agO, Md.v_r2, Md.v_r2R, Md.v_r1n, Md.v_emk, Md.v_mkR1, Md.v_mkR2, Md.v_tkx, Md.v_tkf, Md.v_tkt, Md.v_ttl, Md.v_stf, Md.v_lk0, Md.v_lk, Md.v_lkt, Md.v_lkf, Md.v_pd0, Md.v_pd, Md.v_pdt, Md.v_pdf, Md.v_atc, Md.v_atx, Md.v_eq, Md.v_ne, Md.v_eqs, Md.v_nes, Md.v_inl, Md.v_int, Md.v_nil', Md.v_nit', Md.v_fl0, Md.v_fl1, Md.v_fl2, Md.v_fl3, Md.v_fl4, Md.v_fl5, Md.v_fa0, Md.v_fac, Md.v_q0, Md.v_q1, Md.v_q2, Md.v_q3, Md.v_q4, Md.v_q5, Md.v_q6, Md.v_q7, Md.v_qs0, Md.v_qsc, Md.v_qsn, Md.v_qns, Md.v_i0, Md.v_i1, Md.v_qa, Md.v_qb, Md.v_qc, Md.v_qd, Md.v_qe, Md.v_qf, Md.v_qg, Md.v_qh, Md.v_qi, Md.v_qj, Md.v_qk, Md.v_ql, Md.v_qm, Md.v_qn, Md.v_qo, Md.v_qp, Md.v_qq, Md.v_qr, Md.v_qs, Md.v_qt, Md.v_qu, Md.v_qv, Md.v_qw, Md.v_qx, Md.v_qy, Md.v_qz, Md.v_atI0, Md.v_atI1, Md.v_atI2, Md.v_atI3, Md.v_atI4, Md.v_atI5, Md.v_atI6, Md.v_atI7, Md.v_atI8, Md.v_atI9, Md.v_atI10, Md.v_atI11, Md.v_atI12, Md.v_ixt, Md.v_ixl, Md.v_addi, Md.v_subi, Md.v_gti, Md.v_lti, Md.v_gei, Md.v_lei, Md.v_eqi, Md.v_nei, Md.v_inti, Md.v_intb, Md.v_is, Md.v_isn, Md.v_in0, Md.v_in1, Md.v_in2, Md.v_in3, Md.v_in4, Md.v_in5, Md.v_in6, Md.v_in7, Md.v_lenl, Md.v_lent, Md.v_acat, Md.v_kca, Md.v_kcat, Md.v_lam, Md.v_cap0, Md.v_capc, Md.v_cs1, Md.v_cs2, Md.v_cs3, Md.v_cs4, Md.v_runAsk, Md.v_ask, Md.v_askO, Md.v_askR1, Md.v_askR2, Md.v_lamR1, Md.v_lamR2, Md.v_nf0, Md.v_nf1, Md.v_nf2, Md.v_nf3, Md.v_nf4, Md.v_nf5, Md.v_nfa0, Md.v_nfac, Md.v_nff0, Md.v_nffc, Md.v_apo, Md.v_api, Md.v_ca5, Md.v_ca6, Md.v_ca7, Md.v_ci_3, Md.v_ci_4, Md.v_in8, Md.v_nc0, Md.v_nc1, Md.v_nc2, Md.v_nc3, Md.v_nc4, Md.v_nc5, Md.v_nc6, Md.v_nc7, Md.v_nc8, Md.v_nc9, Md.v_nc10, Md.v_nc11, Md.v_nc12, Md.v_nc13, Md.v_nc14, Md.v_nc15, Md.v_nc16, Md.v_nc17, Md.v_nc18, Md.v_nc19, Md.v_nc20, Md.v_nc21, Md.v_nc22, Md.v_nc23, Md.v_nc24, Md.v_nc25, Md.v_nc26, Md.v_nc27, Md.v_nc28, Md.v_nc29, Md.v_nc30, Md.v_nc31, Md.v_nc32, List.cons_append, List.nil_append, List.replicate_zero, List.replicate_succ, List.getElem?_cons_zero, List.getElem?_cons_succ, List.set_cons_zero, List.set_cons_succ, List.map_nil, List.map_cons, List.append_nil, Bool.not_true, Bool.not_false, Slot.put, List.length_cons, List.length_nil, List.length_append, Nat.reduceAdd, Nat.reduceLT, Nat.reduceLeDiff, Nat.reduceSub, Int.reduceLT, Int.reduceLE, Int.reduceEq, Int.reduceBEq, Int.reduceAdd, Int.reduceSub, Int.reduceMul, Int.reduceNeg, Int.reduceToNat, String.reduceBEq, decide_true, decide_false, Bool.true_and, Bool.false_and, Bool.and_true, Bool.and_false, Bool.true_or, Bool.false_or, Bool.or_true, Bool.or_false, if_true, if_false, ite_true, ite_false, Md.ofStr_beq, Bool.false_eq_true, beq_self_eq_true, reduceIte, Nat.zero_add, reduceCtorEq, ti_int_non, ti_int_bl, ti_int_int, ti_int_str, ti_int_tup, ti_int_lst, ti_int_dk, ti_int_x1, ti_int_x2, ti_bool_non, ti_bool_bl, ti_bool_int, ti_bool_str, ti_bool_tup, ti_bool_lst, ti_bool_dk, ti_bool_x1, ti_bool_x2, ti_list_tuple_non, ti_list_tuple_bl, ti_list_tuple_int, ti_list_tuple_str, ti_list_tuple_tup, ti_list_tuple_lst, ti_list_tuple_dk, ti_list_tuple_x1, ti_list_tuple_x2, ti_BadValue_non, ti_BadValue_bl, ti_BadValue_int, ti_BadValue_str, ti_BadValue_tup, ti_BadValue_lst, ti_BadValue_dk, ti_BadValue_x1, ti_BadValue_x2, ti_BadNumber_non, ti_BadNumber_bl, ti_BadNumber_int, ti_BadNumber_str, ti_BadNumber_tup, ti_BadNumber_lst, ti_BadNumber_dk, ti_BadNumber_x1, ti_BadNumber_x2, ta_part_x1, ta_part_x2, tx_RulesError_1, tx_RulesError_2, neg_ok, e1, ad, e3, t3, rf_n]
abbrev LwE (s0 : Slot) (q0 : OO) (s2 : Slot) (p q : Int) (m : Bool) (s6 s7 : Slot) : En := [s0, .own q0, s2, .dat (.int q), .dat (.int p), .dat (.bl m), s6, s7]
theorem th_loop (s0 s2 : Slot) (q0 : OO) (p q : Int) (m : Bool) (bp : Bt 300 p) (bq : Bt 300 q) (h0 : 0 ≤ p) (h1 : p ≤ q) (h2 : 1 ≤ q) (h3 : m = true → p < q) : ∀ (ts : List Int) (s6 s7 : Slot), (∀ t ∈ ts, 0 ≤ t ∧ Bt 500 t) → s6.free = true → s7.free = true →
    ∃ t6 t7, forGo (tName 6) b_law_l2 (ts.map D.int) (LwE s0 q0 s2 p q m s6 s7) = .nx (LwE s0 q0 s2 p q m t6 t7) ∧ t6.free = true ∧ t7.free = true
  | [], s6, s7, _, f6, f7 => ⟨s6, s7, rfl, f6, f7⟩
  | t :: ts, s6, s7, hb, f6, f7 => by
    obtain ⟨ht, bt⟩ := hb t (.head _)
    have k := for_t p q t m bp bq bt h0 h1 h2 h3 ht
    have l := is_least p q t m bp bq bt h0 h1 h2 h3 ht
    obtain ⟨s, r⟩ := rep_lm p q t m bp bq bt h0 h1 h2 h3 ht
    have body : b_law_l2 (LwE s0 q0 s2 p q m (.dat (.int t)) s7) = .nx (LwE s0 q0 s2 p q m (.dat (.int t)) (.dat (LM p q m t))) := by
      simp only [b_law_l2, b_law_s1, b_law_i1, xperm_0, LwE, Md.v_seq, Md.v_nx, Md.v_rt, Md.v_bk, Md.v_ct, Md.v_ex, Md.v_ok, Md.v_bx, Md.v_to, Md.v_tx, Md.v_oR, Md.v_sR, Md.v_var, Md.v_k, Md.v_op2, Md.v_k2, Md.v_k3, Md.v_op1, Md.v_k1, Md.v_bR, Md.v_bool, Md.v_not, Md.v_knot, Md.v_and, Md.v_and1, Md.v_and0, Md.v_or, Md.v_or1, Md.v_or0, Md.v_nR, Md.v_notV, Md.v_aR1, Md.v_aR0, Md.v_andV, Md.v_orR1, Md.v_orR0, Md.v_orV, Md.v_if, Md.v_if1, Md.v_if0, Md.v_anil, Md.v_acons, Md.v_kac, Md.v_kad, Md.v_ob1, Md.v_ob2, Md.v_aobj, Md.v_ds0, Md.v_ds1, Md.v_ds2, Md.v_ds3, Md.v_ds4, Md.v_ds5, Md.v_ds6, Md.v_dsg, Md.v_dso, Md.v_dat0, Md.v_datc, Md.v_dco, Md.v_tup, Md.v_lst, Md.v_new, Md.v_lst', Md.v_tup', Md.v_new', Md.v_blR, Md.v_cb, Md.v_cb1, Md.v_cb2, Md.v_slR, Md.v_call, Md.v_cd1, Md.v_cd2, Md.v_ca0, Md.v_ca1, Md.v_ca2, Md.v_ca3, Md.v_ca4, Md.v_ci1, Md.v_ci2, Md.v_ciS, Md.v_ci_0, Md.v_ci_1, Md.v_ci_2, Md.v_io1, Md.v_io2, Md.v_put, Md.v_pu1, Md.v_pu2, Md.v_st1, Md.v_st2, Md.v_st3, Md.v_setE, Md.v_nxO, Md.v_set, Md.v_kset, Md.v_snew, Md.v_knew, Md.v_expr, Md.v_kex, Md.v_ret, Md.v_kret, Md.v_retN, Md.v_nil, Md.v_sif, Md.v_if_t, Md.v_if_f, Md.v_fr, Md.v_freeze, Md.v_la1, Md.v_la2, Md.v_lst_at, Md.v_ixR, Md.v_ixO, Md.v_gix, Md.v_kix, Md.v_leR, Md.v_lenO, Md.v_sput, Md.v_kpu, Md.v_gpu, Md.v_kpv, Md.v_gme, Md.v_kme, Md.v_meth, Md.v_raise, Md.v_ra1, Md.v_ra2, Md.v_par, Md.v_pa, Md.v_pa2, Md.v_tryK, Md.v_tk1, Md.v_tk2', Md.v_run, Md.v_ru1, Md.v_ru2, Md.v_ru3, Md.v_ou0, Md.v_ou1, Md.v_ou2, Md.v_it, Md.v_it1, Md.v_it2, Md.v_r1, Md.v_for, Md.v_kfo, Md.v_m1, Md.v_m1R, Md.v_m1S, Md.v_ifB, Md.v_ifB1, Md.v_ifB0, Md.v_mkD, Md.v_mkX, Md.v_make, Md.v_makeK, Md.v_mkG, Md.v_fldS, Md.v_fsR, Md.v_ins0, Md.v_fsO, Md.v_fld, Md.v_its, Md.v_lc, Md.v_lcR, Md.v_ofNew, Md.v_ofR, Md.v_chain, Md.v_ch1, Md.v_chY, Md.v_ch2t, Md.v_ch2f, Md.v_ch3, Md.v_cut, Md.v_cu1, Md.v_cu2, Md.v_cu3, Md.v_nop, Md.v_part, Md.v_ptR, Md.v_unp, Md.v_unO, Md.v_tgO, Md.v_tgs0, Md.v_tgs, Md.v_tgB, Md.v_ttt, Md.v_tname, Md.v_fg0, Md.v_fgc, Md.v_fg1, Md.v_fgn, Md.v_fgt, Md.v_fgb, Md.v_fgr, Md.v_fgx, Md.v_lc0, Md.v_lcc, Md.v_lc1, Md.v_lc2t, Md.v_lc2f, Md.v_lc3, Md.v_yes, Md.v_wi0, Md.v_wi, Md.v_re0, Md.v_re, Md.v_reS, Md.v_ow0, Md.v_ow, Md.v_oku, Md.v_okd, Md.v_lce, Md.v_lcet, Md.v_callK, Md.v_ckR, Md.v_callN, Md.v_cnd1, Md.v_cnd2, Md.v_cn0, Md.v_cn1, Md.v_cn2, Md.v_cn3, Md.v_emk0, Md.v_aug, Md.v_agS, Md.v_kag, Md.v_agO, Md.v_r2, Md.v_r2R, Md.v_r1n, Md.v_rg0, Md.v_rgs, Md.v_emk, Md.v_mkR1, Md.v_mkR2, Md.v_tkx, Md.v_tkf, Md.v_tkt, Md.v_ttl, Md.v_stf, Md.v_lk0, Md.v_lk, Md.v_lkt, Md.v_lkf, Md.v_pd0, Md.v_pd, Md.v_pdt, Md.v_pdf, Md.v_atc, Md.v_atx, Md.v_eq, Md.v_ne, Md.v_eqs, Md.v_nes, Md.v_inl, Md.v_int, Md.v_nil', Md.v_nit', Md.v_fl0, Md.v_fl1, Md.v_fl2, Md.v_fl3, Md.v_fl4, Md.v_fl5, Md.v_fa0, Md.v_fac, Md.v_q0, Md.v_q1, Md.v_q2, Md.v_q3, Md.v_q4, Md.v_q5, Md.v_q6, Md.v_q7, Md.v_qs0, Md.v_qsc, Md.v_qsn, Md.v_qns, Md.v_i0, Md.v_i1, Md.v_qa, Md.v_qb, Md.v_qc, Md.v_qd, Md.v_qe, Md.v_qf, Md.v_qg, Md.v_qh, Md.v_qi, Md.v_qj, Md.v_qk, Md.v_ql, Md.v_qm, Md.v_qn, Md.v_qo, Md.v_qp, Md.v_qq, Md.v_qr, Md.v_qs, Md.v_qt, Md.v_qu, Md.v_qv, Md.v_qw, Md.v_qx, Md.v_qy, Md.v_qz, Md.v_atI0, Md.v_atI1, Md.v_atI2, Md.v_atI3, Md.v_atI4, Md.v_atI5, Md.v_atI6, Md.v_atI7, Md.v_atI8, Md.v_atI9, Md.v_atI10, Md.v_atI11, Md.v_atI12, Md.v_ixt, Md.v_ixl, Md.v_addi, Md.v_subi, Md.v_gti, Md.v_lti, Md.v_gei, Md.v_lei, Md.v_eqi, Md.v_nei, Md.v_inti, Md.v_intb, Md.v_is, Md.v_isn, Md.v_in0, Md.v_in1, Md.v_in2, Md.v_in3, Md.v_in4, Md.v_in5, Md.v_in6, Md.v_in7, Md.v_lenl, Md.v_lent, Md.v_acat, Md.v_kca, Md.v_kcat, Md.v_lam, Md.v_cap0, Md.v_capc, Md.v_cs1, Md.v_cs2, Md.v_cs3, Md.v_cs4, Md.v_runAsk, Md.v_ask, Md.v_askO, Md.v_askR1, Md.v_askR2, Md.v_lamR1, Md.v_lamR2, Md.v_nf0, Md.v_nf1, Md.v_nf2, Md.v_nf3, Md.v_nf4, Md.v_nf5, Md.v_nfa0, Md.v_nfac, Md.v_nff0, Md.v_nffc, Md.v_apo, Md.v_api, Md.v_ca5, Md.v_ca6, Md.v_ca7, Md.v_ci_3, Md.v_ci_4, Md.v_in8, Md.v_nc0, Md.v_nc1, Md.v_nc2, Md.v_nc3, Md.v_nc4, Md.v_nc5, Md.v_nc6, Md.v_nc7, Md.v_nc8, Md.v_nc9, Md.v_nc10, Md.v_nc11, Md.v_nc12, Md.v_nc13, Md.v_nc14, Md.v_nc15, Md.v_nc16, Md.v_nc17, Md.v_nc18, Md.v_nc19, Md.v_nc20, Md.v_nc21, Md.v_nc22, Md.v_nc23, Md.v_nc24, Md.v_nc25, Md.v_nc26, Md.v_nc27, Md.v_nc28, Md.v_nc29, Md.v_nc30, Md.v_nc31, Md.v_nc32, List.cons_append, List.nil_append, List.replicate_zero, List.replicate_succ, List.getElem?_cons_zero, List.getElem?_cons_succ, List.set_cons_zero, List.set_cons_succ, List.map_nil, List.map_cons, List.append_nil, Bool.not_true, Bool.not_false, Slot.put, List.length_cons, List.length_nil, List.length_append, Nat.reduceAdd, Nat.reduceLT, Nat.reduceLeDiff, Nat.reduceSub, Int.reduceLT, Int.reduceLE, Int.reduceEq, Int.reduceBEq, Int.reduceAdd, Int.reduceSub, Int.reduceMul, Int.reduceNeg, Int.reduceToNat, String.reduceBEq, decide_true, decide_false, Bool.true_and, Bool.false_and, Bool.and_true, Bool.and_false, Bool.true_or, Bool.false_or, Bool.or_true, Bool.or_false, if_true, if_false, ite_true, ite_false, Md.ofStr_beq, Bool.false_eq_true, beq_self_eq_true, reduceIte, Nat.zero_add, reduceCtorEq, ti_int_non, ti_int_bl, ti_int_int, ti_int_str, ti_int_tup, ti_int_lst, ti_int_dk, ti_int_x1, ti_int_x2, ti_bool_non, ti_bool_bl, ti_bool_int, ti_bool_str, ti_bool_tup, ti_bool_lst, ti_bool_dk, ti_bool_x1, ti_bool_x2, ti_list_tuple_non, ti_list_tuple_bl, ti_list_tuple_int, ti_list_tuple_str, ti_list_tuple_tup, ti_list_tuple_lst, ti_list_tuple_dk, ti_list_tuple_x1, ti_list_tuple_x2, ti_BadValue_non, ti_BadValue_bl, ti_BadValue_int, ti_BadValue_str, ti_BadValue_tup, ti_BadValue_lst, ti_BadValue_dk, ti_BadValue_x1, ti_BadValue_x2, ti_BadNumber_non, ti_BadNumber_bl, ti_BadNumber_int, ti_BadNumber_str, ti_BadNumber_tup, ti_BadNumber_lst, ti_BadNumber_dk, ti_BadNumber_x1, ti_BadNumber_x2, ta_part_x1, ta_part_x2, tx_RulesError_1, tx_RulesError_2, f7, k.1, k.2, l, r]
    obtain ⟨t6, t7, hx, g6, g7⟩ := th_loop s0 s2 q0 p q m bp bq h0 h1 h2 h3 ts (.dat (.int t)) (.dat (LM p q m t)) (fun x hx => hb x (.tail _ hx)) rfl rfl
    refine ⟨t6, t7, ?_, g6, g7⟩
    simp only [LwE] at body hx ⊢
    simp only [List.map_cons, Md.v_seq, Md.v_nx, Md.v_rt, Md.v_bk, Md.v_ct, Md.v_ex, Md.v_ok, Md.v_bx, Md.v_to, Md.v_tx, Md.v_oR, Md.v_sR, Md.v_var, Md.v_k, Md.v_op2, Md.v_k2, Md.v_k3, Md.v_op1, Md.v_k1, Md.v_bR, Md.v_bool, Md.v_not, Md.v_knot, Md.v_and, Md.v_and1, Md.v_and0, Md.v_or, Md.v_or1, Md.v_or0, Md.v_nR, Md.v_notV, Md.v_aR1, Md.v_aR0, Md.v_andV, Md.v_orR1, Md.v_orR0, Md.v_orV, Md.v_if, Md.v_if1, Md.v_if0, Md.v_anil, Md.v_acons, Md.v_kac, Md.v_kad, Md.v_ob1, Md.v_ob2, Md.v_aobj, Md.v_ds0, Md.v_ds1, Md.v_ds2, Md.v_ds3, Md.v_ds4, Md.v_ds5, Md.v_ds6, Md.v_dsg, Md.v_dso, Md.v_dat0, Md.v_datc, Md.v_dco, Md.v_tup, Md.v_lst, Md.v_new, Md.v_lst', Md.v_tup', Md.v_new', Md.v_blR, Md.v_cb, Md.v_cb1, Md.v_cb2, Md.v_slR, Md.v_call, Md.v_cd1, Md.v_cd2, Md.v_ca0, Md.v_ca1, Md.v_ca2, Md.v_ca3, Md.v_ca4, Md.v_ci1, Md.v_ci2, Md.v_ciS, Md.v_ci_0, Md.v_ci_1, Md.v_ci_2, Md.v_io1, Md.v_io2, Md.v_put, Md.v_pu1, Md.v_pu2, Md.v_st1, Md.v_st2, Md.v_st3, Md.v_setE, Md.v_nxO, Md.v_set, Md.v_kset, Md.v_snew, Md.v_knew, Md.v_expr, Md.v_kex, Md.v_ret, Md.v_kret, Md.v_retN, Md.v_nil, Md.v_sif, Md.v_if_t, Md.v_if_f, Md.v_fr, Md.v_freeze, Md.v_la1, Md.v_la2, Md.v_lst_at, Md.v_ixR, Md.v_ixO, Md.v_gix, Md.v_kix, Md.v_leR, Md.v_lenO, Md.v_sput, Md.v_kpu, Md.v_gpu, Md.v_kpv, Md.v_gme, Md.v_kme, Md.v_meth, Md.v_raise, Md.v_ra1, Md.v_ra2, Md.v_par, Md.v_pa, Md.v_pa2, Md.v_tryK, Md.v_tk1, Md.v_tk2', Md.v_run, Md.v_ru1, Md.v_ru2, Md.v_ru3, Md.v_ou0, Md.v_ou1, Md.v_ou2, Md.v_it, Md.v_it1, Md.v_it2, Md.v_r1, Md.v_for, Md.v_kfo, Md.v_m1, Md.v_m1R, Md.v_m1S, Md.v_ifB, Md.v_ifB1, Md.v_ifB0, Md.v_mkD, Md.v_mkX, Md.v_make, Md.v_makeK, Md.v_mkG, Md.v_fldS, Md.v_fsR, Md.v_ins0, Md.v_fsO, Md.v_fld, Md.v_its, Md.v_lc, Md.v_lcR, Md.v_ofNew, Md.v_ofR, Md.v_chain, Md.v_ch1, Md.v_chY, Md.v_ch2t, Md.v_ch2f, Md.v_ch3, Md.v_cut, Md.v_cu1, Md.v_cu2, Md.v_cu3, Md.v_nop, Md.v_part, Md.v_ptR, Md.v_unp, Md.v_unO, Md.v_tgO, Md.v_tgs0, Md.v_tgs, Md.v_tgB, Md.v_ttt, Md.v_tname, Md.v_fg0, Md.v_fgc, Md.v_fg1, Md.v_fgn, Md.v_fgt, Md.v_fgb, Md.v_fgr, Md.v_fgx, Md.v_lc0, Md.v_lcc, Md.v_lc1, Md.v_lc2t, Md.v_lc2f, Md.v_lc3, Md.v_yes, Md.v_wi0, Md.v_wi, Md.v_re0, Md.v_re, Md.v_reS, Md.v_ow0, Md.v_ow, Md.v_oku, Md.v_okd, Md.v_lce, Md.v_lcet, Md.v_callK, Md.v_ckR, Md.v_callN, Md.v_cnd1, Md.v_cnd2, Md.v_cn0, Md.v_cn1, Md.v_cn2, Md.v_cn3, Md.v_emk0, Md.v_aug, Md.v_agS, Md.v_kag, Md.v_agO, Md.v_r2, Md.v_r2R, Md.v_r1n, Md.v_rg0, Md.v_rgs, Md.v_emk, Md.v_mkR1, Md.v_mkR2, Md.v_tkx, Md.v_tkf, Md.v_tkt, Md.v_ttl, Md.v_stf, Md.v_lk0, Md.v_lk, Md.v_lkt, Md.v_lkf, Md.v_pd0, Md.v_pd, Md.v_pdt, Md.v_pdf, Md.v_atc, Md.v_atx, Md.v_eq, Md.v_ne, Md.v_eqs, Md.v_nes, Md.v_inl, Md.v_int, Md.v_nil', Md.v_nit', Md.v_fl0, Md.v_fl1, Md.v_fl2, Md.v_fl3, Md.v_fl4, Md.v_fl5, Md.v_fa0, Md.v_fac, Md.v_q0, Md.v_q1, Md.v_q2, Md.v_q3, Md.v_q4, Md.v_q5, Md.v_q6, Md.v_q7, Md.v_qs0, Md.v_qsc, Md.v_qsn, Md.v_qns, Md.v_i0, Md.v_i1, Md.v_qa, Md.v_qb, Md.v_qc, Md.v_qd, Md.v_qe, Md.v_qf, Md.v_qg, Md.v_qh, Md.v_qi, Md.v_qj, Md.v_qk, Md.v_ql, Md.v_qm, Md.v_qn, Md.v_qo, Md.v_qp, Md.v_qq, Md.v_qr, Md.v_qs, Md.v_qt, Md.v_qu, Md.v_qv, Md.v_qw, Md.v_qx, Md.v_qy, Md.v_qz, Md.v_atI0, Md.v_atI1, Md.v_atI2, Md.v_atI3, Md.v_atI4, Md.v_atI5, Md.v_atI6, Md.v_atI7, Md.v_atI8, Md.v_atI9, Md.v_atI10, Md.v_atI11, Md.v_atI12, Md.v_ixt, Md.v_ixl, Md.v_addi, Md.v_subi, Md.v_gti, Md.v_lti, Md.v_gei, Md.v_lei, Md.v_eqi, Md.v_nei, Md.v_inti, Md.v_intb, Md.v_is, Md.v_isn, Md.v_in0, Md.v_in1, Md.v_in2, Md.v_in3, Md.v_in4, Md.v_in5, Md.v_in6, Md.v_in7, Md.v_lenl, Md.v_lent, Md.v_acat, Md.v_kca, Md.v_kcat, Md.v_lam, Md.v_cap0, Md.v_capc, Md.v_cs1, Md.v_cs2, Md.v_cs3, Md.v_cs4, Md.v_runAsk, Md.v_ask, Md.v_askO, Md.v_askR1, Md.v_askR2, Md.v_lamR1, Md.v_lamR2, Md.v_nf0, Md.v_nf1, Md.v_nf2, Md.v_nf3, Md.v_nf4, Md.v_nf5, Md.v_nfa0, Md.v_nfac, Md.v_nff0, Md.v_nffc, Md.v_apo, Md.v_api, Md.v_ca5, Md.v_ca6, Md.v_ca7, Md.v_ci_3, Md.v_ci_4, Md.v_in8, Md.v_nc0, Md.v_nc1, Md.v_nc2, Md.v_nc3, Md.v_nc4, Md.v_nc5, Md.v_nc6, Md.v_nc7, Md.v_nc8, Md.v_nc9, Md.v_nc10, Md.v_nc11, Md.v_nc12, Md.v_nc13, Md.v_nc14, Md.v_nc15, Md.v_nc16, Md.v_nc17, Md.v_nc18, Md.v_nc19, Md.v_nc20, Md.v_nc21, Md.v_nc22, Md.v_nc23, Md.v_nc24, Md.v_nc25, Md.v_nc26, Md.v_nc27, Md.v_nc28, Md.v_nc29, Md.v_nc30, Md.v_nc31, Md.v_nc32, List.cons_append, List.nil_append, List.replicate_zero, List.replicate_succ, List.getElem?_cons_zero, List.getElem?_cons_succ, List.set_cons_zero, List.set_cons_succ, List.map_nil, List.map_cons, List.append_nil, Bool.not_true, Bool.not_false, Slot.put, List.length_cons, List.length_nil, List.length_append, Nat.reduceAdd, Nat.reduceLT, Nat.reduceLeDiff, Nat.reduceSub, Int.reduceLT, Int.reduceLE, Int.reduceEq, Int.reduceBEq, Int.reduceAdd, Int.reduceSub, Int.reduceMul, Int.reduceNeg, Int.reduceToNat, String.reduceBEq, decide_true, decide_false, Bool.true_and, Bool.false_and, Bool.and_true, Bool.and_false, Bool.true_or, Bool.false_or, Bool.or_true, Bool.or_false, if_true, if_false, ite_true, ite_false, Md.ofStr_beq, Bool.false_eq_true, beq_self_eq_true, reduceIte, Nat.zero_add, reduceCtorEq, ti_int_non, ti_int_bl, ti_int_int, ti_int_str, ti_int_tup, ti_int_lst, ti_int_dk, ti_int_x1, ti_int_x2, ti_bool_non, ti_bool_bl, ti_bool_int, ti_bool_str, ti_bool_tup, ti_bool_lst, ti_bool_dk, ti_bool_x1, ti_bool_x2, ti_list_tuple_non, ti_list_tuple_bl, ti_list_tuple_int, ti_list_tuple_str, ti_list_tuple_tup, ti_list_tuple_lst, ti_list_tuple_dk, ti_list_tuple_x1, ti_list_tuple_x2, ti_BadValue_non, ti_BadValue_bl, ti_BadValue_int, ti_BadValue_str, ti_BadValue_tup, ti_BadValue_lst, ti_BadValue_dk, ti_BadValue_x1, ti_BadValue_x2, ti_BadNumber_non, ti_BadNumber_bl, ti_BadNumber_int, ti_BadNumber_str, ti_BadNumber_tup, ti_BadNumber_lst, ti_BadNumber_dk, ti_BadNumber_x1, ti_BadNumber_x2, ta_part_x1, ta_part_x2, tx_RulesError_1, tx_RulesError_2, f6, body, hx]
theorem at6 (xs : List Int) (k : Int) (P : Int → Prop) (hp : ∀ x ∈ xs, P x) (k0 : 0 ≤ k) (k1 : k < xs.length) : ∃ p, atI (xs.map D.int) k = some (.int p) ∧ P p := by
  have hk : k.toNat < xs.length := by omega
  refine ⟨xs[k.toNat], ?_, hp _ (List.getElem_mem hk)⟩
  unfold atI ixN
  rw [if_pos k0, List.length_map, if_pos k1, Option.bind_some, List.getElem?_map, List.getElem?_eq_getElem hk]
  rfl
end Lw

namespace Lw
open PySem PySem.Spec PyProof.Rows L2 Md
/-- the three draws of a turn: q, p, more -/
theorem turn_head {n : Int} {q0 : OO} (h : PenQ n q0) (hn : n < 800000) (s0 s2 s3 s4 s5 s6 s7 : Slot) (f3 : s3.free = true) (f4 : s4.free = true) (f5 : s5.free = true) :
    ∃ p q m q', b_law_l1 [s0, .own q0, s2, s3, s4, s5, s6, s7] = b_law_s3 (LwE s0 q' s2 p q m s6 s7) ∧ 0 ≤ p ∧ p ≤ q ∧ 1 ≤ q ∧ q ≤ 10 ^ 80 ∧ (m = true → p < q) ∧ PenQ (n + 9) q' := by
  have big : (10 : Int) ^ 80 + 1 < 2 ^ 4000 := by
    have a : (10 : Int) ^ 80 + 1 < 2 ^ 300 := by decide
    exact Int.lt_trans a (by decide)
  obtain ⟨g, q1, e1, a1, a2, a3⟩ := great h (by omega)
  obtain ⟨x1, q2, e2, b1, b2, b3⟩ := dr a3 (1 + g + 1) (by omega) (by omega) (by omega)
  obtain ⟨x2, q3, e3, c1, c2, c3⟩ := dr b3 (1 + g + 1) (by omega) (by omega) (by omega)
  obtain ⟨x3, q4, e4, d1, d2, d3⟩ := dr c3 (1 + g + 1) (by omega) (by omega) (by omega)
  obtain ⟨k, q5, e5, k1, k2, k3⟩ := dr d3 6 (by decide) (by decide) (by omega)
  obtain ⟨p, hp, p0, p1⟩ := at6 [0, 1 + g, 1 + g - 1, x1, x2, x3] k (fun p => 0 ≤ p ∧ p ≤ 1 + g) (by
    intro x hx
    simp only [List.mem_cons, List.not_mem_nil, or_false] at hx
    rcases hx with rfl | rfl | rfl | rfl | rfl | rfl <;> omega) k1 k2
  simp only [List.map_cons, List.map_nil] at hp
  by_cases hpq : p < 1 + g
  · obtain ⟨z, q6, e6, z1, z2, z3⟩ := dr k3 2 (by decide) (by decide) (by omega)
    have dl : decide (p < 1 + g) = true := decide_eq_true hpq
    refine ⟨p, 1 + g, (z == 0), q6, ?_, p0, p1, by omega, by omega, fun _ => hpq, z3.mono (by omega)⟩
    simp only [b_law_l1, b_law_s5, b_law_s4, LwE, Md.v_seq, Md.v_nx, Md.v_rt, Md.v_bk, Md.v_ct, Md.v_ex, Md.v_ok, Md.v_bx, Md.v_to, Md.v_tx, Md.v_oR, Md.v_sR, Md.v_var, Md.v_k, Md.v_op2, Md.v_k2, Md.v_k3, Md.v_op1, Md.v_k1, Md.v_bR, Md.v_bool, Md.v_not, Md.v_knot, Md.v_and, Md.v_and1, Md.v_and0, Md.v_or, Md.v_or1, Md.v_or0, Md.v_nR, Md.v_notV, Md.v_aR1, Md.v_aR0, Md.v_andV, Md.v_orR1, Md.v_orR0, Md.v_orV, Md.v_if, Md.v_if1, Md.v_if0, Md.v_anil, Md.v_acons, Md.v_kac, Md.v_kad, Md.v_ob1, Md.v_ob2, Md.v_aobj, Md.v_ds0, Md.v_ds1, Md.v_ds2, Md.v_ds3, Md.v_ds4, Md.v_ds5, Md.v_ds6, Md.v_dsg, Md.v_dso, Md.v_dat0, Md.v_datc, Md.v_dco, Md.v_tup, Md.v_lst, Md.v_new, Md.v_lst', Md.v_tup', Md.v_new', Md.v_blR, Md.v_cb, Md.v_cb1, Md.v_cb2, Md.v_slR, Md.v_call, Md.v_cd1, Md.v_cd2, Md.v_ca0, Md.v_ca1, Md.v_ca2, Md.v_ca3, Md.v_ca4, Md.v_ci1, Md.v_ci2, Md.v_ciS, Md.v_ci_0, Md.v_ci_1, Md.v_ci_2, Md.v_io1, Md.v_io2, Md.v_put, Md.v_pu1, Md.v_pu2, Md.v_st1, Md.v_st2, Md.v_st3, Md.v_setE, Md.v_nxO, Md.v_set, Md.v_kset, Md.v_snew, Md.v_knew, Md.v_expr, Md.v_kex, Md.v_ret, Md.v_kret, Md.v_retN, Md.v_nil, Md.v_sif, Md.v_if_t, Md.v_if_f, Md.v_fr, Md.v_freeze, Md.v_la1, Md.v_la2, Md.v_lst_at, Md.v_ixR, Md.v_ixO, Md.v_gix, Md.v_kix, Md.v_leR, Md.v_lenO, Md.v_sput, Md.v_kpu, Md.v_gpu, Md.v_kpv, Md.v_gme, Md.v_kme, Md.v_meth, Md.v_raise, Md.v_ra1, Md.v_ra2, Md.v_par, Md.v_pa, Md.v_pa2, Md.v_tryK, Md.v_tk1, Md.v_tk2', Md.v_run, Md.v_ru1, Md.v_ru2, Md.v_ru3, Md.v_ou0, Md.v_ou1, Md.v_ou2, Md.v_it, Md.v_it1, Md.v_it2, Md.v_r1, Md.v_for, Md.v_kfo, Md.v_m1, Md.v_m1R, Md.v_m1S, Md.v_ifB, Md.v_ifB1, Md.v_ifB0, Md.v_mkD, Md.v_mkX, Md.v_make, Md.v_makeK, Md.v_mkG, Md.v_fldS, Md.v_fsR, Md.v_ins0, Md.v_fsO, Md.v_fld, Md.v_its, Md.v_lc, Md.v_lcR, Md.v_ofNew, Md.v_ofR, Md.v_chain, Md.v_ch1, Md.v_chY, Md.v_ch2t, Md.v_ch2f, Md.v_ch3, Md.v_cut, Md.v_cu1, Md.v_cu2, Md.v_cu3, Md.v_nop, Md.v_part, Md.v_ptR, Md.v_unp, Md.v_unO, Md.v_tgO, Md.v_tgs0, Md.v_tgs, Md.v_tgB, Md.v_ttt, Md.v_tname, Md.v_fg0, Md.v_fgc, Md.v_fg1, Md.v_fgn, Md.v_fgt, Md.v_fgb, Md.v_fgr, Md.v_fgx, Md.v_lc0, Md.v_lcc, Md.v_lc1, Md.v_lc2t, Md.v_lc2f, Md.v_lc3, Md.v_yes, Md.v_wi0, Md.v_wi, Md.v_re0, Md.v_re, Md.v_reS, Md.v_ow0, Md.v_ow, Md.v_oku, Md.v_okd, Md.v_lce, Md.v_lcet, Md.v_callK, Md.v_ckR, Md.v_callN, Md.v_cnd1, Md.v_cnd2, Md.v_cn0, Md.v_cn1, Md.v_cn2, Md.v_cn3, Md.v_emk0, Md.v_aug, Md.v_agS, Md.v_kag, Md.v_agO, Md.v_r2, Md.v_r2R, Md.v_r1n, Md.v_rg0, Md.v_rgs, Md.v_emk, Md.v_mkR1, Md.v_mkR2, Md.v_tkx, Md.v_tkf, Md.v_tkt, Md.v_ttl, Md.v_stf, Md.v_lk0, Md.v_lk, Md.v_lkt, Md.v_lkf, Md.v_pd0, Md.v_pd, Md.v_pdt, Md.v_pdf, Md.v_atc, Md.v_atx, Md.v_eq, Md.v_ne, Md.v_eqs, Md.v_nes, Md.v_inl, Md.v_int, Md.v_nil', Md.v_nit', Md.v_fl0, Md.v_fl1, Md.v_fl2, Md.v_fl3, Md.v_fl4, Md.v_fl5, Md.v_fa0, Md.v_fac, Md.v_q0, Md.v_q1, Md.v_q2, Md.v_q3, Md.v_q4, Md.v_q5, Md.v_q6, Md.v_q7, Md.v_qs0, Md.v_qsc, Md.v_qsn, Md.v_qns, Md.v_i0, Md.v_i1, Md.v_qa, Md.v_qb, Md.v_qc, Md.v_qd, Md.v_qe, Md.v_qf, Md.v_qg, Md.v_qh, Md.v_qi, Md.v_qj, Md.v_qk, Md.v_ql, Md.v_qm, Md.v_qn, Md.v_qo, Md.v_qp, Md.v_qq, Md.v_qr, Md.v_qs, Md.v_qt, Md.v_qu, Md.v_qv, Md.v_qw, Md.v_qx, Md.v_qy, Md.v_qz, Md.v_atI0, Md.v_atI1, Md.v_atI2, Md.v_atI3, Md.v_atI4, Md.v_atI5, Md.v_atI6, Md.v_atI7, Md.v_atI8, Md.v_atI9, Md.v_atI10, Md.v_atI11, Md.v_atI12, Md.v_ixt, Md.v_ixl, Md.v_addi, Md.v_subi, Md.v_gti, Md.v_lti, Md.v_gei, Md.v_lei, Md.v_eqi, Md.v_nei, Md.v_inti, Md.v_intb, Md.v_is, Md.v_isn, Md.v_in0, Md.v_in1, Md.v_in2, Md.v_in3, Md.v_in4, Md.v_in5, Md.v_in6, Md.v_in7, Md.v_lenl, Md.v_lent, Md.v_acat, Md.v_kca, Md.v_kcat, Md.v_lam, Md.v_cap0, Md.v_capc, Md.v_cs1, Md.v_cs2, Md.v_cs3, Md.v_cs4, Md.v_runAsk, Md.v_ask, Md.v_askO, Md.v_askR1, Md.v_askR2, Md.v_lamR1, Md.v_lamR2, Md.v_nf0, Md.v_nf1, Md.v_nf2, Md.v_nf3, Md.v_nf4, Md.v_nf5, Md.v_nfa0, Md.v_nfac, Md.v_nff0, Md.v_nffc, Md.v_apo, Md.v_api, Md.v_ca5, Md.v_ca6, Md.v_ca7, Md.v_ci_3, Md.v_ci_4, Md.v_in8, Md.v_nc0, Md.v_nc1, Md.v_nc2, Md.v_nc3, Md.v_nc4, Md.v_nc5, Md.v_nc6, Md.v_nc7, Md.v_nc8, Md.v_nc9, Md.v_nc10, Md.v_nc11, Md.v_nc12, Md.v_nc13, Md.v_nc14, Md.v_nc15, Md.v_nc16, Md.v_nc17, Md.v_nc18, Md.v_nc19, Md.v_nc20, Md.v_nc21, Md.v_nc22, Md.v_nc23, Md.v_nc24, Md.v_nc25, Md.v_nc26, Md.v_nc27, Md.v_nc28, Md.v_nc29, Md.v_nc30, Md.v_nc31, Md.v_nc32, List.cons_append, List.nil_append, List.replicate_zero, List.replicate_succ, List.getElem?_cons_zero, List.getElem?_cons_succ, List.set_cons_zero, List.set_cons_succ, List.map_nil, List.map_cons, List.append_nil, Bool.not_true, Bool.not_false, Slot.put, List.length_cons, List.length_nil, List.length_append, Nat.reduceAdd, Nat.reduceLT, Nat.reduceLeDiff, Nat.reduceSub, Int.reduceLT, Int.reduceLE, Int.reduceEq, Int.reduceBEq, Int.reduceAdd, Int.reduceSub, Int.reduceMul, Int.reduceNeg, Int.reduceToNat, String.reduceBEq, decide_true, decide_false, Bool.true_and, Bool.false_and, Bool.and_true, Bool.and_false, Bool.true_or, Bool.false_or, Bool.or_true, Bool.or_false, if_true, if_false, ite_true, ite_false, Md.ofStr_beq, Bool.false_eq_true, beq_self_eq_true, reduceIte, Nat.zero_add, reduceCtorEq, ti_int_non, ti_int_bl, ti_int_int, ti_int_str, ti_int_tup, ti_int_lst, ti_int_dk, ti_int_x1, ti_int_x2, ti_bool_non, ti_bool_bl, ti_bool_int, ti_bool_str, ti_bool_tup, ti_bool_lst, ti_bool_dk, ti_bool_x1, ti_bool_x2, ti_list_tuple_non, ti_list_tuple_bl, ti_list_tuple_int, ti_list_tuple_str, ti_list_tuple_tup, ti_list_tuple_lst, ti_list_tuple_dk, ti_list_tuple_x1, ti_list_tuple_x2, ti_BadValue_non, ti_BadValue_bl, ti_BadValue_int, ti_BadValue_str, ti_BadValue_tup, ti_BadValue_lst, ti_BadValue_dk, ti_BadValue_x1, ti_BadValue_x2, ti_BadNumber_non, ti_BadNumber_bl, ti_BadNumber_int, ti_BadNumber_str, ti_BadNumber_tup, ti_BadNumber_lst, ti_BadNumber_dk, ti_BadNumber_x1, ti_BadNumber_x2, ta_part_x1, ta_part_x2, tx_RulesError_1, tx_RulesError_2, f3, f4, f5, e1, e2, e3, e4, e5, hp, dl, e6]
  · have dl : decide (p < 1 + g) = false := decide_eq_false hpq
    refine ⟨p, 1 + g, false, q5, ?_, p0, p1, by omega, by omega, (fun h => by cases h), k3.mono (by omega)⟩
    simp only [b_law_l1, b_law_s5, b_law_s4, LwE, Md.v_seq, Md.v_nx, Md.v_rt, Md.v_bk, Md.v_ct, Md.v_ex, Md.v_ok, Md.v_bx, Md.v_to, Md.v_tx, Md.v_oR, Md.v_sR, Md.v_var, Md.v_k, Md.v_op2, Md.v_k2, Md.v_k3, Md.v_op1, Md.v_k1, Md.v_bR, Md.v_bool, Md.v_not, Md.v_knot, Md.v_and, Md.v_and1, Md.v_and0, Md.v_or, Md.v_or1, Md.v_or0, Md.v_nR, Md.v_notV, Md.v_aR1, Md.v_aR0, Md.v_andV, Md.v_orR1, Md.v_orR0, Md.v_orV, Md.v_if, Md.v_if1, Md.v_if0, Md.v_anil, Md.v_acons, Md.v_kac, Md.v_kad, Md.v_ob1, Md.v_ob2, Md.v_aobj, Md.v_ds0, Md.v_ds1, Md.v_ds2, Md.v_ds3, Md.v_ds4, Md.v_ds5, Md.v_ds6, Md.v_dsg, Md.v_dso, Md.v_dat0, Md.v_datc, Md.v_dco, Md.v_tup, Md.v_lst, Md.v_new, Md.v_lst', Md.v_tup', Md.v_new', Md.v_blR, Md.v_cb, Md.v_cb1, Md.v_cb2, Md.v_slR, Md.v_call, Md.v_cd1, Md.v_cd2, Md.v_ca0, Md.v_ca1, Md.v_ca2, Md.v_ca3, Md.v_ca4, Md.v_ci1, Md.v_ci2, Md.v_ciS, Md.v_ci_0, Md.v_ci_1, Md.v_ci_2, Md.v_io1, Md.v_io2, Md.v_put, Md.v_pu1, Md.v_pu2, Md.v_st1, Md.v_st2, Md.v_st3, Md.v_setE, Md.v_nxO, Md.v_set, Md.v_kset, Md.v_snew, Md.v_knew, Md.v_expr, Md.v_kex, Md.v_ret, Md.v_kret, Md.v_retN, Md.v_nil, Md.v_sif, Md.v_if_t, Md.v_if_f, Md.v_fr, Md.v_freeze, Md.v_la1, Md.v_la2, Md.v_lst_at, Md.v_ixR, Md.v_ixO, Md.v_gix, Md.v_kix, Md.v_leR, Md.v_lenO, Md.v_sput, Md.v_kpu, Md.v_gpu, Md.v_kpv, Md.v_gme, Md.v_kme, Md.v_meth, Md.v_raise, Md.v_ra1, Md.v_ra2, Md.v_par, Md.v_pa, Md.v_pa2, Md.v_tryK, Md.v_tk1, Md.v_tk2', Md.v_run, Md.v_ru1, Md.v_ru2, Md.v_ru3, Md.v_ou0, Md.v_ou1, Md.v_ou2, Md.v_it, Md.v_it1, Md.v_it2, Md.v_r1, Md.v_for, Md.v_kfo, Md.v_m1, Md.v_m1R, Md.v_m1S, Md.v_ifB, Md.v_ifB1, Md.v_ifB0, Md.v_mkD, Md.v_mkX, Md.v_make, Md.v_makeK, Md.v_mkG, Md.v_fldS, Md.v_fsR, Md.v_ins0, Md.v_fsO, Md.v_fld, Md.v_its, Md.v_lc, Md.v_lcR, Md.v_ofNew, Md.v_ofR, Md.v_chain, Md.v_ch1, Md.v_chY, Md.v_ch2t, Md.v_ch2f, Md.v_ch3, Md.v_cut, Md.v_cu1, Md.v_cu2, Md.v_cu3, Md.v_nop, Md.v_part, Md.v_ptR, Md.v_unp, Md.v_unO, Md.v_tgO, Md.v_tgs0, Md.v_tgs, Md.v_tgB, Md.v_ttt, Md.v_tname, Md.v_fg0, Md.v_fgc, Md.v_fg1, Md.v_fgn, Md.v_fgt, Md.v_fgb, Md.v_fgr, Md.v_fgx, Md.v_lc0, Md.v_lcc, Md.v_lc1, Md.v_lc2t, Md.v_lc2f, Md.v_lc3, Md.v_yes, Md.v_wi0, Md.v_wi, Md.v_re0, Md.v_re, Md.v_reS, Md.v_ow0, Md.v_ow, Md.v_oku, Md.v_okd, Md.v_lce, Md.v_lcet, Md.v_callK, Md.v_ckR, Md.v_callN, Md.v_cnd1, Md.v_cnd2, Md.v_cn0, Md.v_cn1, Md.v_cn2, Md.v_cn3, Md.v_emk0, Md.v_aug, Md.v_agS, Md.v_kag, Md.v_agO, Md.v_r2, Md.v_r2R, Md.v_r1n, Md.v_rg0, Md.v_rgs, Md.v_emk, Md.v_mkR1, Md.v_mkR2, Md.v_tkx, Md.v_tkf, Md.v_tkt, Md.v_ttl, Md.v_stf, Md.v_lk0, Md.v_lk, Md.v_lkt, Md.v_lkf, Md.v_pd0, Md.v_pd, Md.v_pdt, Md.v_pdf, Md.v_atc, Md.v_atx, Md.v_eq, Md.v_ne, Md.v_eqs, Md.v_nes, Md.v_inl, Md.v_int, Md.v_nil', Md.v_nit', Md.v_fl0, Md.v_fl1, Md.v_fl2, Md.v_fl3, Md.v_fl4, Md.v_fl5, Md.v_fa0, Md.v_fac, Md.v_q0, Md.v_q1, Md.v_q2, Md.v_q3, Md.v_q4, Md.v_q5, Md.v_q6, Md.v_q7, Md.v_qs0, Md.v_qsc, Md.v_qsn, Md.v_qns, Md.v_i0, Md.v_i1, Md.v_qa, Md.v_qb, Md.v_qc, Md.v_qd, Md.v_qe, Md.v_qf, Md.v_qg, Md.v_qh, Md.v_qi, Md.v_qj, Md.v_qk, Md.v_ql, Md.v_qm, Md.v_qn, Md.v_qo, Md.v_qp, Md.v_qq, Md.v_qr, Md.v_qs, Md.v_qt, Md.v_qu, Md.v_qv, Md.v_qw, Md.v_qx, Md.v_qy, Md.v_qz, Md.v_atI0, Md.v_atI1, Md.v_atI2, Md.v_atI3, Md.v_atI4, Md.v_atI5, Md.v_atI6, Md.v_atI7, Md.v_atI8, Md.v_atI9, Md.v_atI10, Md.v_atI11, Md.v_atI12, Md.v_ixt, Md.v_ixl, Md.v_addi, Md.v_subi, Md.v_gti, Md.v_lti, Md.v_gei, Md.v_lei, Md.v_eqi, Md.v_nei, Md.v_inti, Md.v_intb, Md.v_is, Md.v_isn, Md.v_in0, Md.v_in1, Md.v_in2, Md.v_in3, Md.v_in4, Md.v_in5, Md.v_in6, Md.v_in7, Md.v_lenl, Md.v_lent, Md.v_acat, Md.v_kca, Md.v_kcat, Md.v_lam, Md.v_cap0, Md.v_capc, Md.v_cs1, Md.v_cs2, Md.v_cs3, Md.v_cs4, Md.v_runAsk, Md.v_ask, Md.v_askO, Md.v_askR1, Md.v_askR2, Md.v_lamR1, Md.v_lamR2, Md.v_nf0, Md.v_nf1, Md.v_nf2, Md.v_nf3, Md.v_nf4, Md.v_nf5, Md.v_nfa0, Md.v_nfac, Md.v_nff0, Md.v_nffc, Md.v_apo, Md.v_api, Md.v_ca5, Md.v_ca6, Md.v_ca7, Md.v_ci_3, Md.v_ci_4, Md.v_in8, Md.v_nc0, Md.v_nc1, Md.v_nc2, Md.v_nc3, Md.v_nc4, Md.v_nc5, Md.v_nc6, Md.v_nc7, Md.v_nc8, Md.v_nc9, Md.v_nc10, Md.v_nc11, Md.v_nc12, Md.v_nc13, Md.v_nc14, Md.v_nc15, Md.v_nc16, Md.v_nc17, Md.v_nc18, Md.v_nc19, Md.v_nc20, Md.v_nc21, Md.v_nc22, Md.v_nc23, Md.v_nc24, Md.v_nc25, Md.v_nc26, Md.v_nc27, Md.v_nc28, Md.v_nc29, Md.v_nc30, Md.v_nc31, Md.v_nc32, List.cons_append, List.nil_append, List.replicate_zero, List.replicate_succ, List.getElem?_cons_zero, List.getElem?_cons_succ, List.set_cons_zero, List.set_cons_succ, List.map_nil, List.map_cons, List.append_nil, Bool.not_true, Bool.not_false, Slot.put, List.length_cons, List.length_nil, List.length_append, Nat.reduceAdd, Nat.reduceLT, Nat.reduceLeDiff, Nat.reduceSub, Int.reduceLT, Int.reduceLE, Int.reduceEq, Int.reduceBEq, Int.reduceAdd, Int.reduceSub, Int.reduceMul, Int.reduceNeg, Int.reduceToNat, String.reduceBEq, decide_true, decide_false, Bool.true_and, Bool.false_and, Bool.and_true, Bool.and_false, Bool.true_or, Bool.false_or, Bool.or_true, Bool.or_false, if_true, if_false, ite_true, ite_false, Md.ofStr_beq, Bool.false_eq_true, beq_self_eq_true, reduceIte, Nat.zero_add, reduceCtorEq, ti_int_non, ti_int_bl, ti_int_int, ti_int_str, ti_int_tup, ti_int_lst, ti_int_dk, ti_int_x1, ti_int_x2, ti_bool_non, ti_bool_bl, ti_bool_int, ti_bool_str, ti_bool_tup, ti_bool_lst, ti_bool_dk, ti_bool_x1, ti_bool_x2, ti_list_tuple_non, ti_list_tuple_bl, ti_list_tuple_int, ti_list_tuple_str, ti_list_tuple_tup, ti_list_tuple_lst, ti_list_tuple_dk, ti_list_tuple_x1, ti_list_tuple_x2, ti_BadValue_non, ti_BadValue_bl, ti_BadValue_int, ti_BadValue_str, ti_BadValue_tup, ti_BadValue_lst, ti_BadValue_dk, ti_BadValue_x1, ti_BadValue_x2, ti_BadNumber_non, ti_BadNumber_bl, ti_BadNumber_int, ti_BadNumber_str, ti_BadNumber_tup, ti_BadNumber_lst, ti_BadNumber_dk, ti_BadNumber_x1, ti_BadNumber_x2, ta_part_x1, ta_part_x2, tx_RulesError_1, tx_RulesError_2, f3, f4, f5, e1, e2, e3, e4, e5, hp, dl]
theorem turn {n : Int} {q0 : OO} (h : PenQ n q0) (hn : n < 800000) (s0 s3 s4 s5 s6 s7 : Slot) (k : Int) (f3 : s3.free = true) (f4 : s4.free = true) (f5 : s5.free = true) (f6 : s6.free = true) (f7 : s7.free = true) :
    ∃ q' t3 t4 t5 t6 t7, b_law_l1 [s0, .own q0, .dat (.int k), s3, s4, s5, s6, s7] = .nx [s0, .own q', .dat (.int k), t3, t4, t5, t6, t7] ∧ PenQ (n + 20) q' ∧ t3.free = true ∧ t4.free = true ∧ t5.free = true ∧ t6.free = true ∧ t7.free = true := by
  obtain ⟨p, q, m, q1, e1, h0, h1, h2, hq, h3, a1⟩ := turn_head h hn s0 (.dat (.int k)) s3 s4 s5 s6 s7 f3 f4 f5
  have bq : Bt 300 q := by
    have : (10 : Nat) ^ 80 < 2 ^ 300 := by decide
    unfold Bt
    omega
  have bp : Bt 300 p := bt_lt bq h0 h1
  obtain ⟨g, q2, e2, g1, g2, g3⟩ := great a1 (by omega)
  obtain ⟨u, q3, e3, u1, u2, u3⟩ := dr g3 3 (by decide) (by decide) (by omega)
  have bg : Bt 500 g := by
    have a : (10 : Nat) ^ 80 < 2 ^ 300 := by decide
    exact bt_mono (a := 300) (by unfold Bt; omega) (by decide)
  have bd : Bt 301 (q - p) := bt_sub bq bp
  have m2 : dMul (.int 2) (.int (q - p)) = some (.int (2 * (q - p))) := mul_bt (bt_sm (n := 8) (by decide) (by decide)) bd
  obtain ⟨t6, t7, e4, f6', f7'⟩ := th_loop s0 (.dat (.int k)) q3 p q m bp bq h0 h1 h2 h3 [g, 0, 1, q - p, 2 * (q - p) + u] s6 s7 (by
    intro x hx
    simp only [List.mem_cons, List.not_mem_nil, or_false] at hx
    rcases hx with rfl | rfl | rfl | rfl | rfl
    · exact ⟨g1, bg⟩
    · exact ⟨by decide, bt_sm (by decide) (by decide)⟩
    · exact ⟨by decide, bt_sm (by decide) (by decide)⟩
    · exact ⟨by omega, bt_mono bd (by decide)⟩
    · refine ⟨by omega, bt_mono (a := 310) ?_ (by decide)⟩
      exact bt_mono (bt_add (bt_mul (bt_sm (n := 8) (i := 2) (by decide) (by decide)) bd) (bt_sm (i := u) (by omega) (by decide))) (by decide)) f6 f7
  simp only [List.map_cons, List.map_nil, LwE] at e4
  have head : b_law_s3 (LwE s0 q1 (.dat (.int k)) p q m s6 s7) = b_law_s2 (LwE s0 q3 (.dat (.int k)) p q m t6 t7) := by
    simp only [b_law_s3, LwE, Md.v_seq, Md.v_nx, Md.v_rt, Md.v_bk, Md.v_ct, Md.v_ex, Md.v_ok, Md.v_bx, Md.v_to, Md.v_tx, Md.v_oR, Md.v_sR, Md.v_var, Md.v_k, Md.v_op2, Md.v_k2, Md.v_k3, Md.v_op1, Md.v_k1, Md.v_bR, Md.v_bool, Md.v_not, Md.v_knot, Md.v_and, Md.v_and1, Md.v_and0, Md.v_or, Md.v_or1, Md.v_or0, Md.v_nR, Md.v_notV, Md.v_aR1, Md.v_aR0, Md.v_andV, Md.v_orR1, Md.v_orR0, Md.v_orV, Md.v_if, Md.v_if1, Md.v_if0, Md.v_anil, Md.v_acons, Md.v_kac, Md.v_kad, Md.v_ob1, Md.v_ob2, Md.v_aobj, Md.v_ds0, Md.v_ds1, Md.v_ds2, Md.v_ds3, Md.v_ds4, Md.v_ds5, Md.v_ds6, Md.v_dsg, Md.v_dso, Md.v_dat0, Md.v_datc, Md.v_dco, Md.v_tup, Md.v_lst, Md.v_new, Md.v_lst', Md.v_tup', Md.v_new', Md.v_blR, Md.v_cb, Md.v_cb1, Md.v_cb2, Md.v_slR, Md.v_call, Md.v_cd1, Md.v_cd2, Md.v_ca0, Md.v_ca1, Md.v_ca2, Md.v_ca3, Md.v_ca4, Md.v_ci1, Md.v_ci2, Md.v_ciS, Md.v_ci_0, Md.v_ci_1, Md.v_ci_2, Md.v_io1, Md.v_io2, Md.v_put, Md.v_pu1, Md.v_pu2, Md.v_st1, Md.v_st2, Md.v_st3, Md.v_setE, Md.v_nxO, Md.v_set, Md.v_kset, Md.v_snew, Md.v_knew, Md.v_expr, Md.v_kex, Md.v_ret, Md.v_kret, Md.v_retN, Md.v_nil, Md.v_sif, Md.v_if_t, Md.v_if_f, Md.v_fr, Md.v_freeze, Md.v_la1, Md.v_la2, Md.v_lst_at, Md.v_ixR, Md.v_ixO, Md.v_gix, Md.v_kix, Md.v_leR, Md.v_lenO, Md.v_sput, Md.v_kpu, Md.v_gpu, Md.v_kpv, Md.v_gme, Md.v_kme, Md.v_meth, Md.v_raise, Md.v_ra1, Md.v_ra2, Md.v_par, Md.v_pa, Md.v_pa2, Md.v_tryK, Md.v_tk1, Md.v_tk2', Md.v_run, Md.v_ru1, Md.v_ru2, Md.v_ru3, Md.v_ou0, Md.v_ou1, Md.v_ou2, Md.v_it, Md.v_it1, Md.v_it2, Md.v_r1, Md.v_for, Md.v_kfo, Md.v_m1, Md.v_m1R, Md.v_m1S, Md.v_ifB, Md.v_ifB1, Md.v_ifB0, Md.v_mkD, Md.v_mkX, Md.v_make, Md.v_makeK, Md.v_mkG, Md.v_fldS, Md.v_fsR, Md.v_ins0, Md.v_fsO, Md.v_fld, Md.v_its, Md.v_lc, Md.v_lcR, Md.v_ofNew, Md.v_ofR, Md.v_chain, Md.v_ch1, Md.v_chY, Md.v_ch2t, Md.v_ch2f, Md.v_ch3, Md.v_cut, Md.v_cu1, Md.v_cu2, Md.v_cu3, Md.v_nop, Md.v_part, Md.v_ptR, Md.v_unp, Md.v_unO, Md.v_tgO, Md.v_tgs0, Md.v_tgs, Md.v_tgB, Md.v_ttt, Md.v_tname, Md.v_fg1, Md.v_fgn, Md.v_fgt, Md.v_fgb, Md.v_fgr, Md.v_fgx, Md.v_lc1, Md.v_lc2t, Md.v_lc2f, Md.v_lc3, Md.v_yes, Md.v_wi0, Md.v_wi, Md.v_re0, Md.v_re, Md.v_reS, Md.v_ow0, Md.v_ow, Md.v_oku, Md.v_okd, Md.v_lce, Md.v_lcet, Md.v_callK, Md.v_ckR, Md.v_callN, Md.v_cnd1, Md.v_cnd2, Md.v_cn0, Md.v_cn1, Md.v_cn2, Md.v_cn3, Md.v_emk0, Md.v_aug, Md.v_agS, Md.v_kag, Md.v_agO, Md.v_r2, Md.v_r2R, Md.v_r1n, Md.v_emk, Md.v_mkR1, Md.v_mkR2, Md.v_tkx, Md.v_tkf, Md.v_tkt, Md.v_ttl, Md.v_stf, Md.v_lk0, Md.v_lk, Md.v_lkt, Md.v_lkf, Md.v_pd0, Md.v_pd, Md.v_pdt, Md.v_pdf, Md.v_atc, Md.v_atx, Md.v_eq, Md.v_ne, Md.v_eqs, Md.v_nes, Md.v_inl, Md.v_int, Md.v_nil', Md.v_nit', Md.v_fl0, Md.v_fl1, Md.v_fl2, Md.v_fl3, Md.v_fl4, Md.v_fl5, Md.v_fa0, Md.v_fac, Md.v_q0, Md.v_q1, Md.v_q2, Md.v_q3, Md.v_q4, Md.v_q5, Md.v_q6, Md.v_q7, Md.v_qs0, Md.v_qsc, Md.v_qsn, Md.v_qns, Md.v_i0, Md.v_i1, Md.v_qa, Md.v_qb, Md.v_qc, Md.v_qd, Md.v_qe, Md.v_qf, Md.v_qg, Md.v_qh, Md.v_qi, Md.v_qj, Md.v_qk, Md.v_ql, Md.v_qm, Md.v_qn, Md.v_qo, Md.v_qp, Md.v_qq, Md.v_qr, Md.v_qs, Md.v_qt, Md.v_qu, Md.v_qv, Md.v_qw, Md.v_qx, Md.v_qy, Md.v_qz, Md.v_atI0, Md.v_atI1, Md.v_atI2, Md.v_atI3, Md.v_atI4, Md.v_atI5, Md.v_atI6, Md.v_atI7, Md.v_atI8, Md.v_atI9, Md.v_atI10, Md.v_atI11, Md.v_atI12, Md.v_ixt, Md.v_ixl, Md.v_addi, Md.v_subi, Md.v_gti, Md.v_lti, Md.v_gei, Md.v_lei, Md.v_eqi, Md.v_nei, Md.v_inti, Md.v_intb, Md.v_is, Md.v_isn, Md.v_in0, Md.v_in1, Md.v_in2, Md.v_in3, Md.v_in4, Md.v_in5, Md.v_in6, Md.v_in7, Md.v_lenl, Md.v_lent, Md.v_acat, Md.v_kca, Md.v_kcat, Md.v_lam, Md.v_cap0, Md.v_capc, Md.v_cs1, Md.v_cs2, Md.v_cs3, Md.v_cs4, Md.v_runAsk, Md.v_ask, Md.v_askO, Md.v_askR1, Md.v_askR2, Md.v_lamR1, Md.v_lamR2, Md.v_nf0, Md.v_nf1, Md.v_nf2, Md.v_nf3, Md.v_nf4, Md.v_nf5, Md.v_nfa0, Md.v_nfac, Md.v_nff0, Md.v_nffc, Md.v_apo, Md.v_api, Md.v_ca5, Md.v_ca6, Md.v_ca7, Md.v_ci_3, Md.v_ci_4, Md.v_in8, Md.v_nc0, Md.v_nc1, Md.v_nc2, Md.v_nc3, Md.v_nc4, Md.v_nc5, Md.v_nc6, Md.v_nc7, Md.v_nc8, Md.v_nc9, Md.v_nc10, Md.v_nc11, Md.v_nc12, Md.v_nc13, Md.v_nc14, Md.v_nc15, Md.v_nc16, Md.v_nc17, Md.v_nc18, Md.v_nc19, Md.v_nc20, Md.v_nc21, Md.v_nc22, Md.v_nc23, Md.v_nc24, Md.v_nc25, Md.v_nc26, Md.v_nc27, Md.v_nc28, Md.v_nc29, Md.v_nc30, Md.v_nc31, Md.v_nc32, List.cons_append, List.nil_append, List.replicate_zero, List.replicate_succ, List.getElem?_cons_zero, List.getElem?_cons_succ, List.set_cons_zero, List.set_cons_succ, List.map_nil, List.map_cons, List.append_nil, Bool.not_true, Bool.not_false, Slot.put, List.length_cons, List.length_nil, List.length_append, Nat.reduceAdd, Nat.reduceLT, Nat.reduceLeDiff, Nat.reduceSub, Int.reduceLT, Int.reduceLE, Int.reduceEq, Int.reduceBEq, Int.reduceAdd, Int.reduceSub, Int.reduceMul, Int.reduceNeg, Int.reduceToNat, String.reduceBEq, decide_true, decide_false, Bool.true_and, Bool.false_and, Bool.and_true, Bool.and_false, Bool.true_or, Bool.false_or, Bool.or_true, Bool.or_false, if_true, if_false, ite_true, ite_false, Md.ofStr_beq, Bool.false_eq_true, beq_self_eq_true, reduceIte, Nat.zero_add, reduceCtorEq, ti_int_non, ti_int_bl, ti_int_int, ti_int_str, ti_int_tup, ti_int_lst, ti_int_dk, ti_int_x1, ti_int_x2, ti_bool_non, ti_bool_bl, ti_bool_int, ti_bool_str, ti_bool_tup, ti_bool_lst, ti_bool_dk, ti_bool_x1, ti_bool_x2, ti_list_tuple_non, ti_list_tuple_bl, ti_list_tuple_int, ti_list_tuple_str, ti_list_tuple_tup, ti_list_tuple_lst, ti_list_tuple_dk, ti_list_tuple_x1, ti_list_tuple_x2, ti_BadValue_non, ti_BadValue_bl, ti_BadValue_int, ti_BadValue_str, ti_BadValue_tup, ti_BadValue_lst, ti_BadValue_dk, ti_BadValue_x1, ti_BadValue_x2, ti_BadNumber_non, ti_BadNumber_bl, ti_BadNumber_int, ti_BadNumber_str, ti_BadNumber_tup, ti_BadNumber_lst, ti_BadNumber_dk, ti_BadNumber_x1, ti_BadNumber_x2, ta_part_x1, ta_part_x2, tx_RulesError_1, tx_RulesError_2, e2, e3, m2, e4]
  by_cases k0 : k = 0
  · subst k0
    obtain ⟨q4, e5, v⟩ := refused_right u3 (by omega) p q h0 h1 h2
    refine ⟨q4, .dat (.int q), .dat (.int p), .dat (.bl m), t6, t7, ?_, v.mono (by omega), rfl, rfl, rfl, f6', f7'⟩
    rw [e1, head]
    simp only [b_law_s2, b_law_i2, LwE, Md.v_seq, Md.v_nx, Md.v_rt, Md.v_bk, Md.v_ct, Md.v_ex, Md.v_ok, Md.v_bx, Md.v_to, Md.v_tx, Md.v_oR, Md.v_sR, Md.v_var, Md.v_k, Md.v_op2, Md.v_k2, Md.v_k3, Md.v_op1, Md.v_k1, Md.v_bR, Md.v_bool, Md.v_not, Md.v_knot, Md.v_and, Md.v_and1, Md.v_and0, Md.v_or, Md.v_or1, Md.v_or0, Md.v_nR, Md.v_notV, Md.v_aR1, Md.v_aR0, Md.v_andV, Md.v_orR1, Md.v_orR0, Md.v_orV, Md.v_if, Md.v_if1, Md.v_if0, Md.v_anil, Md.v_acons, Md.v_kac, Md.v_kad, Md.v_ob1, Md.v_ob2, Md.v_aobj, Md.v_ds0, Md.v_ds1, Md.v_ds2, Md.v_ds3, Md.v_ds4, Md.v_ds5, Md.v_ds6, Md.v_dsg, Md.v_dso, Md.v_dat0, Md.v_datc, Md.v_dco, Md.v_tup, Md.v_lst, Md.v_new, Md.v_lst', Md.v_tup', Md.v_new', Md.v_blR, Md.v_cb, Md.v_cb1, Md.v_cb2, Md.v_slR, Md.v_call, Md.v_cd1, Md.v_cd2, Md.v_ca0, Md.v_ca1, Md.v_ca2, Md.v_ca3, Md.v_ca4, Md.v_ci1, Md.v_ci2, Md.v_ciS, Md.v_ci_0, Md.v_ci_1, Md.v_ci_2, Md.v_io1, Md.v_io2, Md.v_put, Md.v_pu1, Md.v_pu2, Md.v_st1, Md.v_st2, Md.v_st3, Md.v_setE, Md.v_nxO, Md.v_set, Md.v_kset, Md.v_snew, Md.v_knew, Md.v_expr, Md.v_kex, Md.v_ret, Md.v_kret, Md.v_retN, Md.v_nil, Md.v_sif, Md.v_if_t, Md.v_if_f, Md.v_fr, Md.v_freeze, Md.v_la1, Md.v_la2, Md.v_lst_at, Md.v_ixR, Md.v_ixO, Md.v_gix, Md.v_kix, Md.v_leR, Md.v_lenO, Md.v_sput, Md.v_kpu, Md.v_gpu, Md.v_kpv, Md.v_gme, Md.v_kme, Md.v_meth, Md.v_raise, Md.v_ra1, Md.v_ra2, Md.v_par, Md.v_pa, Md.v_pa2, Md.v_tryK, Md.v_tk1, Md.v_tk2', Md.v_run, Md.v_ru1, Md.v_ru2, Md.v_ru3, Md.v_ou0, Md.v_ou1, Md.v_ou2, Md.v_it, Md.v_it1, Md.v_it2, Md.v_r1, Md.v_for, Md.v_kfo, Md.v_m1, Md.v_m1R, Md.v_m1S, Md.v_ifB, Md.v_ifB1, Md.v_ifB0, Md.v_mkD, Md.v_mkX, Md.v_make, Md.v_makeK, Md.v_mkG, Md.v_fldS, Md.v_fsR, Md.v_ins0, Md.v_fsO, Md.v_fld, Md.v_its, Md.v_lc, Md.v_lcR, Md.v_ofNew, Md.v_ofR, Md.v_chain, Md.v_ch1, Md.v_chY, Md.v_ch2t, Md.v_ch2f, Md.v_ch3, Md.v_cut, Md.v_cu1, Md.v_cu2, Md.v_cu3, Md.v_nop, Md.v_part, Md.v_ptR, Md.v_unp, Md.v_unO, Md.v_tgO, Md.v_tgs0, Md.v_tgs, Md.v_tgB, Md.v_ttt, Md.v_tname, Md.v_fg0, Md.v_fgc, Md.v_fg1, Md.v_fgn, Md.v_fgt, Md.v_fgb, Md.v_fgr, Md.v_fgx, Md.v_lc0, Md.v_lcc, Md.v_lc1, Md.v_lc2t, Md.v_lc2f, Md.v_lc3, Md.v_yes, Md.v_wi0, Md.v_wi, Md.v_re0, Md.v_re, Md.v_reS, Md.v_ow0, Md.v_ow, Md.v_oku, Md.v_okd, Md.v_lce, Md.v_lcet, Md.v_callK, Md.v_ckR, Md.v_callN, Md.v_cnd1, Md.v_cnd2, Md.v_cn0, Md.v_cn1, Md.v_cn2, Md.v_cn3, Md.v_emk0, Md.v_aug, Md.v_agS, Md.v_kag, Md.v_agO, Md.v_r2, Md.v_r2R, Md.v_r1n, Md.v_rg0, Md.v_rgs, Md.v_emk, Md.v_mkR1, Md.v_mkR2, Md.v_tkx, Md.v_tkf, Md.v_tkt, Md.v_ttl, Md.v_stf, Md.v_lk0, Md.v_lk, Md.v_lkt, Md.v_lkf, Md.v_pd0, Md.v_pd, Md.v_pdt, Md.v_pdf, Md.v_atc, Md.v_atx, Md.v_eq, Md.v_ne, Md.v_eqs, Md.v_nes, Md.v_inl, Md.v_int, Md.v_nil', Md.v_nit', Md.v_fl0, Md.v_fl1, Md.v_fl2, Md.v_fl3, Md.v_fl4, Md.v_fl5, Md.v_fa0, Md.v_fac, Md.v_q0, Md.v_q1, Md.v_q2, Md.v_q3, Md.v_q4, Md.v_q5, Md.v_q6, Md.v_q7, Md.v_qs0, Md.v_qsc, Md.v_qsn, Md.v_qns, Md.v_i0, Md.v_i1, Md.v_qa, Md.v_qb, Md.v_qc, Md.v_qd, Md.v_qe, Md.v_qf, Md.v_qg, Md.v_qh, Md.v_qi, Md.v_qj, Md.v_qk, Md.v_ql, Md.v_qm, Md.v_qn, Md.v_qo, Md.v_qp, Md.v_qq, Md.v_qr, Md.v_qs, Md.v_qt, Md.v_qu, Md.v_qv, Md.v_qw, Md.v_qx, Md.v_qy, Md.v_qz, Md.v_atI0, Md.v_atI1, Md.v_atI2, Md.v_atI3, Md.v_atI4, Md.v_atI5, Md.v_atI6, Md.v_atI7, Md.v_atI8, Md.v_atI9, Md.v_atI10, Md.v_atI11, Md.v_atI12, Md.v_ixt, Md.v_ixl, Md.v_addi, Md.v_subi, Md.v_gti, Md.v_lti, Md.v_gei, Md.v_lei, Md.v_eqi, Md.v_nei, Md.v_inti, Md.v_intb, Md.v_is, Md.v_isn, Md.v_in0, Md.v_in1, Md.v_in2, Md.v_in3, Md.v_in4, Md.v_in5, Md.v_in6, Md.v_in7, Md.v_lenl, Md.v_lent, Md.v_acat, Md.v_kca, Md.v_kcat, Md.v_lam, Md.v_cap0, Md.v_capc, Md.v_cs1, Md.v_cs2, Md.v_cs3, Md.v_cs4, Md.v_runAsk, Md.v_ask, Md.v_askO, Md.v_askR1, Md.v_askR2, Md.v_lamR1, Md.v_lamR2, Md.v_nf0, Md.v_nf1, Md.v_nf2, Md.v_nf3, Md.v_nf4, Md.v_nf5, Md.v_nfa0, Md.v_nfac, Md.v_nff0, Md.v_nffc, Md.v_apo, Md.v_api, Md.v_ca5, Md.v_ca6, Md.v_ca7, Md.v_ci_3, Md.v_ci_4, Md.v_in8, Md.v_nc0, Md.v_nc1, Md.v_nc2, Md.v_nc3, Md.v_nc4, Md.v_nc5, Md.v_nc6, Md.v_nc7, Md.v_nc8, Md.v_nc9, Md.v_nc10, Md.v_nc11, Md.v_nc12, Md.v_nc13, Md.v_nc14, Md.v_nc15, Md.v_nc16, Md.v_nc17, Md.v_nc18, Md.v_nc19, Md.v_nc20, Md.v_nc21, Md.v_nc22, Md.v_nc23, Md.v_nc24, Md.v_nc25, Md.v_nc26, Md.v_nc27, Md.v_nc28, Md.v_nc29, Md.v_nc30, Md.v_nc31, Md.v_nc32, List.cons_append, List.nil_append, List.replicate_zero, List.replicate_succ, List.getElem?_cons_zero, List.getElem?_cons_succ, List.set_cons_zero, List.set_cons_succ, List.map_nil, List.map_cons, List.append_nil, Bool.not_true, Bool.not_false, Slot.put, List.length_cons, List.length_nil, List.length_append, Nat.reduceAdd, Nat.reduceLT, Nat.reduceLeDiff, Nat.reduceSub, Int.reduceLT, Int.reduceLE, Int.reduceEq, Int.reduceBEq, Int.reduceAdd, Int.reduceSub, Int.reduceMul, Int.reduceNeg, Int.reduceToNat, String.reduceBEq, decide_true, decide_false, Bool.true_and, Bool.false_and, Bool.and_true, Bool.and_false, Bool.true_or, Bool.false_or, Bool.or_true, Bool.or_false, if_true, if_false, ite_true, ite_false, Md.ofStr_beq, Bool.false_eq_true, beq_self_eq_true, reduceIte, Nat.zero_add, reduceCtorEq, ti_int_non, ti_int_bl, ti_int_int, ti_int_str, ti_int_tup, ti_int_lst, ti_int_dk, ti_int_x1, ti_int_x2, ti_bool_non, ti_bool_bl, ti_bool_int, ti_bool_str, ti_bool_tup, ti_bool_lst, ti_bool_dk, ti_bool_x1, ti_bool_x2, ti_list_tuple_non, ti_list_tuple_bl, ti_list_tuple_int, ti_list_tuple_str, ti_list_tuple_tup, ti_list_tuple_lst, ti_list_tuple_dk, ti_list_tuple_x1, ti_list_tuple_x2, ti_BadValue_non, ti_BadValue_bl, ti_BadValue_int, ti_BadValue_str, ti_BadValue_tup, ti_BadValue_lst, ti_BadValue_dk, ti_BadValue_x1, ti_BadValue_x2, ti_BadNumber_non, ti_BadNumber_bl, ti_BadNumber_int, ti_BadNumber_str, ti_BadNumber_tup, ti_BadNumber_lst, ti_BadNumber_dk, ti_BadNumber_x1, ti_BadNumber_x2, ta_part_x1, ta_part_x2, tx_RulesError_1, tx_RulesError_2, e5]
  · have kd : (k == 0) = false := by simpa using k0
    refine ⟨q3, .dat (.int q), .dat (.int p), .dat (.bl m), t6, t7, ?_, u3.mono (by omega), rfl, rfl, rfl, f6', f7'⟩
    rw [e1, head]
    simp only [b_law_s2, b_law_i2, LwE, Md.v_seq, Md.v_nx, Md.v_rt, Md.v_bk, Md.v_ct, Md.v_ex, Md.v_ok, Md.v_bx, Md.v_to, Md.v_tx, Md.v_oR, Md.v_sR, Md.v_var, Md.v_k, Md.v_op2, Md.v_k2, Md.v_k3, Md.v_op1, Md.v_k1, Md.v_bR, Md.v_bool, Md.v_not, Md.v_knot, Md.v_and, Md.v_and1, Md.v_and0, Md.v_or, Md.v_or1, Md.v_or0, Md.v_nR, Md.v_notV, Md.v_aR1, Md.v_aR0, Md.v_andV, Md.v_orR1, Md.v_orR0, Md.v_orV, Md.v_if, Md.v_if1, Md.v_if0, Md.v_anil, Md.v_acons, Md.v_kac, Md.v_kad, Md.v_ob1, Md.v_ob2, Md.v_aobj, Md.v_ds0, Md.v_ds1, Md.v_ds2, Md.v_ds3, Md.v_ds4, Md.v_ds5, Md.v_ds6, Md.v_dsg, Md.v_dso, Md.v_dat0, Md.v_datc, Md.v_dco, Md.v_tup, Md.v_lst, Md.v_new, Md.v_lst', Md.v_tup', Md.v_new', Md.v_blR, Md.v_cb, Md.v_cb1, Md.v_cb2, Md.v_slR, Md.v_call, Md.v_cd1, Md.v_cd2, Md.v_ca0, Md.v_ca1, Md.v_ca2, Md.v_ca3, Md.v_ca4, Md.v_ci1, Md.v_ci2, Md.v_ciS, Md.v_ci_0, Md.v_ci_1, Md.v_ci_2, Md.v_io1, Md.v_io2, Md.v_put, Md.v_pu1, Md.v_pu2, Md.v_st1, Md.v_st2, Md.v_st3, Md.v_setE, Md.v_nxO, Md.v_set, Md.v_kset, Md.v_snew, Md.v_knew, Md.v_expr, Md.v_kex, Md.v_ret, Md.v_kret, Md.v_retN, Md.v_nil, Md.v_sif, Md.v_if_t, Md.v_if_f, Md.v_fr, Md.v_freeze, Md.v_la1, Md.v_la2, Md.v_lst_at, Md.v_ixR, Md.v_ixO, Md.v_gix, Md.v_kix, Md.v_leR, Md.v_lenO, Md.v_sput, Md.v_kpu, Md.v_gpu, Md.v_kpv, Md.v_gme, Md.v_kme, Md.v_meth, Md.v_raise, Md.v_ra1, Md.v_ra2, Md.v_par, Md.v_pa, Md.v_pa2, Md.v_tryK, Md.v_tk1, Md.v_tk2', Md.v_run, Md.v_ru1, Md.v_ru2, Md.v_ru3, Md.v_ou0, Md.v_ou1, Md.v_ou2, Md.v_it, Md.v_it1, Md.v_it2, Md.v_r1, Md.v_for, Md.v_kfo, Md.v_m1, Md.v_m1R, Md.v_m1S, Md.v_ifB, Md.v_ifB1, Md.v_ifB0, Md.v_mkD, Md.v_mkX, Md.v_make, Md.v_makeK, Md.v_mkG, Md.v_fldS, Md.v_fsR, Md.v_ins0, Md.v_fsO, Md.v_fld, Md.v_its, Md.v_lc, Md.v_lcR, Md.v_ofNew, Md.v_ofR, Md.v_chain, Md.v_ch1, Md.v_chY, Md.v_ch2t, Md.v_ch2f, Md.v_ch3, Md.v_cut, Md.v_cu1, Md.v_cu2, Md.v_cu3, Md.v_nop, Md.v_part, Md.v_ptR, Md.v_unp, Md.v_unO, Md.v_tgO, Md.v_tgs0, Md.v_tgs, Md.v_tgB, Md.v_ttt, Md.v_tname, Md.v_fg0, Md.v_fgc, Md.v_fg1, Md.v_fgn, Md.v_fgt, Md.v_fgb, Md.v_fgr, Md.v_fgx, Md.v_lc0, Md.v_lcc, Md.v_lc1, Md.v_lc2t, Md.v_lc2f, Md.v_lc3, Md.v_yes, Md.v_wi0, Md.v_wi, Md.v_re0, Md.v_re, Md.v_reS, Md.v_ow0, Md.v_ow, Md.v_oku, Md.v_okd, Md.v_lce, Md.v_lcet, Md.v_callK, Md.v_ckR, Md.v_callN, Md.v_cnd1, Md.v_cnd2, Md.v_cn0, Md.v_cn1, Md.v_cn2, Md.v_cn3, Md.v_emk0, Md.v_aug, Md.v_agS, Md.v_kag, Md.v_agO, Md.v_r2, Md.v_r2R, Md.v_r1n, Md.v_rg0, Md.v_rgs, Md.v_emk, Md.v_mkR1, Md.v_mkR2, Md.v_tkx, Md.v_tkf, Md.v_tkt, Md.v_ttl, Md.v_stf, Md.v_lk0, Md.v_lk, Md.v_lkt, Md.v_lkf, Md.v_pd0, Md.v_pd, Md.v_pdt, Md.v_pdf, Md.v_atc, Md.v_atx, Md.v_eq, Md.v_ne, Md.v_eqs, Md.v_nes, Md.v_inl, Md.v_int, Md.v_nil', Md.v_nit', Md.v_fl0, Md.v_fl1, Md.v_fl2, Md.v_fl3, Md.v_fl4, Md.v_fl5, Md.v_fa0, Md.v_fac, Md.v_q0, Md.v_q1, Md.v_q2, Md.v_q3, Md.v_q4, Md.v_q5, Md.v_q6, Md.v_q7, Md.v_qs0, Md.v_qsc, Md.v_qsn, Md.v_qns, Md.v_i0, Md.v_i1, Md.v_qa, Md.v_qb, Md.v_qc, Md.v_qd, Md.v_qe, Md.v_qf, Md.v_qg, Md.v_qh, Md.v_qi, Md.v_qj, Md.v_qk, Md.v_ql, Md.v_qm, Md.v_qn, Md.v_qo, Md.v_qp, Md.v_qq, Md.v_qr, Md.v_qs, Md.v_qt, Md.v_qu, Md.v_qv, Md.v_qw, Md.v_qx, Md.v_qy, Md.v_qz, Md.v_atI0, Md.v_atI1, Md.v_atI2, Md.v_atI3, Md.v_atI4, Md.v_atI5, Md.v_atI6, Md.v_atI7, Md.v_atI8, Md.v_atI9, Md.v_atI10, Md.v_atI11, Md.v_atI12, Md.v_ixt, Md.v_ixl, Md.v_addi, Md.v_subi, Md.v_gti, Md.v_lti, Md.v_gei, Md.v_lei, Md.v_eqi, Md.v_nei, Md.v_inti, Md.v_intb, Md.v_is, Md.v_isn, Md.v_in0, Md.v_in1, Md.v_in2, Md.v_in3, Md.v_in4, Md.v_in5, Md.v_in6, Md.v_in7, Md.v_lenl, Md.v_lent, Md.v_acat, Md.v_kca, Md.v_kcat, Md.v_lam, Md.v_cap0, Md.v_capc, Md.v_cs1, Md.v_cs2, Md.v_cs3, Md.v_cs4, Md.v_runAsk, Md.v_ask, Md.v_askO, Md.v_askR1, Md.v_askR2, Md.v_lamR1, Md.v_lamR2, Md.v_nf0, Md.v_nf1, Md.v_nf2, Md.v_nf3, Md.v_nf4, Md.v_nf5, Md.v_nfa0, Md.v_nfac, Md.v_nff0, Md.v_nffc, Md.v_apo, Md.v_api, Md.v_ca5, Md.v_ca6, Md.v_ca7, Md.v_ci_3, Md.v_ci_4, Md.v_in8, Md.v_nc0, Md.v_nc1, Md.v_nc2, Md.v_nc3, Md.v_nc4, Md.v_nc5, Md.v_nc6, Md.v_nc7, Md.v_nc8, Md.v_nc9, Md.v_nc10, Md.v_nc11, Md.v_nc12, Md.v_nc13, Md.v_nc14, Md.v_nc15, Md.v_nc16, Md.v_nc17, Md.v_nc18, Md.v_nc19, Md.v_nc20, Md.v_nc21, Md.v_nc22, Md.v_nc23, Md.v_nc24, Md.v_nc25, Md.v_nc26, Md.v_nc27, Md.v_nc28, Md.v_nc29, Md.v_nc30, Md.v_nc31, Md.v_nc32, List.cons_append, List.nil_append, List.replicate_zero, List.replicate_succ, List.getElem?_cons_zero, List.getElem?_cons_succ, List.set_cons_zero, List.set_cons_succ, List.map_nil, List.map_cons, List.append_nil, Bool.not_true, Bool.not_false, Slot.put, List.length_cons, List.length_nil, List.length_append, Nat.reduceAdd, Nat.reduceLT, Nat.reduceLeDiff, Nat.reduceSub, Int.reduceLT, Int.reduceLE, Int.reduceEq, Int.reduceBEq, Int.reduceAdd, Int.reduceSub, Int.reduceMul, Int.reduceNeg, Int.reduceToNat, String.reduceBEq, decide_true, decide_false, Bool.true_and, Bool.false_and, Bool.and_true, Bool.and_false, Bool.true_or, Bool.false_or, Bool.or_true, Bool.or_false, if_true, if_false, ite_true, ite_false, Md.ofStr_beq, Bool.false_eq_true, beq_self_eq_true, reduceIte, Nat.zero_add, reduceCtorEq, ti_int_non, ti_int_bl, ti_int_int, ti_int_str, ti_int_tup, ti_int_lst, ti_int_dk, ti_int_x1, ti_int_x2, ti_bool_non, ti_bool_bl, ti_bool_int, ti_bool_str, ti_bool_tup, ti_bool_lst, ti_bool_dk, ti_bool_x1, ti_bool_x2, ti_list_tuple_non, ti_list_tuple_bl, ti_list_tuple_int, ti_list_tuple_str, ti_list_tuple_tup, ti_list_tuple_lst, ti_list_tuple_dk, ti_list_tuple_x1, ti_list_tuple_x2, ti_BadValue_non, ti_BadValue_bl, ti_BadValue_int, ti_BadValue_str, ti_BadValue_tup, ti_BadValue_lst, ti_BadValue_dk, ti_BadValue_x1, ti_BadValue_x2, ti_BadNumber_non, ti_BadNumber_bl, ti_BadNumber_int, ti_BadNumber_str, ti_BadNumber_tup, ti_BadNumber_lst, ti_BadNumber_dk, ti_BadNumber_x1, ti_BadNumber_x2, ta_part_x1, ta_part_x2, tx_RulesError_1, tx_RulesError_2, kd]
theorem turns (s0 : Slot) : ∀ (ks : List Int) (n : Int) (q0 : OO) (s2 s3 s4 s5 s6 s7 : Slot), PenQ n q0 → n + 20 * ks.length < 800000 → s2.free = true → s3.free = true → s4.free = true → s5.free = true → s6.free = true → s7.free = true →
    ∃ q' t2 t3 t4 t5 t6 t7, forGo (tName 2) b_law_l1 (ks.map D.int) [s0, .own q0, s2, s3, s4, s5, s6, s7] = .nx [s0, .own q', t2, t3, t4, t5, t6, t7]
  | [], n, q0, s2, s3, s4, s5, s6, s7, _, _, _, _, _, _, _, _ => ⟨_, _, _, _, _, _, _, rfl⟩
  | k :: ks, n, q0, s2, s3, s4, s5, s6, s7, h, hn, f2, f3, f4, f5, f6, f7 => by
    simp only [List.length_cons] at hn
    obtain ⟨q1, t3, t4, t5, t6, t7, e1, h1, g3, g4, g5, g6, g7⟩ := turn h (by omega) s0 s3 s4 s5 s6 s7 k f3 f4 f5 f6 f7
    obtain ⟨q', u2, u3, u4, u5, u6, u7, e2⟩ := turns s0 ks (n + 20) q1 (.dat (.int k)) t3 t4 t5 t6 t7 h1 (by omega) rfl g3 g4 g5 g6 g7
    refine ⟨q', u2, u3, u4, u5, u6, u7, ?_⟩
    simp only [List.map_cons, Md.v_seq, Md.v_nx, Md.v_rt, Md.v_bk, Md.v_ct, Md.v_ex, Md.v_ok, Md.v_bx, Md.v_to, Md.v_tx, Md.v_oR, Md.v_sR, Md.v_var, Md.v_k, Md.v_op2, Md.v_k2, Md.v_k3, Md.v_op1, Md.v_k1, Md.v_bR, Md.v_bool, Md.v_not, Md.v_knot, Md.v_and, Md.v_and1, Md.v_and0, Md.v_or, Md.v_or1, Md.v_or0, Md.v_nR, Md.v_notV, Md.v_aR1, Md.v_aR0, Md.v_andV, Md.v_orR1, Md.v_orR0, Md.v_orV, Md.v_if, Md.v_if1, Md.v_if0, Md.v_anil, Md.v_acons, Md.v_kac, Md.v_kad, Md.v_ob1, Md.v_ob2, Md.v_aobj, Md.v_ds0, Md.v_ds1, Md.v_ds2, Md.v_ds3, Md.v_ds4, Md.v_ds5, Md.v_ds6, Md.v_dsg, Md.v_dso, Md.v_dat0, Md.v_datc, Md.v_dco, Md.v_tup, Md.v_lst, Md.v_new, Md.v_lst', Md.v_tup', Md.v_new', Md.v_blR, Md.v_cb, Md.v_cb1, Md.v_cb2, Md.v_slR, Md.v_call, Md.v_cd1, Md.v_cd2, Md.v_ca0, Md.v_ca1, Md.v_ca2, Md.v_ca3, Md.v_ca4, Md.v_ci1, Md.v_ci2, Md.v_ciS, Md.v_ci_0, Md.v_ci_1, Md.v_ci_2, Md.v_io1, Md.v_io2, Md.v_put, Md.v_pu1, Md.v_pu2, Md.v_st1, Md.v_st2, Md.v_st3, Md.v_setE, Md.v_nxO, Md.v_set, Md.v_kset, Md.v_snew, Md.v_knew, Md.v_expr, Md.v_kex, Md.v_ret, Md.v_kret, Md.v_retN, Md.v_nil, Md.v_sif, Md.v_if_t, Md.v_if_f, Md.v_fr, Md.v_freeze, Md.v_la1, Md.v_la2, Md.v_lst_at, Md.v_ixR, Md.v_ixO, Md.v_gix, Md.v_kix, Md.v_leR, Md.v_lenO, Md.v_sput, Md.v_kpu, Md.v_gpu, Md.v_kpv, Md.v_gme, Md.v_kme, Md.v_meth, Md.v_raise, Md.v_ra1, Md.v_ra2, Md.v_par, Md.v_pa, Md.v_pa2, Md.v_tryK, Md.v_tk1, Md.v_tk2', Md.v_run, Md.v_ru1, Md.v_ru2, Md.v_ru3, Md.v_ou0, Md.v_ou1, Md.v_ou2, Md.v_it, Md.v_it1, Md.v_it2, Md.v_r1, Md.v_for, Md.v_kfo, Md.v_m1, Md.v_m1R, Md.v_m1S, Md.v_ifB, Md.v_ifB1, Md.v_ifB0, Md.v_mkD, Md.v_mkX, Md.v_make, Md.v_makeK, Md.v_mkG, Md.v_fldS, Md.v_fsR, Md.v_ins0, Md.v_fsO, Md.v_fld, Md.v_its, Md.v_lc, Md.v_lcR, Md.v_ofNew, Md.v_ofR, Md.v_chain, Md.v_ch1, Md.v_chY, Md.v_ch2t, Md.v_ch2f, Md.v_ch3, Md.v_cut, Md.v_cu1, Md.v_cu2, Md.v_cu3, Md.v_nop, Md.v_part, Md.v_ptR, Md.v_unp, Md.v_unO, Md.v_tgO, Md.v_tgs0, Md.v_tgs, Md.v_tgB, Md.v_ttt, Md.v_tname, Md.v_fg0, Md.v_fgc, Md.v_fg1, Md.v_fgn, Md.v_fgt, Md.v_fgb, Md.v_fgr, Md.v_fgx, Md.v_lc0, Md.v_lcc, Md.v_lc1, Md.v_lc2t, Md.v_lc2f, Md.v_lc3, Md.v_yes, Md.v_wi0, Md.v_wi, Md.v_re0, Md.v_re, Md.v_reS, Md.v_ow0, Md.v_ow, Md.v_oku, Md.v_okd, Md.v_lce, Md.v_lcet, Md.v_callK, Md.v_ckR, Md.v_callN, Md.v_cnd1, Md.v_cnd2, Md.v_cn0, Md.v_cn1, Md.v_cn2, Md.v_cn3, Md.v_emk0, Md.v_aug, Md.v_agS, Md.v_kag, Md.v_agO, Md.v_r2, Md.v_r2R, Md.v_r1n, Md.v_rg0, Md.v_rgs, Md.v_emk, Md.v_mkR1, Md.v_mkR2, Md.v_tkx, Md.v_tkf, Md.v_tkt, Md.v_ttl, Md.v_stf, Md.v_lk0, Md.v_lk, Md.v_lkt, Md.v_lkf, Md.v_pd0, Md.v_pd, Md.v_pdt, Md.v_pdf, Md.v_atc, Md.v_atx, Md.v_eq, Md.v_ne, Md.v_eqs, Md.v_nes, Md.v_inl, Md.v_int, Md.v_nil', Md.v_nit', Md.v_fl0, Md.v_fl1, Md.v_fl2, Md.v_fl3, Md.v_fl4, Md.v_fl5, Md.v_fa0, Md.v_fac, Md.v_q0, Md.v_q1, Md.v_q2, Md.v_q3, Md.v_q4, Md.v_q5, Md.v_q6, Md.v_q7, Md.v_qs0, Md.v_qsc, Md.v_qsn, Md.v_qns, Md.v_i0, Md.v_i1, Md.v_qa, Md.v_qb, Md.v_qc, Md.v_qd, Md.v_qe, Md.v_qf, Md.v_qg, Md.v_qh, Md.v_qi, Md.v_qj, Md.v_qk, Md.v_ql, Md.v_qm, Md.v_qn, Md.v_qo, Md.v_qp, Md.v_qq, Md.v_qr, Md.v_qs, Md.v_qt, Md.v_qu, Md.v_qv, Md.v_qw, Md.v_qx, Md.v_qy, Md.v_qz, Md.v_atI0, Md.v_atI1, Md.v_atI2, Md.v_atI3, Md.v_atI4, Md.v_atI5, Md.v_atI6, Md.v_atI7, Md.v_atI8, Md.v_atI9, Md.v_atI10, Md.v_atI11, Md.v_atI12, Md.v_ixt, Md.v_ixl, Md.v_addi, Md.v_subi, Md.v_gti, Md.v_lti, Md.v_gei, Md.v_lei, Md.v_eqi, Md.v_nei, Md.v_inti, Md.v_intb, Md.v_is, Md.v_isn, Md.v_in0, Md.v_in1, Md.v_in2, Md.v_in3, Md.v_in4, Md.v_in5, Md.v_in6, Md.v_in7, Md.v_lenl, Md.v_lent, Md.v_acat, Md.v_kca, Md.v_kcat, Md.v_lam, Md.v_cap0, Md.v_capc, Md.v_cs1, Md.v_cs2, Md.v_cs3, Md.v_cs4, Md.v_runAsk, Md.v_ask, Md.v_askO, Md.v_askR1, Md.v_askR2, Md.v_lamR1, Md.v_lamR2, Md.v_nf0, Md.v_nf1, Md.v_nf2, Md.v_nf3, Md.v_nf4, Md.v_nf5, Md.v_nfa0, Md.v_nfac, Md.v_nff0, Md.v_nffc, Md.v_apo, Md.v_api, Md.v_ca5, Md.v_ca6, Md.v_ca7, Md.v_ci_3, Md.v_ci_4, Md.v_in8, Md.v_nc0, Md.v_nc1, Md.v_nc2, Md.v_nc3, Md.v_nc4, Md.v_nc5, Md.v_nc6, Md.v_nc7, Md.v_nc8, Md.v_nc9, Md.v_nc10, Md.v_nc11, Md.v_nc12, Md.v_nc13, Md.v_nc14, Md.v_nc15, Md.v_nc16, Md.v_nc17, Md.v_nc18, Md.v_nc19, Md.v_nc20, Md.v_nc21, Md.v_nc22, Md.v_nc23, Md.v_nc24, Md.v_nc25, Md.v_nc26, Md.v_nc27, Md.v_nc28, Md.v_nc29, Md.v_nc30, Md.v_nc31, Md.v_nc32, List.cons_append, List.nil_append, List.replicate_zero, List.replicate_succ, List.getElem?_cons_zero, List.getElem?_cons_succ, List.set_cons_zero, List.set_cons_succ, List.map_nil, List.map_cons, List.append_nil, Bool.not_true, Bool.not_false, Slot.put, List.length_cons, List.length_nil, List.length_append, Nat.reduceAdd, Nat.reduceLT, Nat.reduceLeDiff, Nat.reduceSub, Int.reduceLT, Int.reduceLE, Int.reduceEq, Int.reduceBEq, Int.reduceAdd, Int.reduceSub, Int.reduceMul, Int.reduceNeg, Int.reduceToNat, String.reduceBEq, decide_true, decide_false, Bool.true_and, Bool.false_and, Bool.and_true, Bool.and_false, Bool.true_or, Bool.false_or, Bool.or_true, Bool.or_false, if_true, if_false, ite_true, ite_false, Md.ofStr_beq, Bool.false_eq_true, beq_self_eq_true, reduceIte, Nat.zero_add, reduceCtorEq, ti_int_non, ti_int_bl, ti_int_int, ti_int_str, ti_int_tup, ti_int_lst, ti_int_dk, ti_int_x1, ti_int_x2, ti_bool_non, ti_bool_bl, ti_bool_int, ti_bool_str, ti_bool_tup, ti_bool_lst, ti_bool_dk, ti_bool_x1, ti_bool_x2, ti_list_tuple_non, ti_list_tuple_bl, ti_list_tuple_int, ti_list_tuple_str, ti_list_tuple_tup, ti_list_tuple_lst, ti_list_tuple_dk, ti_list_tuple_x1, ti_list_tuple_x2, ti_BadValue_non, ti_BadValue_bl, ti_BadValue_int, ti_BadValue_str, ti_BadValue_tup, ti_BadValue_lst, ti_BadValue_dk, ti_BadValue_x1, ti_BadValue_x2, ti_BadNumber_non, ti_BadNumber_bl, ti_BadNumber_int, ti_BadNumber_str, ti_BadNumber_tup, ti_BadNumber_lst, ti_BadNumber_dk, ti_BadNumber_x1, ti_BadNumber_x2, ta_part_x1, ta_part_x2, tx_RulesError_1, tx_RulesError_2, f2, e1, e2]
theorem plain (ns : List Int) (hl : ns.length ≤ 63) (hb : ∀ z ∈ ns, PySem.Builtin.Int.intBits z ≤ 1048576) : ∃ e, sem_law [.dat (.scr ns)] = .ok (.bl true) e := by
  obtain ⟨q0, xs, rfl, e0, h0⟩ := law_pen_ok ns
  obtain ⟨q', t2, t3, t4, t5, t6, t7, e1⟩ := turns (.dat (.scr ns)) [0, 1, 2, 3, 4, 5, 6, 7] 0 (.lst xs) .unk .unk .unk .unk .unk .unk h0 (by decide) rfl rfl rfl rfl rfl rfl
  simp only [List.map_cons, List.map_nil] at e1
  have hi : ∀ e : En, r1R [Ar.d (.int 8)] e = .ok [.int 0, .int 1, .int 2, .int 3, .int 4, .int 5, .int 6, .int 7] e := fun e => v_r1n (by decide) (by decide)
  have k2 := (for_t 2 3 5 false (bt_sm (by decide) (by decide)) (bt_sm (by decide) (by decide)) (bt_sm (by decide) (by decide)) (by decide) (by decide) (by decide) (by decide) (by decide)).1
  have k3 := (for_t 2 3 5 true (bt_sm (by decide) (by decide)) (bt_sm (by decide) (by decide)) (bt_sm (by decide) (by decide)) (by decide) (by decide) (by decide) (by decide) (by decide)).1
  have k4 := (for_t 0 1 9 true (bt_sm (by decide) (by decide)) (bt_sm (by decide) (by decide)) (bt_sm (by decide) (by decide)) (by decide) (by decide) (by decide) (by decide) (by decide)).1
  have k5 := (for_t 0 1 9 false (bt_sm (by decide) (by decide)) (bt_sm (by decide) (by decide)) (bt_sm (by decide) (by decide)) (by decide) (by decide) (by decide) (by decide) (by decide)).1
  rw [show LM 2 3 false 5 = .int 10 from rfl] at k2
  rw [show LM 2 3 true 5 = .int 11 from rfl] at k3
  rw [show LM 0 1 true 9 = .int 1 from rfl] at k4
  rw [show LM 0 1 false 9 = .int 0 from rfl] at k5
  have rp : bRepr [.lst [.int 10, .int 11, .int 1, .int 0]] = some (.str (Str.ofString "[10, 11, 1, 0]")) := by kernel_rfl
  refine ⟨[.dat (.scr ns)], ?_⟩
  simp only [sem_law, b_law, b_law_s7, Md.v_seq, Md.v_nx, Md.v_rt, Md.v_bk, Md.v_ct, Md.v_ex, Md.v_ok, Md.v_bx, Md.v_to, Md.v_tx, Md.v_oR, Md.v_sR, Md.v_var, Md.v_k, Md.v_op2, Md.v_k2, Md.v_k3, Md.v_op1, Md.v_k1, Md.v_bR, Md.v_bool, Md.v_not, Md.v_knot, Md.v_and, Md.v_and1, Md.v_and0, Md.v_or, Md.v_or1, Md.v_or0, Md.v_nR, Md.v_notV, Md.v_aR1, Md.v_aR0, Md.v_andV, Md.v_orR1, Md.v_orR0, Md.v_orV, Md.v_if, Md.v_if1, Md.v_if0, Md.v_anil, Md.v_acons, Md.v_kac, Md.v_kad, Md.v_ob1, Md.v_ob2, Md.v_aobj, Md.v_ds0, Md.v_ds1, Md.v_ds2, Md.v_ds3, Md.v_ds4, Md.v_ds5, Md.v_ds6, Md.v_dsg, Md.v_dso, Md.v_dat0, Md.v_datc, Md.v_dco, Md.v_tup, Md.v_lst, Md.v_new, Md.v_lst', Md.v_tup', Md.v_new', Md.v_blR, Md.v_cb, Md.v_cb1, Md.v_cb2, Md.v_slR, Md.v_call, Md.v_cd1, Md.v_cd2, Md.v_ca0, Md.v_ca1, Md.v_ca2, Md.v_ca3, Md.v_ca4, Md.v_ci1, Md.v_ci2, Md.v_ciS, Md.v_ci_0, Md.v_ci_1, Md.v_ci_2, Md.v_io1, Md.v_io2, Md.v_put, Md.v_pu1, Md.v_pu2, Md.v_st1, Md.v_st2, Md.v_st3, Md.v_setE, Md.v_nxO, Md.v_set, Md.v_kset, Md.v_snew, Md.v_knew, Md.v_expr, Md.v_kex, Md.v_ret, Md.v_kret, Md.v_retN, Md.v_nil, Md.v_sif, Md.v_if_t, Md.v_if_f, Md.v_fr, Md.v_freeze, Md.v_la1, Md.v_la2, Md.v_lst_at, Md.v_ixR, Md.v_ixO, Md.v_gix, Md.v_kix, Md.v_leR, Md.v_lenO, Md.v_sput, Md.v_kpu, Md.v_gpu, Md.v_kpv, Md.v_gme, Md.v_kme, Md.v_meth, Md.v_raise, Md.v_ra1, Md.v_ra2, Md.v_par, Md.v_pa, Md.v_pa2, Md.v_tryK, Md.v_tk1, Md.v_tk2', Md.v_run, Md.v_ru1, Md.v_ru2, Md.v_ru3, Md.v_ou0, Md.v_ou1, Md.v_ou2, Md.v_it, Md.v_it1, Md.v_it2, Md.v_r1, Md.v_for, Md.v_kfo, Md.v_m1, Md.v_m1R, Md.v_m1S, Md.v_ifB, Md.v_ifB1, Md.v_ifB0, Md.v_mkD, Md.v_mkX, Md.v_make, Md.v_makeK, Md.v_mkG, Md.v_fldS, Md.v_fsR, Md.v_ins0, Md.v_fsO, Md.v_fld, Md.v_its, Md.v_lc, Md.v_lcR, Md.v_ofNew, Md.v_ofR, Md.v_chain, Md.v_ch1, Md.v_chY, Md.v_ch2t, Md.v_ch2f, Md.v_ch3, Md.v_cut, Md.v_cu1, Md.v_cu2, Md.v_cu3, Md.v_nop, Md.v_part, Md.v_ptR, Md.v_unp, Md.v_unO, Md.v_tgO, Md.v_tgs0, Md.v_tgs, Md.v_tgB, Md.v_ttt, Md.v_tname, Md.v_fg1, Md.v_fgn, Md.v_fgt, Md.v_fgb, Md.v_fgr, Md.v_fgx, Md.v_lc1, Md.v_lc2t, Md.v_lc2f, Md.v_lc3, Md.v_yes, Md.v_wi0, Md.v_wi, Md.v_re0, Md.v_re, Md.v_reS, Md.v_ow0, Md.v_ow, Md.v_oku, Md.v_okd, Md.v_lce, Md.v_lcet, Md.v_callK, Md.v_ckR, Md.v_callN, Md.v_cnd1, Md.v_cnd2, Md.v_cn0, Md.v_cn1, Md.v_cn2, Md.v_cn3, Md.v_emk0, Md.v_aug, Md.v_agS, Md.v_kag, Md.v_agO, Md.v_r2, Md.v_r2R, Md.v_r1n, Md.v_emk, Md.v_mkR1, Md.v_mkR2, Md.v_tkx, Md.v_tkf, Md.v_tkt, Md.v_ttl, Md.v_stf, Md.v_lk0, Md.v_lk, Md.v_lkt, Md.v_lkf, Md.v_pd0, Md.v_pd, Md.v_pdt, Md.v_pdf, Md.v_atc, Md.v_atx, Md.v_eq, Md.v_ne, Md.v_eqs, Md.v_nes, Md.v_inl, Md.v_int, Md.v_nil', Md.v_nit', Md.v_fl0, Md.v_fl1, Md.v_fl2, Md.v_fl3, Md.v_fl4, Md.v_fl5, Md.v_fa0, Md.v_fac, Md.v_q0, Md.v_q1, Md.v_q2, Md.v_q3, Md.v_q4, Md.v_q5, Md.v_q6, Md.v_q7, Md.v_qs0, Md.v_qsc, Md.v_qsn, Md.v_qns, Md.v_i0, Md.v_i1, Md.v_qa, Md.v_qb, Md.v_qc, Md.v_qd, Md.v_qe, Md.v_qf, Md.v_qg, Md.v_qh, Md.v_qi, Md.v_qj, Md.v_qk, Md.v_ql, Md.v_qm, Md.v_qn, Md.v_qo, Md.v_qp, Md.v_qq, Md.v_qr, Md.v_qs, Md.v_qt, Md.v_qu, Md.v_qv, Md.v_qw, Md.v_qx, Md.v_qy, Md.v_qz, Md.v_atI0, Md.v_atI1, Md.v_atI2, Md.v_atI3, Md.v_atI4, Md.v_atI5, Md.v_atI6, Md.v_atI7, Md.v_atI8, Md.v_atI9, Md.v_atI10, Md.v_atI11, Md.v_atI12, Md.v_ixt, Md.v_ixl, Md.v_addi, Md.v_subi, Md.v_gti, Md.v_lti, Md.v_gei, Md.v_lei, Md.v_eqi, Md.v_nei, Md.v_inti, Md.v_intb, Md.v_is, Md.v_isn, Md.v_in0, Md.v_in1, Md.v_in2, Md.v_in3, Md.v_in4, Md.v_in5, Md.v_in6, Md.v_in7, Md.v_lenl, Md.v_lent, Md.v_acat, Md.v_kca, Md.v_kcat, Md.v_lam, Md.v_cap0, Md.v_capc, Md.v_cs1, Md.v_cs2, Md.v_cs3, Md.v_cs4, Md.v_runAsk, Md.v_ask, Md.v_askO, Md.v_askR1, Md.v_askR2, Md.v_lamR1, Md.v_lamR2, Md.v_nf0, Md.v_nf1, Md.v_nf2, Md.v_nf3, Md.v_nf4, Md.v_nf5, Md.v_nfa0, Md.v_nfac, Md.v_nff0, Md.v_nffc, Md.v_apo, Md.v_api, Md.v_ca5, Md.v_ca6, Md.v_ca7, Md.v_ci_3, Md.v_ci_4, Md.v_in8, Md.v_nc0, Md.v_nc1, Md.v_nc2, Md.v_nc3, Md.v_nc4, Md.v_nc5, Md.v_nc6, Md.v_nc7, Md.v_nc8, Md.v_nc9, Md.v_nc10, Md.v_nc11, Md.v_nc12, Md.v_nc13, Md.v_nc14, Md.v_nc15, Md.v_nc16, Md.v_nc17, Md.v_nc18, Md.v_nc19, Md.v_nc20, Md.v_nc21, Md.v_nc22, Md.v_nc23, Md.v_nc24, Md.v_nc25, Md.v_nc26, Md.v_nc27, Md.v_nc28, Md.v_nc29, Md.v_nc30, Md.v_nc31, Md.v_nc32, List.cons_append, List.nil_append, List.replicate_zero, List.replicate_succ, List.getElem?_cons_zero, List.getElem?_cons_succ, List.set_cons_zero, List.set_cons_succ, List.map_nil, List.map_cons, List.append_nil, Bool.not_true, Bool.not_false, Slot.put, List.length_cons, List.length_nil, List.length_append, Nat.reduceAdd, Nat.reduceLT, Nat.reduceLeDiff, Nat.reduceSub, Int.reduceLT, Int.reduceLE, Int.reduceEq, Int.reduceBEq, Int.reduceAdd, Int.reduceSub, Int.reduceMul, Int.reduceNeg, Int.reduceToNat, String.reduceBEq, decide_true, decide_false, Bool.true_and, Bool.false_and, Bool.and_true, Bool.and_false, Bool.true_or, Bool.false_or, Bool.or_true, Bool.or_false, if_true, if_false, ite_true, ite_false, Md.ofStr_beq, Bool.false_eq_true, beq_self_eq_true, reduceIte, Nat.zero_add, reduceCtorEq, ti_int_non, ti_int_bl, ti_int_int, ti_int_str, ti_int_tup, ti_int_lst, ti_int_dk, ti_int_x1, ti_int_x2, ti_bool_non, ti_bool_bl, ti_bool_int, ti_bool_str, ti_bool_tup, ti_bool_lst, ti_bool_dk, ti_bool_x1, ti_bool_x2, ti_list_tuple_non, ti_list_tuple_bl, ti_list_tuple_int, ti_list_tuple_str, ti_list_tuple_tup, ti_list_tuple_lst, ti_list_tuple_dk, ti_list_tuple_x1, ti_list_tuple_x2, ti_BadValue_non, ti_BadValue_bl, ti_BadValue_int, ti_BadValue_str, ti_BadValue_tup, ti_BadValue_lst, ti_BadValue_dk, ti_BadValue_x1, ti_BadValue_x2, ti_BadNumber_non, ti_BadNumber_bl, ti_BadNumber_int, ti_BadNumber_str, ti_BadNumber_tup, ti_BadNumber_lst, ti_BadNumber_dk, ti_BadNumber_x1, ti_BadNumber_x2, ta_part_x1, ta_part_x2, tx_RulesError_1, tx_RulesError_2, e0, hi, e1]
  simp only [b_law_s6, Md.v_seq, Md.v_nx, Md.v_rt, Md.v_bk, Md.v_ct, Md.v_ex, Md.v_ok, Md.v_bx, Md.v_to, Md.v_tx, Md.v_oR, Md.v_sR, Md.v_var, Md.v_k, Md.v_op2, Md.v_k2, Md.v_k3, Md.v_op1, Md.v_k1, Md.v_bR, Md.v_bool, Md.v_not, Md.v_knot, Md.v_and, Md.v_and1, Md.v_and0, Md.v_or, Md.v_or1, Md.v_or0, Md.v_nR, Md.v_notV, Md.v_aR1, Md.v_aR0, Md.v_andV, Md.v_orR1, Md.v_orR0, Md.v_orV, Md.v_if, Md.v_if1, Md.v_if0, Md.v_anil, Md.v_acons, Md.v_kac, Md.v_kad, Md.v_ob1, Md.v_ob2, Md.v_aobj, Md.v_ds0, Md.v_ds1, Md.v_ds2, Md.v_ds3, Md.v_ds4, Md.v_ds5, Md.v_ds6, Md.v_dsg, Md.v_dso, Md.v_dat0, Md.v_datc, Md.v_dco, Md.v_tup, Md.v_lst, Md.v_new, Md.v_lst', Md.v_tup', Md.v_new', Md.v_blR, Md.v_cb, Md.v_cb1, Md.v_cb2, Md.v_slR, Md.v_call, Md.v_cd1, Md.v_cd2, Md.v_ca0, Md.v_ca1, Md.v_ca2, Md.v_ca3, Md.v_ca4, Md.v_ci1, Md.v_ci2, Md.v_ciS, Md.v_ci_0, Md.v_ci_1, Md.v_ci_2, Md.v_io1, Md.v_io2, Md.v_put, Md.v_pu1, Md.v_pu2, Md.v_st1, Md.v_st2, Md.v_st3, Md.v_setE, Md.v_nxO, Md.v_set, Md.v_kset, Md.v_snew, Md.v_knew, Md.v_expr, Md.v_kex, Md.v_ret, Md.v_kret, Md.v_retN, Md.v_nil, Md.v_sif, Md.v_if_t, Md.v_if_f, Md.v_fr, Md.v_freeze, Md.v_la1, Md.v_la2, Md.v_lst_at, Md.v_ixR, Md.v_ixO, Md.v_gix, Md.v_kix, Md.v_leR, Md.v_lenO, Md.v_sput, Md.v_kpu, Md.v_gpu, Md.v_kpv, Md.v_gme, Md.v_kme, Md.v_meth, Md.v_raise, Md.v_ra1, Md.v_ra2, Md.v_par, Md.v_pa, Md.v_pa2, Md.v_tryK, Md.v_tk1, Md.v_tk2', Md.v_run, Md.v_ru1, Md.v_ru2, Md.v_ru3, Md.v_ou0, Md.v_ou1, Md.v_ou2, Md.v_it, Md.v_it1, Md.v_it2, Md.v_r1, Md.v_for, Md.v_kfo, Md.v_m1, Md.v_m1R, Md.v_m1S, Md.v_ifB, Md.v_ifB1, Md.v_ifB0, Md.v_mkD, Md.v_mkX, Md.v_make, Md.v_makeK, Md.v_mkG, Md.v_fldS, Md.v_fsR, Md.v_ins0, Md.v_fsO, Md.v_fld, Md.v_its, Md.v_lc, Md.v_lcR, Md.v_ofNew, Md.v_ofR, Md.v_chain, Md.v_ch1, Md.v_chY, Md.v_ch2t, Md.v_ch2f, Md.v_ch3, Md.v_cut, Md.v_cu1, Md.v_cu2, Md.v_cu3, Md.v_nop, Md.v_part, Md.v_ptR, Md.v_unp, Md.v_unO, Md.v_tgO, Md.v_tgs0, Md.v_tgs, Md.v_tgB, Md.v_ttt, Md.v_tname, Md.v_fg1, Md.v_fgn, Md.v_fgt, Md.v_fgb, Md.v_fgr, Md.v_fgx, Md.v_lc1, Md.v_lc2t, Md.v_lc2f, Md.v_lc3, Md.v_yes, Md.v_wi0, Md.v_wi, Md.v_re0, Md.v_re, Md.v_reS, Md.v_ow0, Md.v_ow, Md.v_oku, Md.v_okd, Md.v_lce, Md.v_lcet, Md.v_callK, Md.v_ckR, Md.v_callN, Md.v_cnd1, Md.v_cnd2, Md.v_cn0, Md.v_cn1, Md.v_cn2, Md.v_cn3, Md.v_emk0, Md.v_aug, Md.v_agS, Md.v_kag, Md.v_agO, Md.v_r2, Md.v_r2R, Md.v_r1n, Md.v_emk, Md.v_mkR1, Md.v_mkR2, Md.v_tkx, Md.v_tkf, Md.v_tkt, Md.v_ttl, Md.v_stf, Md.v_lk0, Md.v_lk, Md.v_lkt, Md.v_lkf, Md.v_pd0, Md.v_pd, Md.v_pdt, Md.v_pdf, Md.v_atc, Md.v_atx, Md.v_eq, Md.v_ne, Md.v_eqs, Md.v_nes, Md.v_inl, Md.v_int, Md.v_nil', Md.v_nit', Md.v_fl0, Md.v_fl1, Md.v_fl2, Md.v_fl3, Md.v_fl4, Md.v_fl5, Md.v_fa0, Md.v_fac, Md.v_q0, Md.v_q1, Md.v_q2, Md.v_q3, Md.v_q4, Md.v_q5, Md.v_q6, Md.v_q7, Md.v_qs0, Md.v_qsc, Md.v_qsn, Md.v_qns, Md.v_i0, Md.v_i1, Md.v_qa, Md.v_qb, Md.v_qc, Md.v_qd, Md.v_qe, Md.v_qf, Md.v_qg, Md.v_qh, Md.v_qi, Md.v_qj, Md.v_qk, Md.v_ql, Md.v_qm, Md.v_qn, Md.v_qo, Md.v_qp, Md.v_qq, Md.v_qr, Md.v_qs, Md.v_qt, Md.v_qu, Md.v_qv, Md.v_qw, Md.v_qx, Md.v_qy, Md.v_qz, Md.v_atI0, Md.v_atI1, Md.v_atI2, Md.v_atI3, Md.v_atI4, Md.v_atI5, Md.v_atI6, Md.v_atI7, Md.v_atI8, Md.v_atI9, Md.v_atI10, Md.v_atI11, Md.v_atI12, Md.v_ixt, Md.v_ixl, Md.v_addi, Md.v_subi, Md.v_gti, Md.v_lti, Md.v_gei, Md.v_lei, Md.v_eqi, Md.v_nei, Md.v_inti, Md.v_intb, Md.v_is, Md.v_isn, Md.v_in0, Md.v_in1, Md.v_in2, Md.v_in3, Md.v_in4, Md.v_in5, Md.v_in6, Md.v_in7, Md.v_lenl, Md.v_lent, Md.v_acat, Md.v_kca, Md.v_kcat, Md.v_lam, Md.v_cap0, Md.v_capc, Md.v_cs1, Md.v_cs2, Md.v_cs3, Md.v_cs4, Md.v_runAsk, Md.v_ask, Md.v_askO, Md.v_askR1, Md.v_askR2, Md.v_lamR1, Md.v_lamR2, Md.v_nf0, Md.v_nf1, Md.v_nf2, Md.v_nf3, Md.v_nf4, Md.v_nf5, Md.v_nfa0, Md.v_nfac, Md.v_nff0, Md.v_nffc, Md.v_apo, Md.v_api, Md.v_ca5, Md.v_ca6, Md.v_ca7, Md.v_ci_3, Md.v_ci_4, Md.v_in8, Md.v_nc0, Md.v_nc1, Md.v_nc2, Md.v_nc3, Md.v_nc4, Md.v_nc5, Md.v_nc6, Md.v_nc7, Md.v_nc8, Md.v_nc9, Md.v_nc10, Md.v_nc11, Md.v_nc12, Md.v_nc13, Md.v_nc14, Md.v_nc15, Md.v_nc16, Md.v_nc17, Md.v_nc18, Md.v_nc19, Md.v_nc20, Md.v_nc21, Md.v_nc22, Md.v_nc23, Md.v_nc24, Md.v_nc25, Md.v_nc26, Md.v_nc27, Md.v_nc28, Md.v_nc29, Md.v_nc30, Md.v_nc31, Md.v_nc32, List.cons_append, List.nil_append, List.replicate_zero, List.replicate_succ, List.getElem?_cons_zero, List.getElem?_cons_succ, List.set_cons_zero, List.set_cons_succ, List.map_nil, List.map_cons, List.append_nil, Bool.not_true, Bool.not_false, Slot.put, List.length_cons, List.length_nil, List.length_append, Nat.reduceAdd, Nat.reduceLT, Nat.reduceLeDiff, Nat.reduceSub, Int.reduceLT, Int.reduceLE, Int.reduceEq, Int.reduceBEq, Int.reduceAdd, Int.reduceSub, Int.reduceMul, Int.reduceNeg, Int.reduceToNat, String.reduceBEq, decide_true, decide_false, Bool.true_and, Bool.false_and, Bool.and_true, Bool.and_false, Bool.true_or, Bool.false_or, Bool.or_true, Bool.or_false, if_true, if_false, ite_true, ite_false, Md.ofStr_beq, Bool.false_eq_true, beq_self_eq_true, reduceIte, Nat.zero_add, reduceCtorEq, ti_int_non, ti_int_bl, ti_int_int, ti_int_str, ti_int_tup, ti_int_lst, ti_int_dk, ti_int_x1, ti_int_x2, ti_bool_non, ti_bool_bl, ti_bool_int, ti_bool_str, ti_bool_tup, ti_bool_lst, ti_bool_dk, ti_bool_x1, ti_bool_x2, ti_list_tuple_non, ti_list_tuple_bl, ti_list_tuple_int, ti_list_tuple_str, ti_list_tuple_tup, ti_list_tuple_lst, ti_list_tuple_dk, ti_list_tuple_x1, ti_list_tuple_x2, ti_BadValue_non, ti_BadValue_bl, ti_BadValue_int, ti_BadValue_str, ti_BadValue_tup, ti_BadValue_lst, ti_BadValue_dk, ti_BadValue_x1, ti_BadValue_x2, ti_BadNumber_non, ti_BadNumber_bl, ti_BadNumber_int, ti_BadNumber_str, ti_BadNumber_tup, ti_BadNumber_lst, ti_BadNumber_dk, ti_BadNumber_x1, ti_BadNumber_x2, ta_part_x1, ta_part_x2, tx_RulesError_1, tx_RulesError_2, k2, k3, k4, k5, rp]
end Lw

open PySem PySem.W PyProof.Rows
set_option maxRecDepth 100000 in
set_option maxHeartbeats 0 in
theorem PySem.Challenge.cw_whoeverrules_k53_members_for_shares_holds : PySem.Challenge.rw_whoeverrules_k53_members_for_shares.Holds := by
  w_on; o_law; k_head; (case hw => w_witness2)
  k_fill
  refine Md.walkG (l := PySem.Challenge.rw_whoeverrules_k53_members_for_shares) (n := 63) (k := 8) (x := "script") (sem := Lw.sem_law) ["_law_refused_right"] rfl (by decide) rfl ⟨rfl, by decide, by decide⟩ (fun w h Y => PySem.W.km_in_of Y) (fun y hy => by simp only [List.mem_cons, List.not_mem_nil, or_false] at hy; rcases hy with rfl <;> decide +kernel) Lw.plain ?F
  case F =>
    intro w mg fa h KX G hmg
    refine' Lw.all_mk KX G hmg ?g_RulesError ?g_BadValue ?g_BadNumber ?a_is_integer ?l_is_integer ?q_is_integer ?k_is_integer ?a_need_integer ?l_need_integer ?q_need_integer ?k_need_integer ?d_need_integer ?a_is_share ?l_is_share ?q_is_share ?k_is_share ?a_least_members ?l_least_members ?q_least_members ?k_least_members ?a_members_for ?l_members_for ?q_members_for ?k_members_for ?a__law_pen ?l__law_pen ?q__law_pen ?k__law_pen ?a__law_draw ?l__law_draw ?q__law_draw ?k__law_draw ?a__law_pick ?l__law_pick ?q__law_pick ?k__law_pick ?a__law_great ?l__law_great ?q__law_great ?k__law_great ?a__law_has ?l__law_has ?q__law_has ?k__law_has ?a__law_is_least ?l__law_is_least ?q__law_is_least ?k__law_is_least ?a__law_refused ?l__law_refused ?q__law_refused ?k__law_refused ?a__law_refused_right ?l__law_refused_right ?q__law_refused_right ?tb__law_refused_right ?tn__law_refused_right ?k__law_refused_right ?a_law ?l_law ?q_law ?k_law ?nb_abs ?nb_bool ?nb_int ?nb_isinstance ?nb_len ?nb_list ?nb_range ?nb_repr ?nb_tuple ?x_BadValue ?sa_BadValue ?eb_BadValue ?ty_BadValue ?kc_BadValue ?ga_BadValue ?gg_BadValue ?hd_BadValue ?ca_BadValue ?mo_BadValue ?nf_BadValue_part ?ii_BadValue ?it_BadValue ?il_BadValue ?iq_BadValue ?ik_BadValue ?x_BadNumber ?sa_BadNumber ?eb_BadNumber ?ty_BadNumber ?kc_BadNumber ?ga_BadNumber ?gg_BadNumber ?hd_BadNumber ?ca_BadNumber ?mo_BadNumber ?nf_BadNumber_part ?ii_BadNumber ?it_BadNumber ?il_BadNumber ?iq_BadNumber ?ik_BadNumber ?oc_g ?oc_t ?eb_RulesError ?hd_RulesError ?ty_RulesError ?xs_RulesError_BadValue ?xs_RulesError_BadNumber ?is_int_b_NoneType ?is_int_b_bool ?is_int_b_int ?is_int_b_str ?is_int_b_tuple ?is_int_b_list ?is_int_b_dict ?is_int_x_BadValue ?is_int_x_BadNumber ?is_bool_b_NoneType ?is_bool_b_bool ?is_bool_b_int ?is_bool_b_str ?is_bool_b_tuple ?is_bool_b_list ?is_bool_b_dict ?is_bool_x_BadValue ?is_bool_x_BadNumber ?is_list_tuple_b_NoneType ?is_list_tuple_b_bool ?is_list_tuple_b_int ?is_list_tuple_b_str ?is_list_tuple_b_tuple ?is_list_tuple_b_list ?is_list_tuple_b_dict ?is_list_tuple_x_BadValue ?is_list_tuple_x_BadNumber ?is_BadValue_b_NoneType ?is_BadValue_b_bool ?is_BadValue_b_int ?is_BadValue_b_str ?is_BadValue_b_tuple ?is_BadValue_b_list ?is_BadValue_b_dict ?is_BadValue_x_BadValue ?is_BadValue_x_BadNumber ?is_BadNumber_b_NoneType ?is_BadNumber_b_bool ?is_BadNumber_b_int ?is_BadNumber_b_str ?is_BadNumber_b_tuple ?is_BadNumber_b_list ?is_BadNumber_b_dict ?is_BadNumber_x_BadValue ?is_BadNumber_x_BadNumber
    (case g_RulesError => k_is)
    (case g_BadValue => k_is)
    (case g_BadNumber => k_is)
    (case a_is_integer => k_is)
    (case l_is_integer => k_is)
    (case q_is_integer => k_is)
    (case k_is_integer => k_is)
    (case a_need_integer => k_is)
    (case l_need_integer => k_is)
    (case q_need_integer => k_is)
    (case k_need_integer => k_is)
    (case d_need_integer => k_is)
    (case a_is_share => k_is)
    (case l_is_share => k_is)
    (case q_is_share => k_is)
    (case k_is_share => k_is)
    (case a_least_members => k_is)
    (case l_least_members => k_is)
    (case q_least_members => k_is)
    (case k_least_members => k_is)
    (case a_members_for => k_is)
    (case l_members_for => k_is)
    (case q_members_for => k_is)
    (case k_members_for => k_is)
    (case a__law_pen => k_is)
    (case l__law_pen => k_is)
    (case q__law_pen => k_is)
    (case k__law_pen => k_is)
    (case a__law_draw => k_is)
    (case l__law_draw => k_is)
    (case q__law_draw => k_is)
    (case k__law_draw => k_is)
    (case a__law_pick => k_is)
    (case l__law_pick => k_is)
    (case q__law_pick => k_is)
    (case k__law_pick => k_is)
    (case a__law_great => k_is)
    (case l__law_great => k_is)
    (case q__law_great => k_is)
    (case k__law_great => k_is)
    (case a__law_has => k_is)
    (case l__law_has => k_is)
    (case q__law_has => k_is)
    (case k__law_has => k_is)
    (case a__law_is_least => k_is)
    (case l__law_is_least => k_is)
    (case q__law_is_least => k_is)
    (case k__law_is_least => k_is)
    (case a__law_refused => k_is)
    (case l__law_refused => k_is)
    (case q__law_refused => k_is)
    (case k__law_refused => k_is)
    (case a__law_refused_right => k_is)
    (case l__law_refused_right => k_is)
    (case q__law_refused_right => k_is)
    (case tb__law_refused_right => first | k_is | rfl | decide)
    (case tn__law_refused_right => first | k_is | rfl | decide)
    (case k__law_refused_right => k_is)
    (case a_law => k_is)
    (case l_law => k_is)
    (case q_law => k_is)
    (case k_law => k_is)
    (case nb_abs => k_is)
    (case nb_bool => k_is)
    (case nb_int => k_is)
    (case nb_isinstance => k_is)
    (case nb_len => k_is)
    (case nb_list => k_is)
    (case nb_range => k_is)
    (case nb_repr => k_is)
    (case nb_tuple => k_is)
    (case x_BadValue => k_is)
    (case sa_BadValue => k_is)
    (case eb_BadValue => k_is)
    (case ty_BadValue => k_is)
    (case kc_BadValue => k_is)
    (case ga_BadValue => k_is)
    (case gg_BadValue => k_is)
    (case hd_BadValue => k_is)
    (case ca_BadValue => k_is)
    (case mo_BadValue => k_is)
    (case nf_BadValue_part => k_is)
    (case ii_BadValue => k_is)
    (case it_BadValue => k_is)
    (case il_BadValue => k_is)
    (case iq_BadValue => k_is)
    (case ik_BadValue => k_is)
    (case x_BadNumber => k_is)
    (case sa_BadNumber => k_is)
    (case eb_BadNumber => k_is)
    (case ty_BadNumber => k_is)
    (case kc_BadNumber => k_is)
    (case ga_BadNumber => k_is)
    (case gg_BadNumber => k_is)
    (case hd_BadNumber => k_is)
    (case ca_BadNumber => k_is)
    (case mo_BadNumber => k_is)
    (case nf_BadNumber_part => k_is)
    (case ii_BadNumber => k_is)
    (case it_BadNumber => k_is)
    (case il_BadNumber => k_is)
    (case iq_BadNumber => k_is)
    (case ik_BadNumber => k_is)
    (case oc_g => k_is)
    (case oc_t => k_is)
    (case eb_RulesError => k_is)
    (case hd_RulesError => k_is)
    (case ty_RulesError => k_is)
    (case xs_RulesError_BadValue => k_is)
    (case xs_RulesError_BadNumber => k_is)
    (case is_int_b_NoneType => first | kit_is | exact L2.kit_ty (by decide +kernel))
    (case is_int_b_bool => first | kit_is | exact L2.kit_ty (by decide +kernel))
    (case is_int_b_int => first | kit_is | exact L2.kit_ty (by decide +kernel))
    (case is_int_b_str => first | kit_is | exact L2.kit_ty (by decide +kernel))
    (case is_int_b_tuple => first | kit_is | exact L2.kit_ty (by decide +kernel))
    (case is_int_b_list => first | kit_is | exact L2.kit_ty (by decide +kernel))
    (case is_int_b_dict => first | kit_is | exact L2.kit_ty (by decide +kernel))
    (case is_int_x_BadValue => first | kit_is | exact L2.kit_ty (by decide +kernel))
    (case is_int_x_BadNumber => first | kit_is | exact L2.kit_ty (by decide +kernel))
    (case is_bool_b_NoneType => first | kit_is | exact L2.kit_ty (by decide +kernel))
    (case is_bool_b_bool => first | kit_is | exact L2.kit_ty (by decide +kernel))
    (case is_bool_b_int => first | kit_is | exact L2.kit_ty (by decide +kernel))
    (case is_bool_b_str => first | kit_is | exact L2.kit_ty (by decide +kernel))
    (case is_bool_b_tuple => first | kit_is | exact L2.kit_ty (by decide +kernel))
    (case is_bool_b_list => first | kit_is | exact L2.kit_ty (by decide +kernel))
    (case is_bool_b_dict => first | kit_is | exact L2.kit_ty (by decide +kernel))
    (case is_bool_x_BadValue => first | kit_is | exact L2.kit_ty (by decide +kernel))
    (case is_bool_x_BadNumber => first | kit_is | exact L2.kit_ty (by decide +kernel))
    (case is_list_tuple_b_NoneType => first | kit_is | exact L2.kit_ty (by decide +kernel))
    (case is_list_tuple_b_bool => first | kit_is | exact L2.kit_ty (by decide +kernel))
    (case is_list_tuple_b_int => first | kit_is | exact L2.kit_ty (by decide +kernel))
    (case is_list_tuple_b_str => first | kit_is | exact L2.kit_ty (by decide +kernel))
    (case is_list_tuple_b_tuple => first | kit_is | exact L2.kit_ty (by decide +kernel))
    (case is_list_tuple_b_list => first | kit_is | exact L2.kit_ty (by decide +kernel))
    (case is_list_tuple_b_dict => first | kit_is | exact L2.kit_ty (by decide +kernel))
    (case is_list_tuple_x_BadValue => first | kit_is | exact L2.kit_ty (by decide +kernel))
    (case is_list_tuple_x_BadNumber => first | kit_is | exact L2.kit_ty (by decide +kernel))
    (case is_BadValue_b_NoneType => first | kit_is | exact L2.kit_ty (by decide +kernel))
    (case is_BadValue_b_bool => first | kit_is | exact L2.kit_ty (by decide +kernel))
    (case is_BadValue_b_int => first | kit_is | exact L2.kit_ty (by decide +kernel))
    (case is_BadValue_b_str => first | kit_is | exact L2.kit_ty (by decide +kernel))
    (case is_BadValue_b_tuple => first | kit_is | exact L2.kit_ty (by decide +kernel))
    (case is_BadValue_b_list => first | kit_is | exact L2.kit_ty (by decide +kernel))
    (case is_BadValue_b_dict => first | kit_is | exact L2.kit_ty (by decide +kernel))
    (case is_BadValue_x_BadValue => first | kit_is | exact L2.kit_ty (by decide +kernel))
    (case is_BadValue_x_BadNumber => first | kit_is | exact L2.kit_ty (by decide +kernel))
    (case is_BadNumber_b_NoneType => first | kit_is | exact L2.kit_ty (by decide +kernel))
    (case is_BadNumber_b_bool => first | kit_is | exact L2.kit_ty (by decide +kernel))
    (case is_BadNumber_b_int => first | kit_is | exact L2.kit_ty (by decide +kernel))
    (case is_BadNumber_b_str => first | kit_is | exact L2.kit_ty (by decide +kernel))
    (case is_BadNumber_b_tuple => first | kit_is | exact L2.kit_ty (by decide +kernel))
    (case is_BadNumber_b_list => first | kit_is | exact L2.kit_ty (by decide +kernel))
    (case is_BadNumber_b_dict => first | kit_is | exact L2.kit_ty (by decide +kernel))
    (case is_BadNumber_x_BadValue => first | kit_is | exact L2.kit_ty (by decide +kernel))
    (case is_BadNumber_x_BadNumber => first | kit_is | exact L2.kit_ty (by decide +kernel))
