import PyProof.Rows.All
import Wide.All
import OpenK.AllK
import Wide.FinOn
import HandS.ForMost
import HandS.ForExc
import HandS.Wide
import HandS.IsInst
import HandS.ExcIs
import HandS.Evl
import KE.KeyNested
import HandS.Lambda
import HandS.Nested
import PyProof.DictMoreH
import HandS.Deep
import HandS.TupAny
import HandS.TupMul
import HandS.Defaults
import HandS.HeadHook1
import HandS.HeadHook2
import HandS.HeadHook3
import HandS.HeadHook4
import HandS.HeadEnd
import HandS.Head0
import HandS.Head1
import HandS.Head2
import KE.IntBitsLaws
import HandS.RevRange
import HandS.Style
import HandS.Text
import HandS.Comp
import KE.GoesRaise
import PySem.Challenge.RW_scoreflow_k23_texts_refused
set_option Elab.async false
set_option linter.all false
set_option maxRecDepth 100000
set_option maxHeartbeats 1000000
/-! Fw1: a layer over HandS: expressions and statements read at plain data (slots, a store of changing objects), the tuples and texts hidden. -/
namespace G91
open PySem PySem.Spec PyProof.Rows L2
open Evl (Ex)

/-- a slot's or attribute's content: data (tuples, texts, numbers; lists that nobody changes), or a value as it is -/
inductive Sv where
  | va (d : PyData)
  | rf (v : V)
/-- a dict whose keys are tuples of any depth, as an object of the heap -/
def NDO (w : World) (a : Addr) (xs : List (NestedKey × Addr × V)) : HO := .ext fun h => xs.length ≤ sizeLine ∧ (a == sysModules) = false ∧ ∃ ys : List (NestedKey × Addr × Value),
  Paired (fun (p : NestedKey × Addr × V) (q : NestedKey × Addr × Value) => p.1 = q.1 ∧ p.2.1 = q.2.1 ∧ RelV p.2.2 q.2.2) xs ys ∧
  ∃ o es ep, h.get? a = some o ∧ o.ExactDict ∧ o.data = .dict es ep ∧ es.toList = ys.map (fun x => (⟨x.1.hash w, .ref x.2.1, x.2.2⟩ : DictEntry)) ∧ (ys.map (·.1)).Nodup
/-- the object at f is a lambda with the words F and the body b -/
def LamO (f : Addr) (F : NdefX.NF) (b : Expr) : HO := .ext fun h => ∃ pm ctv : Value, h.get? f = some (PySem.W.kla_obj F.name F.qual F.params b F.scope F.cl pm F.c ctv)
/-- what stands at an address that may be changed -/
inductive Ob where
  | lst (xs : List Sv)
  | dK (kvs : List (Key × Sv))
  | dN (w : World) (kvs : List (NestedKey × Sv))
  | ins (C : Addr) (fs : List (Str × Sv))
  | tup (xs : List Sv)
  | kK (od : Obj) (ks : List (Key × V)) (kvs : List (Key × Sv))
  | kN (w : World) (od : Obj) (ks : List (NestedKey × Addr × V)) (kvs : List (NestedKey × Sv))
  | tab (q : Str)
  | lam (F : NdefX.NF) (b : Expr)
abbrev Mm := Addr → Option Ob
abbrev Gm := List (Option Sv)
def mup (M : Mm) (a : Addr) (o : Ob) : Mm := fun b => if b = a then some o else M b
def mdel (M : Mm) (a : Addr) : Mm := fun b => if b = a then none else M b
theorem mup_same {M : Mm} {a : Addr} {o : Ob} : mup M a o a = some o := by unfold mup; rw [if_pos rfl]
theorem mup_ne {M : Mm} {a b : Addr} {o : Ob} (h : b ≠ a) : mup M a o b = M b := by unfold mup; rw [if_neg h]
theorem mdel_same {M : Mm} {a : Addr} : mdel M a a = none := by unfold mdel; rw [if_pos rfl]
theorem mdel_ne {M : Mm} {a b : Addr} (h : b ≠ a) : mdel M a b = M b := by unfold mdel; rw [if_neg h]
theorem mup_mup {M : Mm} {a : Addr} {o u : Ob} : mup (mup M a o) a u = mup M a u := by
  funext b; unfold mup; split <;> rfl
theorem mup_id {M : Mm} {a : Addr} {o : Ob} (h : M a = some o) : mup M a o = M := by
  funext b; unfold mup; split
  · rename_i e; rw [e, h]
  · rfl
theorem mdel_mup {M : Mm} {a : Addr} {o : Ob} (h : M a = none) : mdel (mup M a o) a = M := by
  funext b; unfold mdel mup; split
  · rename_i e; rw [e, h]
  · rfl
theorem mdel_id {M : Mm} {a : Addr} (h : M a = none) : mdel M a = M := by
  funext b; unfold mdel; split
  · rename_i e; rw [e, h]
  · rfl
theorem mup_comm {M : Mm} {a b : Addr} {o u : Ob} (h : a ≠ b) : mup (mup M a o) b u = mup (mup M b u) a o := by
  funext c; unfold mup; split
  · rename_i e; subst e; rw [if_neg (Ne.symm h)]
  · rfl
theorem mdel_mup_ne {M : Mm} {a b : Addr} {o : Ob} (h : a ≠ b) : mdel (mup M a o) b = mup (mdel M b) a o := by
  funext c; unfold mup mdel; split
  · rename_i e; subst e; rw [if_neg (Ne.symm h)]
  · rfl
theorem mne {M : Mm} {a b : Addr} {o : Ob} (h : M a = some o) (h' : M b = none) : a ≠ b := by
  intro e; rw [e, h'] at h; cases h

mutual
/-- a value that is data: None, bools, numbers, texts, lists that stand tracked, tuples; the script (a list of numbers, read only) -/
inductive Dq (K : PySem.W.Frag) (H : Hp) : V → PyData → Prop
  | non : Dq K H .non .none
  | bl (b : Bool) : Dq K H (.bl b) (.bool b)
  | int (i : Int) : Dq K H (.int i) (.int i)
  | str (x : Str) : Dq K H (.str x) (.str x)
  | lst {a : Addr} {xs : List V} {ds : List PyData} : H a = some (.lst xs) → DqAll K H xs ds → Dq K H (.ref a) (.list ds)
  | tup {a : Addr} {xs : List V} {ds : List PyData} : SqT K H a xs → DqAll K H xs ds → Dq K H (.ref a) (.tuple ds)
  | scr {a : Addr} {ns : List Int} : SqL K H a (ns.map V.int) → Dq K H (.ref a) (.dict [(.list (ns.map PyData.int), .none)])
  | ft {a : Addr} {o : Obj} {xs : List V} {ds : List PyData} : H a = some (.frz o (.tup xs)) → o.dict = none → DqAll K H xs ds → Dq K H (.ref a) (.dict [(.tuple ds, .none)])
inductive DqAll (K : PySem.W.Frag) (H : Hp) : List V → List PyData → Prop
  | nil : DqAll K H [] []
  | cons {v : V} {vs : List V} {d : PyData} {ds : List PyData} : Dq K H v d → DqAll K H vs ds → DqAll K H (v :: vs) (d :: ds)
end
def scD (ns : List Int) : PyData := .dict [(.list (ns.map PyData.int), .none)]
/-- a tuple whose very object is known -/
def fT (ds : List PyData) : PyData := .dict [(.tuple ds, .none)]
mutual
theorem dq_dp {K : PySem.W.Frag} {H : Hp} : ∀ {v : V} {d : PyData}, Dq K H v d → d.canLay0 = true → Dp K H v d
  | _, _, .non, _ => .non
  | _, _, .bl b, _ => .bl b
  | _, _, .int i, _ => .int i
  | _, _, .str x, _ => .str x
  | _, _, .lst h a, c => .lst (.inl (.inl h)) (dqAll_dp a c)
  | _, _, .tup h a, c => .tup h (dqAll_dp a c)
  | _, _, .scr h, c => Bool.noConfusion (show false = true from c)
  | _, _, .ft _ _ _, c => Bool.noConfusion (show false = true from c)
theorem dqAll_dp {K : PySem.W.Frag} {H : Hp} : ∀ {vs : List V} {ds : List PyData}, DqAll K H vs ds → PyData.canLayAll0 ds = true → DpAll K H vs ds
  | _, _, .nil, _ => .nil
  | _, _, .cons h t, c => .cons (dq_dp h (Bool.and_eq_true_iff.mp c).1) (dqAll_dp t (Bool.and_eq_true_iff.mp c).2)
end

section
variable (K : PySem.W.Frag)
def Rep (Hs : Hp) (v : V) : Sv → Prop
  | .va d => Dq K Hs v d
  | .rf w => v = w
abbrev Reps (Hs : Hp) : List V → List Sv → Prop := Paired (Rep K Hs)
def ObIs (Hs H : Hp) (a : Addr) : Ob → Prop
  | .lst ss => ∃ xs, H a = some (.lst xs) ∧ Reps K Hs xs ss
  | .dK kvs => ∃ ks, H a = some (.dK ks) ∧ Paired (fun (p : Key × V) (q : Key × Sv) => p.1 = q.1 ∧ Rep K Hs p.2 q.2) ks kvs
  | .dN w kvs => ∃ ks, H a = some (NDO w a ks) ∧ Paired (fun (p : NestedKey × Addr × V) (q : NestedKey × Sv) => p.1 = q.1 ∧ p.1.depth ≤ 8 ∧ Dq K Hs (.ref p.2.1) p.1.data ∧ Rep K Hs p.2.2 q.2) ks kvs
  | .ins C fs => ∃ dx gs, H a = some (.ins C dx gs) ∧ Paired (fun (p : Str × V) (q : Str × Sv) => p.1 = q.1 ∧ Rep K Hs p.2 q.2) gs fs
  | .tup ss => ∃ xs, H a = some (.tup xs) ∧ Reps K Hs xs ss
  | .kK od ks kvs => H a = some (.frz od (.dK ks)) ∧ Paired (fun (p : Key × V) (q : Key × Sv) => p.1 = q.1 ∧ Rep K Hs p.2 q.2) ks kvs
  | .kN w od ks kvs => H a = some (.frz od (NDO w a ks)) ∧ Paired (fun (p : NestedKey × Addr × V) (q : NestedKey × Sv) => p.1 = q.1 ∧ p.1.depth ≤ 8 ∧ Dq K Hs (.ref p.2.1) p.1.data ∧ Rep K Hs p.2.2 q.2) ks kvs
  | .tab q => ∃ ps : Array Value, H a = some (.tbl ps) ∧ TriplesOk ps.toList ∧ ∀ (ln : Pos) (cv : Value), codeAmong ln ps.toList = some cv → ∃ c, cv = .ref c ∧ Hs c = some (LamX.CodeO c q)
  | .lam F b => H a = some (LamO a F b) ∧ Hs F.c = some (LamX.CodeO F.c F.qual)
structure Own (Hs : Hp) (M : Mm) (H : Hp) : Prop where
  ex : Ex Hs H
  sep : ∀ a ob, M a = some ob → Hs a = none
  ob : ∀ a o, M a = some o → ObIs K Hs H a o
structure Gr (M M' : Mm) (Hs H Hs' H' : Hp) : Prop where
  sh : Ex Hs Hs'
  fr : ∀ a, Hs a = none → Hs' a ≠ none → H a = none ∨ M a ≠ none
  ke : ∀ a o, H a = some o → M a = none → H' a = some o
  nw : ∀ a, M' a ≠ none → M a ≠ none ∨ H a = none
structure Ent where
  M : Mm
  Hs : Hp
  H : Hp
structure St0 (P0 : Ent) (M : Mm) (Hs H : Hp) : Prop where
  gr : Gr P0.M M P0.Hs P0.H Hs H
  own : Own K Hs M H
def Slots (Hs : Hp) (σ : L2.St) (G : Gm) : Prop := σ.length = G.length ∧ ∀ (i : Nat) (s : Sv), G[i]? = some (some s) → ∃ v, σ[i]? = some (some v) ∧ Rep K Hs v s
end

theorem Gr.refl (M : Mm) (Hs H : Hp) : Gr M M Hs H Hs H := ⟨Ex.refl _, fun _ h n => absurd h n, fun _ _ h _ => h, fun _ h => .inl h⟩
theorem Gr.trans {M M1 M2 : Mm} {Hs H Hs1 H1 Hs2 H2 : Hp} (a : Gr M M1 Hs H Hs1 H1) (b : Gr M1 M2 Hs1 H1 Hs2 H2) : Gr M M2 Hs H Hs2 H2 where
  sh := a.sh.trans b.sh
  fr := fun x h n => by
    cases e : Hs1 x with
    | some o => exact a.fr x h (by rw [e]; intro z; cases z)
    | none =>
      rcases b.fr x e n with q | q
      · cases eh : H x with
        | none => exact .inl rfl
        | some o =>
          cases em : M x with
          | none => rw [a.ke x o eh em] at q; cases q
          | some ob => exact .inr (by intro z; cases z)
      · rcases a.nw x q with r | r
        · exact .inr r
        · exact .inl r
  ke := fun x o h n => by
    refine b.ke x o (a.ke x o h n) ?_
    cases e : M1 x with
    | none => rfl
    | some ob =>
      rcases a.nw x (by rw [e]; intro z; cases z) with r | r
      · exact absurd n r
      · rw [h] at r; cases r
  nw := fun x n => by
    rcases b.nw x n with q | q
    · exact a.nw x q
    · cases eh : H x with
      | none => exact .inr rfl
      | some o =>
        cases em : M x with
        | none => rw [a.ke x o eh em] at q; cases q
        | some ob => exact .inl (by intro z; cases z)

section
variable {K : PySem.W.Frag} {P0 : Ent} {M : Mm} {Hs Hs' H H' : Hp}
mutual
theorem dp_mono (e : Ex Hs Hs') : ∀ {v : V} {d : PyData}, Dq K Hs v d → Dq K Hs' v d
  | _, _, .non => .non
  | _, _, .bl b => .bl b
  | _, _, .int i => .int i
  | _, _, .str x => .str x
  | _, _, .lst h a => .lst (e _ _ h) (dpAll_mono e a)
  | _, _, .tup h a => .tup (Evl.ex_t e h) (dpAll_mono e a)
  | _, _, .scr h => .scr (Evl.ex_l e h)
  | _, _, .ft h n a => .ft (e _ _ h) n (dpAll_mono e a)
theorem dpAll_mono (e : Ex Hs Hs') : ∀ {vs : List V} {ds : List PyData}, DqAll K Hs vs ds → DqAll K Hs' vs ds
  | _, _, .nil => .nil
  | _, _, .cons h t => .cons (dp_mono e h) (dpAll_mono e t)
end
theorem rep_mono (e : Ex Hs Hs') {v : V} {s : Sv} (h : Rep K Hs v s) : Rep K Hs' v s := by
  cases s with
  | va d => exact dp_mono e h
  | rf w => exact h
theorem reps_mono (e : Ex Hs Hs') {vs : List V} {ss : List Sv} (h : Reps K Hs vs ss) : Reps K Hs' vs ss := Paired.mapP h fun _ _ => rep_mono e
theorem dpAll_of_reps : ∀ {vs : List V} {ds : List PyData}, Reps K Hs vs (ds.map Sv.va) → DqAll K Hs vs ds
  | _, [], .nil => .nil
  | _, _ :: _, .cons a b => .cons a (dpAll_of_reps b)
theorem reps_of_dpAll : ∀ {vs : List V} {ds : List PyData}, DqAll K Hs vs ds → Reps K Hs vs (ds.map Sv.va)
  | _, _, .nil => .nil
  | _, _, .cons a b => .cons a (reps_of_dpAll b)
theorem reps_get {vs : List V} {ss : List Sv} (h : Reps K Hs vs ss) {i : Nat} {s : Sv} (e : ss[i]? = some s) : ∃ v, vs[i]? = some v ∧ Rep K Hs v s := by
  induction h generalizing i with
  | nil => simp at e
  | cons r t ih =>
    cases i with
    | zero =>
      simp at e; subst e
      exact ⟨_, by simp, r⟩
    | succ j =>
      obtain ⟨v, h1, h2⟩ := ih (i := j) (by simpa using e)
      exact ⟨v, by simpa using h1, h2⟩
theorem reps_set {v : V} {s : Sv} (r : Rep K Hs v s) : ∀ {vs : List V} {ss : List Sv} (i : Nat), Reps K Hs vs ss → Reps K Hs (vs.set i v) (ss.set i s)
  | _, _, _, .nil => .nil
  | _, _, 0, .cons _ t => .cons r t
  | _, _, i + 1, .cons q t => .cons q (reps_set r i t)
theorem reps_append : ∀ {vs ws : List V} {ss ts : List Sv}, Reps K Hs vs ss → Reps K Hs ws ts → Reps K Hs (vs ++ ws) (ss ++ ts)
  | _, _, _, _, .nil, s => s
  | _, _, _, _, .cons r t, s => .cons r (reps_append t s)
theorem obIs_mono (e : Ex Hs Hs') {a : Addr} (k : ∀ o, H a = some o → H' a = some o) {ob : Ob} (h : ObIs K Hs H a ob) : ObIs K Hs' H' a ob := by
  cases ob with
  | lst ss => obtain ⟨xs, h1, h2⟩ := h; exact ⟨xs, k _ h1, reps_mono e h2⟩
  | dK kvs => obtain ⟨xs, h1, h2⟩ := h; exact ⟨xs, k _ h1, Paired.mapP h2 fun _ _ q => ⟨q.1, rep_mono e q.2⟩⟩
  | dN w kvs => obtain ⟨xs, h1, h2⟩ := h; exact ⟨xs, k _ h1, Paired.mapP h2 fun _ _ q => ⟨q.1, q.2.1, dp_mono e q.2.2.1, rep_mono e q.2.2.2⟩⟩
  | ins C fs => obtain ⟨dx, xs, h1, h2⟩ := h; exact ⟨dx, xs, k _ h1, Paired.mapP h2 fun _ _ q => ⟨q.1, rep_mono e q.2⟩⟩
  | tup ss => obtain ⟨xs, h1, h2⟩ := h; exact ⟨xs, k _ h1, reps_mono e h2⟩
  | kK od ks kvs => obtain ⟨h1, h2⟩ := h; exact ⟨k _ h1, Paired.mapP h2 fun _ _ q => ⟨q.1, rep_mono e q.2⟩⟩
  | kN w od ks kvs => obtain ⟨h1, h2⟩ := h; exact ⟨k _ h1, Paired.mapP h2 fun _ _ q => ⟨q.1, q.2.1, dp_mono e q.2.2.1, rep_mono e q.2.2.2⟩⟩
  | tab q =>
    obtain ⟨ps, h1, h2, h3⟩ := h
    exact ⟨ps, k _ h1, h2, fun ln cv z => let ⟨c, e1, e2⟩ := h3 ln cv z; ⟨c, e1, e _ _ e2⟩⟩
  | lam F b => exact ⟨k _ h.1, e _ _ h.2⟩
theorem obIs_some {a : Addr} {ob : Ob} (h : ObIs K Hs H a ob) : ∃ o, H a = some o := by
  cases ob with
  | lst ss => obtain ⟨xs, h1, _⟩ := h; exact ⟨_, h1⟩
  | dK kvs => obtain ⟨xs, h1, _⟩ := h; exact ⟨_, h1⟩
  | dN w kvs => obtain ⟨xs, h1, _⟩ := h; exact ⟨_, h1⟩
  | ins C fs => obtain ⟨dx, xs, h1, _⟩ := h; exact ⟨_, h1⟩
  | tup ss => obtain ⟨xs, h1, _⟩ := h; exact ⟨_, h1⟩
  | kK od ks kvs => exact ⟨_, h.1⟩
  | kN w od ks kvs => exact ⟨_, h.1⟩
  | tab q => obtain ⟨ps, h1, _⟩ := h; exact ⟨_, h1⟩
  | lam F b => exact ⟨_, h.1⟩
theorem Own.free (o : Own K Hs M H) {p : Addr} (h : H p = none) : M p = none ∧ Hs p = none := by
  constructor
  · cases e : M p with
    | none => rfl
    | some ob =>
      obtain ⟨u, q⟩ := obIs_some (o.ob p ob e)
      rw [h] at q; cases q
  · cases e : Hs p with
    | none => rfl
    | some ob => rw [o.ex p ob e] at h; cases h
theorem slots_mono {σ : L2.St} {G : Gm} (e : Ex Hs Hs') (h : Slots K Hs σ G) : Slots K Hs' σ G :=
  ⟨h.1, fun i s g => let ⟨v, a, b⟩ := h.2 i s g; ⟨v, a, rep_mono e b⟩⟩
theorem slots_set {σ : L2.St} {G : Gm} {v : V} {s : Sv} (h : Slots K Hs σ G) (r : Rep K Hs v s) (i : Nat) : Slots K Hs (σ.set i (some v)) (G.set i (some s)) := by
  refine ⟨by rw [List.length_set, List.length_set]; exact h.1, fun j t g => ?_⟩
  by_cases e : i = j
  · subst e
    by_cases l : i < G.length
    · rw [List.getElem?_set_self l] at g
      cases g
      exact ⟨v, List.getElem?_set_self (by rw [h.1]; exact l), r⟩
    · rw [List.getElem?_eq_none (by rw [List.length_set]; omega)] at g; cases g
  · rw [List.getElem?_set_ne e] at g
    obtain ⟨w, a, b⟩ := h.2 j t g
    exact ⟨w, by rw [List.getElem?_set_ne e]; exact a, b⟩

/-! ### steps of the store -/
/-- a new object, shared -/
theorem St0.share (S : St0 K P0 M Hs H) {p : Addr} (hp : H p = none) (o : HO) : St0 K P0 M (upd Hs p o) (upd H p o) ∧ Ex Hs (upd Hs p o) := by
  obtain ⟨m0, s0⟩ := S.own.free hp
  have e1 : Ex Hs (upd Hs p o) := Ex.new s0
  refine ⟨⟨S.gr.trans ⟨e1, fun a h n => ?_, fun a u h _ => ?_, fun a n => .inl n⟩, ⟨fun a u h => ?_, fun a ob h => ?_, fun a ob h => ?_⟩⟩, e1⟩
  · by_cases e : a = p
    · subst e; exact .inl hp
    · rw [upd_ne e] at n; exact absurd h n
  · rw [upd_ne (ne_of_none h hp)]; exact h
  · by_cases e : a = p
    · subst e; rw [upd_same] at h ⊢; exact h
    · rw [upd_ne e] at h ⊢; exact S.own.ex a u h
  · have e : a ≠ p := mne h m0
    rw [upd_ne e]; exact S.own.sep a ob h
  · have e : a ≠ p := mne h m0
    exact obIs_mono e1 (fun u q => by rw [upd_ne e]; exact q) (S.own.ob a ob h)
/-- a new object, owned -/
theorem St0.make (S : St0 K P0 M Hs H) {p : Addr} (hp : H p = none) {o : HO} {ob : Ob} (h : ObIs K Hs (upd H p o) p ob) : St0 K P0 (mup M p ob) Hs (upd H p o) := by
  obtain ⟨m0, s0⟩ := S.own.free hp
  refine ⟨S.gr.trans ⟨Ex.refl _, fun a h n => absurd h n, fun a u h _ => ?_, fun a n => ?_⟩, ⟨fun a u q => ?_, fun a b q => ?_, fun a b q => ?_⟩⟩
  · rw [upd_ne (ne_of_none h hp)]; exact h
  · by_cases e : a = p
    · subst e; exact .inr hp
    · rw [mup_ne e] at n; exact .inl n
  · rw [upd_ne (ne_of_none q s0)]; exact S.own.ex a u q
  · by_cases e : a = p
    · subst e; exact s0
    · rw [mup_ne e] at q; exact S.own.sep a b q
  · by_cases e : a = p
    · subst e; rw [mup_same] at q; cases q; exact h
    · rw [mup_ne e] at q
      exact obIs_mono (Ex.refl _) (fun u z => by rw [upd_ne e]; exact z) (S.own.ob a b q)
/-- an owned object changed -/
theorem St0.write (S : St0 K P0 M Hs H) {a : Addr} {o0 : Ob} (hm : M a = some o0) {o : HO} {ob : Ob} (h : ObIs K Hs (upd H a o) a ob) : St0 K P0 (mup M a ob) Hs (upd H a o) := by
  have s0 := S.own.sep a o0 hm
  refine ⟨S.gr.trans ⟨Ex.refl _, fun a h n => absurd h n, fun b u q n => ?_, fun b n => ?_⟩, ⟨fun b u q => ?_, fun b c q => ?_, fun b c q => ?_⟩⟩
  · have e : b ≠ a := fun z => by rw [z, hm] at n; cases n
    rw [upd_ne e]; exact q
  · by_cases e : b = a
    · subst e; exact .inl (by rw [hm]; intro z; cases z)
    · rw [mup_ne e] at n; exact .inl n
  · rw [upd_ne (ne_of_none q s0)]; exact S.own.ex b u q
  · by_cases e : b = a
    · subst e; exact s0
    · rw [mup_ne e] at q; exact S.own.sep b c q
  · by_cases e : b = a
    · subst e; rw [mup_same] at q; cases q; exact h
    · rw [mup_ne e] at q
      exact obIs_mono (Ex.refl _) (fun u z => by rw [upd_ne e]; exact z) (S.own.ob b c q)
/-- an owned list is given up: nobody changes it any more -/
theorem St0.freeze (S : St0 K P0 M Hs H) {a : Addr} {ds : List PyData} (hm : M a = some (.lst (ds.map Sv.va))) :
    ∃ Hs', St0 K P0 (mdel M a) Hs' H ∧ Ex Hs Hs' ∧ Dq K Hs' (.ref a) (.list ds) := by
  obtain ⟨xs, h1, h2⟩ := S.own.ob a _ hm
  have s0 := S.own.sep a _ hm
  have e1 : Ex Hs (upd Hs a (.lst xs)) := Ex.new s0
  refine ⟨upd Hs a (.lst xs), ⟨S.gr.trans ⟨e1, fun b h n => ?_, fun b u h _ => h, fun b n => ?_⟩, ⟨fun b u h => ?_, fun b c h => ?_, fun b c h => ?_⟩⟩, e1, .lst upd_same (dpAll_of_reps (reps_mono e1 h2))⟩
  · by_cases e : b = a
    · subst e; exact .inr (by rw [hm]; intro z; cases z)
    · rw [upd_ne e] at n; exact absurd h n
  · by_cases e : b = a
    · subst e; rw [mdel_same] at n; exact absurd rfl n
    · rw [mdel_ne e] at n; exact .inl n
  · by_cases e : b = a
    · subst e; rw [upd_same] at h; cases h; exact h1
    · rw [upd_ne e] at h; exact S.own.ex b u h
  · by_cases e : b = a
    · subst e; rw [mdel_same] at h; cases h
    · rw [mdel_ne e] at h; rw [upd_ne e]; exact S.own.sep b c h
  · by_cases e : b = a
    · subst e; rw [mdel_same] at h; cases h
    · rw [mdel_ne e] at h; exact obIs_mono e1 (fun _ z => z) (S.own.ob b c h)
/-- some owned objects that are never asked again -/
theorem St0.shrink {M0 : Mm} (S : St0 K P0 M Hs H) (h : ∀ a o, M0 a = some o → M a = some o) : St0 K P0 M0 Hs H :=
  ⟨S.gr.trans ⟨Ex.refl _, fun _ h n => absurd h n, fun _ _ h _ => h, fun b n => by
    cases e : M0 b with
    | none => exact absurd e n
    | some o => exact .inl (by rw [h b o e]; intro z; cases z)⟩, ⟨S.own.ex, fun b c q => S.own.sep b c (h b c q), fun b c q => S.own.ob b c (h b c q)⟩⟩
/-- an owned object that is never asked again -/
theorem St0.drop (S : St0 K P0 M Hs H) (a : Addr) : St0 K P0 (mdel M a) Hs H :=
  ⟨S.gr.trans ⟨Ex.refl _, fun _ h n => absurd h n, fun _ _ h _ => h, fun b n => by
    by_cases e : b = a
    · subst e; rw [mdel_same] at n; exact absurd rfl n
    · rw [mdel_ne e] at n; exact .inl n⟩, ⟨S.own.ex, fun b c h => by
    by_cases e : b = a
    · subst e; rw [mdel_same] at h; cases h
    · rw [mdel_ne e] at h; exact S.own.sep b c h, fun b c h => by
    by_cases e : b = a
    · subst e; rw [mdel_same] at h; cases h
    · rw [mdel_ne e] at h; exact S.own.ob b c h⟩⟩
end

/-! ### readings at data -/
section
variable (K : PySem.W.Frag) (P0 : Ent)
def WE (te : TE) (G : Gm) (M : Mm) (k : Sv → Mm → Prop) : Prop := ∀ σ Hs H, St0 K P0 M Hs H → Slots K Hs σ G → ∀ Q : VK,
  (∀ v Hs' H' s M', St0 K P0 M' Hs' H' → Ex Hs Hs' → Rep K Hs' v s → k s M' → Q v H') → te σ H Q
def WT (tt : TT) (G : Gm) (M : Mm) (k : Bool → Mm → Prop) : Prop := ∀ σ Hs H, St0 K P0 M Hs H → Slots K Hs σ G → ∀ Q : Bool → Hp → Prop,
  (∀ b Hs' H' M', St0 K P0 M' Hs' H' → Ex Hs Hs' → k b M' → Q b H') → tt σ H Q
def WA (ta : TA) (G : Gm) (M : Mm) (k : List Sv → Mm → Prop) : Prop := ∀ σ Hs H, St0 K P0 M Hs H → Slots K Hs σ G → ∀ Q : List V → Hp → Prop,
  (∀ vs Hs' H' ss M', St0 K P0 M' Hs' H' → Ex Hs Hs' → Reps K Hs' vs ss → k ss M' → Q vs H') → ta σ H Q
/-- an operation on two values, one value, a list of values -/
def R2D (r : R2) (s s' : Sv) (M : Mm) (k : Sv → Mm → Prop) : Prop := ∀ Hs H x y, St0 K P0 M Hs H → Rep K Hs x s → Rep K Hs y s' → ∀ Q : VK,
  (∀ v Hs' H' t M', St0 K P0 M' Hs' H' → Ex Hs Hs' → Rep K Hs' v t → k t M' → Q v H') → r x y H Q
def R1D (r : V → Hp → VK → Prop) (s : Sv) (M : Mm) (k : Sv → Mm → Prop) : Prop := ∀ Hs H x, St0 K P0 M Hs H → Rep K Hs x s → ∀ Q : VK,
  (∀ v Hs' H' t M', St0 K P0 M' Hs' H' → Ex Hs Hs' → Rep K Hs' v t → k t M' → Q v H') → r x H Q
def RCD (r : List V → Hp → VK → Prop) (ss : List Sv) (M : Mm) (k : Sv → Mm → Prop) : Prop := ∀ Hs H xs, St0 K P0 M Hs H → Reps K Hs xs ss → ∀ Q : VK,
  (∀ v Hs' H' t M', St0 K P0 M' Hs' H' → Ex Hs Hs' → Rep K Hs' v t → k t M' → Q v H') → r xs H Q
def RMD (r : V → List V → Hp → VK → Prop) (s : Sv) (ss : List Sv) (M : Mm) (k : Sv → Mm → Prop) : Prop := ∀ Hs H x xs, St0 K P0 M Hs H → Rep K Hs x s → Reps K Hs xs ss → ∀ Q : VK,
  (∀ v Hs' H' t M', St0 K P0 M' Hs' H' → Ex Hs Hs' → Rep K Hs' v t → k t M' → Q v H') → r x xs H Q
def WG (g : TG) (s : Sv) (G : Gm) (M : Mm) (k : Gm → Mm → Prop) : Prop := ∀ v σ Hs H, St0 K P0 M Hs H → Slots K Hs σ G → Rep K Hs v s → ∀ Q : L2.St → Hp → Prop,
  (∀ σ' Hs' H' G' M', St0 K P0 M' Hs' H' → Ex Hs Hs' → Slots K Hs' σ' G' → k G' M' → Q σ' H') → g v σ H Q
def WGs (g : TGs) (ss : List Sv) (G : Gm) (M : Mm) (k : Gm → Mm → Prop) : Prop := ∀ vs σ Hs H, St0 K P0 M Hs H → Slots K Hs σ G → Reps K Hs vs ss → ∀ Q : L2.St → Hp → Prop,
  (∀ σ' Hs' H' G' M', St0 K P0 M' Hs' H' → Ex Hs Hs' → Slots K Hs' σ' G' → k G' M' → Q σ' H') → g vs σ H Q
def WS (ts : TS) (G : Gm) (M : Mm) (nx : Gm → Mm → Prop) (rt : Sv → Mm → Prop) (bk ct : Gm → Mm → Prop) : Prop := ∀ σ Hs H, St0 K P0 M Hs H → Slots K Hs σ G → ∀ D : Ends,
  (∀ σ' Hs' H' G' M', St0 K P0 M' Hs' H' → Ex Hs Hs' → Slots K Hs' σ' G' → nx G' M' → D.nx σ' H') →
  (∀ v Hs' H' s M', St0 K P0 M' Hs' H' → Ex Hs Hs' → Rep K Hs' v s → rt s M' → D.rt v H') →
  (∀ σ' Hs' H' G' M', St0 K P0 M' Hs' H' → Ex Hs Hs' → Slots K Hs' σ' G' → bk G' M' → D.bk σ' H') →
  (∀ σ' Hs' H' G' M', St0 K P0 M' Hs' H' → Ex Hs Hs' → Slots K Hs' σ' G' → ct G' M' → D.ct σ' H') → ts D σ H
/-- what is wished of an exception -/
def XL (E : XK) (e : Value → Mm → Prop) : Prop := ∀ cls Hs H M, St0 K P0 M Hs H → e cls M → E cls none H
end
abbrev SpD := List Sv → Mm → (Sv → Mm → Prop) → (Value → Mm → Prop) → Prop
def lift (K : PySem.W.Frag) (sp : SpD) : Sp := fun vs H Q E => ∃ Hs M as k e, Own K Hs M H ∧ Reps K Hs vs as ∧ sp as M k e ∧
  (∀ v Hs' H' s M', Gr M M' Hs H Hs' H' → Own K Hs' M' H' → Rep K Hs' v s → k s M' → Q v H') ∧
  (∀ cls Hs' H' M', Gr M M' Hs H Hs' H' → Own K Hs' M' H' → e cls M' → E cls none H')

section
variable {K : PySem.W.Frag} {P0 : Ent} {G : Gm} {M : Mm} {k : Sv → Mm → Prop} {te ta tb : TE} {i : Nat} {s : Sv} {v : V}
theorem we_mono {k' : Sv → Mm → Prop} (h : WE K P0 te G M k) (q : ∀ s M', k s M' → k' s M') : WE K P0 te G M k' := fun σ Hs H S L Q c => h σ Hs H S L Q fun v Hs' H' s M' S' e r z => c v Hs' H' s M' S' e r (q s M' z)
theorem wt_mono {t : TT} {k k' : Bool → Mm → Prop} (h : WT K P0 t G M k) (q : ∀ s M', k s M' → k' s M') : WT K P0 t G M k' := fun σ Hs H S L Q c => h σ Hs H S L Q fun v Hs' H' M' S' e z => c v Hs' H' M' S' e (q v M' z)
theorem we_var (h : G[i]? = some (some s)) (q : k s M) : WE K P0 (tVar i) G M k := fun σ Hs H S L Q c => by
  obtain ⟨v, e, r⟩ := L.2 i s h
  exact ⟨v, e, c v Hs H s M S (Ex.refl _) r q⟩
/-- a constant that is data at every heap -/
theorem we_cd {d : PyData} (h : ∀ Hs, Dq K Hs v d) (q : k (.va d) M) : WE K P0 (tC v) G M k := fun σ Hs H S L Q c => c v Hs H (.va d) M S (Ex.refl _) (h Hs) q
theorem we_int {z : Int} (q : k (.va (.int z)) M) : WE K P0 (tC (.int z)) G M k := we_cd (fun _ => .int z) q
theorem we_str {z : Str} (q : k (.va (.str z)) M) : WE K P0 (tC (.str z)) G M k := we_cd (fun _ => .str z) q
theorem we_bl {z : Bool} (q : k (.va (.bool z)) M) : WE K P0 (tC (.bl z)) G M k := we_cd (fun _ => .bl z) q
theorem we_non (q : k (.va .none) M) : WE K P0 (tC .non) G M k := we_cd (fun _ => .non) q
theorem we_raw (q : k (.rf v) M) : WE K P0 (tC v) G M k := fun σ Hs H S L Q c => c v Hs H (.rf v) M S (Ex.refl _) rfl q
theorem we_op {r : R2} (h : WE K P0 ta G M fun s M1 => WE K P0 tb G M1 fun s' M2 => R2D K P0 r s s' M2 k) : WE K P0 (tOp r ta tb) G M k := fun σ Hs H S L Q c =>
  h σ Hs H S L _ fun x Hs1 H1 s M1 S1 e1 r1 h1 => h1 σ Hs1 H1 S1 (slots_mono e1 L) _ fun y Hs2 H2 s' M2 S2 e2 r2 h2 =>
    h2 Hs2 H2 x y S2 (rep_mono e2 r1) r2 Q fun v Hs3 H3 t M3 S3 e3 r3 q => c v Hs3 H3 t M3 S3 ((e1.trans e2).trans e3) r3 q
theorem we_un {r : V → Hp → VK → Prop} (h : WE K P0 ta G M fun s M1 => R1D K P0 r s M1 k) : WE K P0 (tUn r ta) G M k := fun σ Hs H S L Q c =>
  h σ Hs H S L _ fun x Hs1 H1 s M1 S1 e1 r1 h1 => h1 Hs1 H1 x S1 r1 Q fun v Hs3 H3 t M3 S3 e3 r3 q => c v Hs3 H3 t M3 S3 (e1.trans e3) r3 q
theorem wa_nil {k : List Sv → Mm → Prop} (q : k [] M) : WA K P0 tNil G M k := fun σ Hs H S L Q c => c [] Hs H [] M S (Ex.refl _) .nil q
theorem wa_cons {tr : TA} {k : List Sv → Mm → Prop} (h : WE K P0 ta G M fun s M1 => WA K P0 tr G M1 fun ss M2 => k (s :: ss) M2) : WA K P0 (tCons ta tr) G M k := fun σ Hs H S L Q c =>
  h σ Hs H S L _ fun x Hs1 H1 s M1 S1 e1 r1 h1 => h1 σ Hs1 H1 S1 (slots_mono e1 L) _ fun xs Hs2 H2 ss M2 S2 e2 r2 q => c (x :: xs) Hs2 H2 (s :: ss) M2 S2 (e1.trans e2) (.cons (rep_mono e2 r1) r2) q
/-- a call that lets nothing out -/
theorem we_call {sp : SpD} {tr : TA} {E : XK} {e : Value → Mm → Prop} (hE : XL K P0 E e) (h : WA K P0 tr G M fun as M1 => sp as M1 k e) : WE K P0 (tCall (lift K sp) [] E tr) G M k := fun σ Hs H S L Q c =>
  h σ Hs H S L _ fun xs Hs1 H1 ss M1 S1 e1 r1 h1 => ⟨Hs1, M1, ss, k, e, S1.own, by rw [List.append_nil]; exact r1, h1, fun v Hs' H' s M' g o r z => c v Hs' H' s M' ⟨S1.gr.trans g, o⟩ (e1.trans g.sh) r z,
    fun cls Hs' H' M' g o z => hE cls Hs' H' M' ⟨S1.gr.trans g, o⟩ z⟩
theorem xl0 : XL K P0 E0 fun _ _ => False := fun _ _ _ _ _ h => h
theorem we_call0 {sp : SpD} {tr : TA} (h : WA K P0 tr G M fun as M1 => sp as M1 k fun _ _ => False) : WE K P0 (tCall (lift K sp) [] E0 tr) G M k := we_call xl0 h
/-- a tuple -/
theorem we_tup {tr : TA} (h : WA K P0 tr G M fun ss M1 => ∃ ds : List PyData, ss = ds.map Sv.va ∧ ds.length ≤ 100000 ∧ k (.va (.tuple ds)) M1) : WE K P0 (tTup tr) G M k := fun σ Hs H S L Q c =>
  h σ Hs H S L _ fun xs Hs1 H1 ss M1 S1 e1 r1 ⟨ds, e, l, q⟩ => by
    subst e
    have da := dpAll_of_reps r1
    refine ⟨Evl.sz_of (by have := r1.length; rw [List.length_map] at this; omega), fun p hp => ?_⟩
    obtain ⟨S2, e2⟩ := S1.share hp (.tup xs)
    exact c (.ref p) _ _ (.va (.tuple ds)) M1 S2 (e1.trans e2) (.tup (Evl.st_of upd_same) (dpAll_mono e2 da)) q
/-- a tuple of things of which some may be changed -/
theorem we_tupO {tr : TA} (h : WA K P0 tr G M fun ss M1 => ss.length ≤ 100000 ∧ ∀ p, M1 p = none → k (.rf (.ref p)) (mup M1 p (.tup ss))) : WE K P0 (tTup tr) G M k := fun σ Hs H S L Q c =>
  h σ Hs H S L _ fun xs Hs1 H1 ss M1 S1 e1 r1 ⟨l, q⟩ => by
    refine ⟨Evl.sz_of (by have := r1.length; omega), fun p hp => ?_⟩
    exact c (.ref p) _ _ (.rf (.ref p)) _ (S1.make hp (ob := .tup ss) ⟨xs, upd_same, r1⟩) e1 rfl (q p (S1.own.free hp).1)
/-- a new list, to be changed | that nobody changes -/
theorem we_lst {tr : TA} (h : WA K P0 tr G M fun ss M1 => ss.length ≤ 100000 ∧ ∀ p, M1 p = none → k (.rf (.ref p)) (mup M1 p (.lst ss))) : WE K P0 (tLst tr) G M k := fun σ Hs H S L Q c =>
  h σ Hs H S L _ fun xs Hs1 H1 ss M1 S1 e1 r1 ⟨l, q⟩ => by
    refine ⟨Evl.sz_of (by have := r1.length; omega), fun p hp => ?_⟩
    exact c (.ref p) _ _ (.rf (.ref p)) _ (S1.make hp (ob := .lst ss) ⟨xs, upd_same, r1⟩) e1 rfl (q p (S1.own.free hp).1)
theorem we_lstV {tr : TA} (h : WA K P0 tr G M fun ss M1 => ∃ ds : List PyData, ss = ds.map Sv.va ∧ ds.length ≤ 100000 ∧ k (.va (.list ds)) M1) : WE K P0 (tLst tr) G M k := fun σ Hs H S L Q c =>
  h σ Hs H S L _ fun xs Hs1 H1 ss M1 S1 e1 r1 ⟨ds, e, l, q⟩ => by
    subst e
    have da := dpAll_of_reps r1
    refine ⟨Evl.sz_of (by have := r1.length; rw [List.length_map] at this; omega), fun p hp => ?_⟩
    obtain ⟨S2, e2⟩ := S1.share hp (.lst xs)
    exact c (.ref p) _ _ (.va (.list ds)) M1 S2 (e1.trans e2) (.lst upd_same (dpAll_mono e2 da)) q
/-! tests -/
theorem wt_test {k : Bool → Mm → Prop} (h : WE K P0 te G M fun s M1 => ∃ b, s = .va (.bool b) ∧ k b M1) : WT K P0 (tTest te) G M k := fun σ Hs H S L Q c =>
  h σ Hs H S L _ fun x Hs1 H1 s M1 S1 e1 r1 ⟨b, e, q⟩ => by
    subst e
    cases r1
    exact ⟨b, rfl, c b Hs1 H1 M1 S1 e1 q⟩
theorem wt_B {k : Bool → Mm → Prop} (h : WE K P0 te G M fun s M1 => ∃ b, s = .va (.bool b) ∧ k b M1) : WT K P0 (tB te) G M k := fun σ Hs H S L Q c =>
  h σ Hs H S L _ fun x Hs1 H1 s M1 S1 e1 r1 ⟨b, e, q⟩ => by
    subst e
    cases r1
    exact ⟨b, rfl, c b Hs1 H1 M1 S1 e1 q⟩
theorem wt_not {t : TT} {k : Bool → Mm → Prop} (h : WT K P0 t G M fun b M1 => k (!b) M1) : WT K P0 (tNot t) G M k := fun σ Hs H S L Q c => h σ Hs H S L _ fun b Hs1 H1 M1 S1 e1 q => c (!b) Hs1 H1 M1 S1 e1 q
theorem wt_and {t u : TT} {k : Bool → Mm → Prop} (h : WT K P0 t G M fun b M1 => (b = true → WT K P0 u G M1 k) ∧ (b = false → k false M1)) : WT K P0 (tAnd t u) G M k := fun σ Hs H S L Q c =>
  h σ Hs H S L _ fun b Hs1 H1 M1 S1 e1 q => by
    cases b with
    | true =>
      show u σ H1 Q
      exact q.1 rfl σ Hs1 H1 S1 (slots_mono e1 L) Q fun b Hs2 H2 M2 S2 e2 z => c b Hs2 H2 M2 S2 (e1.trans e2) z
    | false =>
      show Q false H1
      exact c false Hs1 H1 M1 S1 e1 (q.2 rfl)
theorem wt_or {t u : TT} {k : Bool → Mm → Prop} (h : WT K P0 t G M fun b M1 => (b = true → k true M1) ∧ (b = false → WT K P0 u G M1 k)) : WT K P0 (tOr t u) G M k := fun σ Hs H S L Q c =>
  h σ Hs H S L _ fun b Hs1 H1 M1 S1 e1 q => by
    cases b with
    | false =>
      show u σ H1 Q
      exact q.2 rfl σ Hs1 H1 S1 (slots_mono e1 L) Q fun b Hs2 H2 M2 S2 e2 z => c b Hs2 H2 M2 S2 (e1.trans e2) z
    | true =>
      show Q true H1
      exact c true Hs1 H1 M1 S1 e1 (q.1 rfl)
theorem we_andV {tb : TE} (h : WE K P0 ta G M fun s M1 => ∃ b, s = .va (.bool b) ∧ (b = true → WE K P0 tb G M1 k) ∧ (b = false → k (.va (.bool false)) M1)) : WE K P0 (tAndV ta tb) G M k := fun σ Hs H S L Q c =>
  h σ Hs H S L _ fun x Hs1 H1 s M1 S1 e1 r1 ⟨b, e, q⟩ => by
    subst e
    cases r1
    refine ⟨b, rfl, ?_⟩
    cases b with
    | true =>
      show tb σ H1 Q
      exact q.1 rfl σ Hs1 H1 S1 (slots_mono e1 L) Q fun b Hs2 H2 t M2 S2 e2 r2 z => c b Hs2 H2 t M2 S2 (e1.trans e2) r2 z
    | false =>
      show Q (.bl false) H1
      exact c (.bl false) Hs1 H1 (.va (.bool false)) M1 S1 e1 (Dq.bl false) (q.2 rfl)
theorem we_orV {tb : TE} (h : WE K P0 ta G M fun s M1 => ∃ b, s = .va (.bool b) ∧ (b = true → k (.va (.bool true)) M1) ∧ (b = false → WE K P0 tb G M1 k)) : WE K P0 (tOrV ta tb) G M k := fun σ Hs H S L Q c =>
  h σ Hs H S L _ fun x Hs1 H1 s M1 S1 e1 r1 ⟨b, e, q⟩ => by
    subst e
    cases r1
    refine ⟨b, rfl, ?_⟩
    cases b with
    | false =>
      show tb σ H1 Q
      exact q.2 rfl σ Hs1 H1 S1 (slots_mono e1 L) Q fun b Hs2 H2 t M2 S2 e2 r2 z => c b Hs2 H2 t M2 S2 (e1.trans e2) r2 z
    | true =>
      show Q (.bl true) H1
      exact c (.bl true) Hs1 H1 (.va (.bool true)) M1 S1 e1 (Dq.bl true) (q.1 rfl)
theorem we_notV (h : WE K P0 ta G M fun s M1 => ∃ b, s = .va (.bool b) ∧ k (.va (.bool (!b))) M1) : WE K P0 (tNotV ta) G M k := fun σ Hs H S L Q c =>
  h σ Hs H S L _ fun x Hs1 H1 s M1 S1 e1 r1 ⟨b, e, q⟩ => by
    subst e
    cases r1
    exact ⟨b, rfl, c (.bl (!b)) Hs1 H1 (.va (.bool (!b))) M1 S1 e1 (Dq.bl (!b)) q⟩
/-! statements -/
variable {t u : TS} {nx : Gm → Mm → Prop} {rt : Sv → Mm → Prop} {bk ct : Gm → Mm → Prop}
theorem ws_seq (h : WS K P0 t G M (fun G' M' => WS K P0 u G' M' nx rt bk ct) rt bk ct) : WS K P0 (tSeq t u) G M nx rt bk ct := fun σ Hs H S L D dn dr db dc =>
  h σ Hs H S L { D with nx := u D } (fun σ' Hs' H' G' M' S' e' L' q => q σ' Hs' H' S' L' D (fun σ2 Hs2 H2 G2 M2 S2 e2 => dn σ2 Hs2 H2 G2 M2 S2 (e'.trans e2)) (fun v Hs2 H2 s M2 S2 e2 => dr v Hs2 H2 s M2 S2 (e'.trans e2))
    (fun σ2 Hs2 H2 G2 M2 S2 e2 => db σ2 Hs2 H2 G2 M2 S2 (e'.trans e2)) (fun σ2 Hs2 H2 G2 M2 S2 e2 => dc σ2 Hs2 H2 G2 M2 S2 (e'.trans e2))) dr db dc
theorem ws_next (h : nx G M) : WS K P0 tNext G M nx rt bk ct := fun σ Hs H S L D dn _ _ _ => dn σ Hs H G M S (Ex.refl _) L h
theorem ws_brk (h : bk G M) : WS K P0 tBreak G M nx rt bk ct := fun σ Hs H S L D _ _ db _ => db σ Hs H G M S (Ex.refl _) L h
theorem ws_cont (h : ct G M) : WS K P0 tCont G M nx rt bk ct := fun σ Hs H S L D _ _ _ dc => dc σ Hs H G M S (Ex.refl _) L h
theorem ws_asgG {g : TG} (h : WE K P0 te G M fun s M1 => WG K P0 g s G M1 nx) : WS K P0 (tAsg te g) G M nx rt bk ct := fun σ Hs H S L D dn _ _ _ =>
  h σ Hs H S L _ fun x Hs1 H1 s M1 S1 e1 r1 h1 => h1 x σ Hs1 H1 S1 (slots_mono e1 L) r1 _ fun σ' Hs' H' G' M' S' e' L' q => dn σ' Hs' H' G' M' S' (e1.trans e') L' q
theorem wg_name (h : nx (G.set i (some s)) M) : WG K P0 (gName i) s G M nx := fun v σ Hs H S L r Q c => c _ Hs H _ M S (Ex.refl _) (slots_set L r i) h
theorem ws_asg (h : WE K P0 te G M fun s M1 => nx (G.set i (some s)) M1) : WS K P0 (tAsg te (gName i)) G M nx rt bk ct := ws_asgG (we_mono h fun s M' q => wg_name q)
theorem wgs_nil (h : nx G M) : WGs K P0 gNil [] G M nx := fun vs σ Hs H S L r Q c => by
  cases r
  exact ⟨rfl, c σ Hs H G M S (Ex.refl _) L h⟩
theorem wgs_cons {g : TG} {gs : TGs} {ss : List Sv} (h : WG K P0 g s G M fun G' M' => WGs K P0 gs ss G' M' nx) : WGs K P0 (gCons g gs) (s :: ss) G M nx := fun vs σ Hs H S L r Q c => by
  cases r with
  | cons r1 r2 =>
    exact ⟨_, _, rfl, h _ σ Hs H S L r1 _ fun σ' Hs' H' G' M' S' e' L' q => q _ σ' Hs' H' S' L' (reps_mono e' r2) Q fun σ2 Hs2 H2 G2 M2 S2 e2 L2 z => c σ2 Hs2 H2 G2 M2 S2 (e'.trans e2) L2 z⟩
theorem wg_tup {n : Nat} {gs : TGs} {ds : List PyData} (hn : ds.length = n) (h : WGs K P0 gs (ds.map Sv.va) G M nx) : WG K P0 (gTup K n gs) (.va (.tuple ds)) G M nx := fun v σ Hs H S L r Q c => by
  have r : Dq K Hs v (.tuple ds) := r
  cases r with
  | tup hq ha =>
    rename_i a xs
    have rs := reps_of_dpAll ha
    exact ⟨a, xs, rfl, Evl.ex_t S.own.ex hq, by have := rs.length; rw [List.length_map] at this; omega, h xs σ Hs H S L rs Q c⟩
theorem wg_tupO {n : Nat} {gs : TGs} {a : Addr} {ss : List Sv} (hm : M a = some (.tup ss)) (hn : ss.length = n) (h : WGs K P0 gs ss G M nx) : WG K P0 (gTup K n gs) (.rf (.ref a)) G M nx := fun v σ Hs H S L r Q c => by
  have r : v = .ref a := r
  obtain ⟨xs, h1, h2⟩ := S.own.ob _ _ hm
  exact ⟨a, xs, r, Evl.st_of h1, by have := h2.length; omega, h xs σ Hs H S L h2 Q c⟩
theorem ws_if {tc : TT} (h : WT K P0 tc G M fun b M1 => (b = true → WS K P0 t G M1 nx rt bk ct) ∧ (b = false → WS K P0 u G M1 nx rt bk ct)) : WS K P0 (tIfS tc t u) G M nx rt bk ct := fun σ Hs H S L D dn dr db dc =>
  h σ Hs H S L _ fun b Hs1 H1 M1 S1 e1 q => by
    have go : ∀ {t : TS}, WS K P0 t G M1 nx rt bk ct → t D σ H1 := fun {t} z => z σ Hs1 H1 S1 (slots_mono e1 L) D (fun σ2 Hs2 H2 G2 M2 S2 e2 => dn σ2 Hs2 H2 G2 M2 S2 (e1.trans e2)) (fun v Hs2 H2 s M2 S2 e2 => dr v Hs2 H2 s M2 S2 (e1.trans e2))
      (fun σ2 Hs2 H2 G2 M2 S2 e2 => db σ2 Hs2 H2 G2 M2 S2 (e1.trans e2)) (fun σ2 Hs2 H2 G2 M2 S2 e2 => dc σ2 Hs2 H2 G2 M2 S2 (e1.trans e2))
    cases b with
    | true =>
      show t D σ H1
      exact go (q.1 rfl)
    | false =>
      show u D σ H1
      exact go (q.2 rfl)
theorem ws_drop (h : WE K P0 te G M fun _ M1 => nx G M1) : WS K P0 (tDrop te) G M nx rt bk ct := fun σ Hs H S L D dn _ _ _ => h σ Hs H S L _ fun x Hs1 H1 s M1 S1 e1 r1 q => dn σ Hs1 H1 G M1 S1 e1 (slots_mono e1 L) q
theorem ws_ret (h : WE K P0 te G M rt) : WS K P0 (tRet te) G M nx rt bk ct := fun σ Hs H S L D _ dr _ _ => h σ Hs H S L _ fun x Hs1 H1 s M1 S1 e1 r1 q => dr x Hs1 H1 s M1 S1 e1 r1 q
theorem ws_retN (h : rt (.va .none) M) : WS K P0 tRetN G M nx rt bk ct := fun σ Hs H S L D _ dr _ _ => dr .non Hs H (.va .none) M S (Ex.refl _) Dq.non h
theorem ws_mono {nx' : Gm → Mm → Prop} {rt' : Sv → Mm → Prop} {bk' ct' : Gm → Mm → Prop} (h : WS K P0 t G M nx rt bk ct) (h1 : ∀ G M, nx G M → nx' G M) (h2 : ∀ s M, rt s M → rt' s M) (h3 : ∀ G M, bk G M → bk' G M) (h4 : ∀ G M, ct G M → ct' G M) : WS K P0 t G M nx' rt' bk' ct' :=
  fun σ Hs H S L D dn dr db dc => h σ Hs H S L D (fun σ2 Hs2 H2 G2 M2 S2 e2 L2 q => dn σ2 Hs2 H2 G2 M2 S2 e2 L2 (h1 _ _ q)) (fun v Hs2 H2 s M2 S2 e2 r q => dr v Hs2 H2 s M2 S2 e2 r (h2 _ _ q))
    (fun σ2 Hs2 H2 G2 M2 S2 e2 L2 q => db σ2 Hs2 H2 G2 M2 S2 e2 L2 (h3 _ _ q)) (fun σ2 Hs2 H2 G2 M2 S2 e2 L2 q => dc σ2 Hs2 H2 G2 M2 S2 e2 L2 (h4 _ _ q))
/-- raise X('..') -/
theorem ws_raise {E : XK} {e : Value → Mm → Prop} {cls : Value} (hE : XL K P0 E e) (h : e cls M) : WS K P0 (fun _ σ H => (fun (_ : L2.St) (H : Hp) (Q : XK) => Q cls none H) σ H fun cls d H' => (fun cls d (_ : L2.St) H => E cls d H) cls d σ H') G M nx rt bk ct :=
  fun σ Hs H S L D _ _ _ _ => hE cls Hs H M S h
/-- freezing a list between statements -/
theorem ws_freeze {a : Addr} {ds : List PyData} (hm : M a = some (.lst (ds.map Sv.va))) (hi : G[i]? = some (some (.rf (.ref a)))) (h : WS K P0 t (G.set i (some (.va (.list ds)))) (mdel M a) nx rt bk ct) : WS K P0 t G M nx rt bk ct :=
  fun σ Hs H S L D dn dr db dc => by
    obtain ⟨Hs1, S1, e1, d1⟩ := S.freeze hm
    have L1 := slots_mono e1 L
    obtain ⟨v, hv, rv⟩ := L1.2 i _ hi
    have ev : v = .ref a := rv
    have hl : σ.set i (some v) = σ := by
      apply List.ext_getElem?
      intro j
      by_cases e : i = j
      · subst e
        rw [List.getElem?_set_self (List.getElem?_eq_some_iff.mp hv).1, hv]
      · rw [List.getElem?_set_ne e]
    have L2 : Slots K Hs1 σ (G.set i (some (.va (.list ds)))) := by
      have z := slots_set (v := v) (s := .va (.list ds)) L1 (by rw [ev]; exact d1) i
      rw [hl] at z
      exact z
    exact h σ Hs1 H S1 L2 D (fun σ2 Hs2 H2 G2 M2 S2 e2 => dn σ2 Hs2 H2 G2 M2 S2 (e1.trans e2)) (fun v Hs2 H2 s M2 S2 e2 => dr v Hs2 H2 s M2 S2 (e1.trans e2))
      (fun σ2 Hs2 H2 G2 M2 S2 e2 => db σ2 Hs2 H2 G2 M2 S2 (e1.trans e2)) (fun σ2 Hs2 H2 G2 M2 S2 e2 => dc σ2 Hs2 H2 G2 M2 S2 (e1.trans e2))
/-- a value that is handed back is a list that nobody changes from then on -/
theorem we_freeze {ds : List PyData} (h : WE K P0 te G M fun s M1 => ∃ a, s = .rf (.ref a) ∧ M1 a = some (.lst (ds.map Sv.va)) ∧ k (.va (.list ds)) (mdel M1 a)) : WE K P0 te G M k := fun σ Hs H S L Q c =>
  h σ Hs H S L _ fun x Hs1 H1 s M1 S1 e1 r1 ⟨a, es, hm, q⟩ => by
    subst es
    have ex : x = .ref a := r1
    subst ex
    obtain ⟨Hs2, S2, e2, d2⟩ := S1.freeze hm
    exact c (.ref a) Hs2 H1 (.va (.list ds)) _ S2 (e1.trans e2) d2 q
/-- owned objects dropped -/
theorem ws_shrink {M0 : Mm} (hm : ∀ a o, M0 a = some o → M a = some o) (h : WS K P0 t G M0 nx rt bk ct) : WS K P0 t G M nx rt bk ct := fun σ Hs H S L D dn dr db dc => h σ Hs H (S.shrink hm) L D dn dr db dc
theorem we_shrink (h : WE K P0 te G M fun s M1 => ∃ M0 : Mm, (∀ a o, M0 a = some o → M1 a = some o) ∧ k s M0) : WE K P0 te G M k := fun σ Hs H S L Q c =>
  h σ Hs H S L _ fun x Hs1 H1 s M1 S1 e1 r1 ⟨M0, hm, q⟩ => c x Hs1 H1 s M0 (S1.shrink hm) e1 r1 q
/-- an owned object dropped -/
theorem ws_forget (a : Addr) (h : WS K P0 t G (mdel M a) nx rt bk ct) : WS K P0 t G M nx rt bk ct := fun σ Hs H S L D dn dr db dc => h σ Hs H (S.drop a) L D dn dr db dc
/-- while: by an invariant and a measure -/
theorem ws_while {tc : TT} (J : Nat → Gm → Mm → Prop) (m0 : Nat) (h0 : J m0 G M) (hs : ∀ m G' M', J m G' M' → WT K P0 tc G' M' fun b M1 => (b = true → WS K P0 t G' M1 (fun G2 M2 => ∃ m', m' < m ∧ J m' G2 M2) rt nx fun G2 M2 => ∃ m', m' < m ∧ J m' G2 M2) ∧ (b = false → nx G' M1)) :
    WS K P0 (tWhile tc t) G M nx rt bk ct := fun σ Hs H S L D dn dr db dc => by
  refine ⟨fun m σ' H' => ∃ Hs' G' M', St0 K P0 M' Hs' H' ∧ Ex Hs Hs' ∧ Slots K Hs' σ' G' ∧ J m G' M', ⟨m0, Hs, G, M, S, Ex.refl _, L, h0⟩, ?_⟩
  rintro m σ1 H1 ⟨Hs1, G1, M1, S1, e1, L1, j1⟩
  refine hs m G1 M1 j1 σ1 Hs1 H1 S1 L1 _ fun b Hs2 H2 M2 S2 e2 q => ?_
  cases b with
  | true =>
    show ∃ N : L2.St → Hp → Prop, _
    refine ⟨fun σ' H' => ∃ m', m' < m ∧ ∃ Hs' G' M', St0 K P0 M' Hs' H' ∧ Ex Hs Hs' ∧ Slots K Hs' σ' G' ∧ J m' G' M', fun σ' H' z => z, ?_⟩
    exact q.1 rfl σ1 Hs2 H2 S2 (slots_mono e2 L1) _ (fun σ3 Hs3 H3 G3 M3 S3 e3 L3 ⟨m', hm, j3⟩ => ⟨m', hm, Hs3, G3, M3, S3, (e1.trans e2).trans e3, L3, j3⟩) (fun v Hs3 H3 s M3 S3 e3 => dr v Hs3 H3 s M3 S3 ((e1.trans e2).trans e3))
      (fun σ3 Hs3 H3 G3 M3 S3 e3 => dn σ3 Hs3 H3 G3 M3 S3 ((e1.trans e2).trans e3)) (fun σ3 Hs3 H3 G3 M3 S3 e3 L3 ⟨m', hm, j3⟩ => ⟨m', hm, Hs3, G3, M3, S3, (e1.trans e2).trans e3, L3, j3⟩)
  | false =>
    show D.nx σ1 H2
    exact dn σ1 Hs2 H2 G1 M2 S2 (e1.trans e2) (slots_mono e2 L1) (q.2 rfl)
/-- from a promise at data to the body's reading -/
theorem run_abs {vs : List V} {H Hs : Hp} {as : List Sv} {Q : VK} {E : XK} {e : Value → Mm → Prop} {N : List Str} (ho : Own K Hs M H) (hv : Reps K Hs vs as)
    (hk : ∀ v Hs' H' s M', Gr M M' Hs H Hs' H' → Own K Hs' M' H' → Rep K Hs' v s → k s M' → Q v H') (he : ∀ cls Hs' H' M', Gr M M' Hs H Hs' H' → Own K Hs' M' H' → e cls M' → E cls none H')
    (hl : as.length ≤ N.length)
    (h : ∀ P0 : Ent, XL K P0 E e → WS K P0 t (as.map some ++ List.replicate (N.length - as.length) none) M (fun _ M' => k (.va .none) M') k (fun _ _ => False) (fun _ _ => False)) :
    t { nx := fun _ H' => Q .non H', rt := Q } (L2.start N vs) H := by
  have L : Slots K Hs (L2.start N vs) (as.map some ++ List.replicate (N.length - as.length) none) := by
    have hlen := hv.length
    refine ⟨?_, fun i s g => ?_⟩
    · unfold L2.start
      simp only [List.length_append, List.length_map, List.length_replicate]
      omega
    · by_cases hi : i < as.length
      · rw [List.getElem?_append_left (by simpa using hi), List.getElem?_map] at g
        cases e1 : as[i]? with
        | none => rw [e1] at g; cases g
        | some s' =>
          rw [e1] at g
          have e2 : s' = s := Option.some.inj (Option.some.inj g)
          subst e2
          obtain ⟨v, a, b⟩ := reps_get hv e1
          refine ⟨v, ?_, b⟩
          unfold L2.start
          rw [List.getElem?_append_left (by simp; omega), List.getElem?_map, a]
          rfl
      · rw [List.getElem?_append_right (by simpa using hi), List.getElem?_replicate] at g
        split at g <;> cases g
  refine h ⟨M, Hs, H⟩ (fun cls Hs' H' M' S' z => he cls Hs' H' M' S'.gr S'.own z) (L2.start N vs) Hs H ⟨Gr.refl _ _ _, ho⟩ L { nx := fun _ H' => Q .non H', rt := Q } (fun σ' Hs' H' G' M' S' _ _ q => hk .non Hs' H' (.va .none) M' S'.gr S'.own Dq.non q) (fun v Hs' H' s M' S' _ r q => hk v Hs' H' s M' S'.gr S'.own r q) (fun _ _ _ _ _ _ _ _ q => q.elim) (fun _ _ _ _ _ _ _ _ q => q.elim)
end
end G91

/-! Fw2: operators, calls of built-ins, loops, comprehensions, at data. -/
namespace G91
open PySem PySem.Spec PyProof.Rows L2
open Evl (Ex)

/-! ### whole numbers of any size -/
/-- what the interpreter's own modules are, for a division of great numbers -/
structure SysOk (P : Program) (K : PySem.W.Frag) : Prop where
  tree : P.given.tree = none
  statics : ∀ h : Heap, K.In h → ∃ mc, h.Ns cStatics mc ∧ mc "sys.audit-hooks" = none ∧ mc "sys.dict" = none
  mods : ∀ h : Heap, K.In h → ∃ mm, h.Ns sysModules mm ∧ mm "_pylong" = none
  main : ∀ h : Heap, K.In h → ∃ mg bm ob, h.Ns mainGlobals mg ∧ mg "__builtins__" = some (.ref bm) ∧ h.get? bm = some ob ∧ ob.cls = .type "module" ∧ ob.dict = some builtinsNs
section
variable {X : Cx}
theorem SysOk.seer (y : SysOk X.prog X.K) {pins : List (Addr × Obj)} {σ : L2.St} {H : Hp} {s : Shared} (I : Inv X pins σ H s) : s.heap.NoSeer where
  statics := y.statics _ I.kIn
  mods := y.mods _ I.kIn
  imp := let ⟨mb, a, b⟩ := I.mod.blt; ⟨mb, a.keepsP I.bk, b⟩
  main := y.main _ I.kIn
/-- a // b, whatever their size -/
theorem op_fdivR (y : SysOk X.prog X.K) (hr : Room 33 X.A) (hs : X.stack = X.env :: X.outer) (hg : X.env.scope.isGenerator = false) (hco : X.env.scope.isCoroutine = false) :
    OpR X (binaryOp .FloorDiv) (rI (fun _ j => j ≠ 0) fun i j => .int (i.fdiv j)) := by
  intro pins s σ H x z v u Q I rx ry h
  obtain ⟨i, j, rfl, rfl, hc, q⟩ := h
  obtain ⟨t, rfl⟩ := rx
  obtain ⟨t', rfl⟩ := ry
  have hfr : X.A.frames = some (X.env :: X.outer) := by rw [I.ok.frames, hs]
  refine floordiv_int hc ⟨.int (i.fdiv j), H, I.tok _, ⟨_, rfl⟩, q⟩ (.inr ?_)
  refine PySem.PylongRoom.of I.nolimit ?_ (PySem.SeerAt.of (y.seer I) y.tree hfr hg hco I.ok.blt I.ok.glob)
  have := hr.dp
  show X.A.depth + 100 < recursionLimit
  omega
/-- a * b, where both are not too great -/
theorem op_mulG : OpR X (binaryOp .Mult) (rI IntMulOk fun i j => .int (i * j)) := opI fun _ _ _ _ _ _ _ hc q => mul_int q hc
/-- two rules for one operator -/
theorem OpR.or {f : Value → Value → Sem Value} {r r' : R2} (a : OpR X f r) (b : OpR X f r') : OpR X f (fun x y H Q => r x y H Q ∨ r' x y H Q) := by
  intro pins s σ H x y v u Q I rx ry h
  rcases h with h | h
  · exact a pins s σ H x y v u Q I rx ry h
  · exact b pins s σ H x y v u Q I rx ry h
def rOr (r r' : R2) : R2 := fun x y H Q => r x y H Q ∨ r' x y H Q
/-- xs + ys, lists that are read -/
def rCatL (K : PySem.W.Frag) : R2 := fun x y H Q => ∃ a b xs ys, x = .ref a ∧ y = .ref b ∧ SqL K H a xs ∧ SqL K H b ys ∧ xs.length + ys.length ≤ sizeLine ∧ ∀ p, H p = none → Q (.ref p) (upd H p (.lst (xs ++ ys)))
def rStrAdd : R2 := fun x y H Q => ∃ i j, x = .str i ∧ y = .str j ∧ i.length + j.length ≤ sizeLine ∧ Q (.str (i ++ j)) H
def rAddI : R2 := rI0 fun i j => .int (i + j)
def rAddA (K : PySem.W.Frag) : R2 := rOr rAddI (rOr rStrAdd (rOr (rCatA K) rCat))
theorem op_addA : OpR X (binaryOp .Add) (rAddA X.K) := OpR.or op_add (OpR.or op_add_str (OpR.or op_catA op_cat))
def rMulI : R2 := rI IntMulOk fun i j => .int (i * j)
def rMulA (K : PySem.W.Frag) : R2 := rOr rMulI (rOr (rRepT K) rRep)
theorem op_mulA : OpR X (binaryOp .Mult) (rMulA X.K) := OpR.or op_mulG (OpR.or op_repT op_rep)
def rInA (K : PySem.W.Frag) : R2 := rOr (rIn K false) (rInD K)
def rNotInA (K : PySem.W.Frag) : R2 := rOr (rIn K true) (rNotInD K)
theorem op_inA (hu : X.A.units + 65 < cLine) : OpR X (compareOp .In) (rInA X.K) := OpR.or op_in_seq (op_inD hu)
theorem op_notInA (hu : X.A.units + 65 < cLine) : OpR X (compareOp .NotIn) (rNotInA X.K) := OpR.or op_notIn_seq (op_notInD hu)
end

section
variable {K : PySem.W.Frag} {P0 : Ent} {G : Gm} {M : Mm} {k : Sv → Mm → Prop} {te ta tb : TE} {i : Nat} {s : Sv} {v : V}
theorem r2_mono {r : R2} {s s' : Sv} {k' : Sv → Mm → Prop} (h : R2D K P0 r s s' M k) (q : ∀ s M', k s M' → k' s M') : R2D K P0 r s s' M k' := fun Hs H x y S r1 r2 Q c => h Hs H x y S r1 r2 Q fun v Hs' H' s M' S' e r z => c v Hs' H' s M' S' e r (q s M' z)
theorem r2_l {r r' : R2} {s s' : Sv} (h : R2D K P0 r s s' M k) : R2D K P0 (rOr r r') s s' M k := fun Hs H x y S r1 r2 Q c => .inl (h Hs H x y S r1 r2 Q c)
theorem r2_r {r r' : R2} {s s' : Sv} (h : R2D K P0 r' s s' M k) : R2D K P0 (rOr r r') s s' M k := fun Hs H x y S r1 r2 Q c => .inr (h Hs H x y S r1 r2 Q c)
theorem r2_Ii {f : Int → Int → Int} {a b : Int} (q : k (.va (.int (f a b))) M) : R2D K P0 (rI0 fun i j => .int (f i j)) (.va (.int a)) (.va (.int b)) M k := fun Hs H x y S r1 r2 Q c => by
  cases (show Dq K Hs x (.int a) from r1)
  cases (show Dq K Hs y (.int b) from r2)
  exact ⟨a, b, rfl, rfl, c _ Hs H (.va (.int (f a b))) M S (Ex.refl _) (Dq.int _) q⟩
theorem r2_Ib {f : Int → Int → Bool} {a b : Int} (q : k (.va (.bool (f a b))) M) : R2D K P0 (rI0 fun i j => .bl (f i j)) (.va (.int a)) (.va (.int b)) M k := fun Hs H x y S r1 r2 Q c => by
  cases (show Dq K Hs x (.int a) from r1)
  cases (show Dq K Hs y (.int b) from r2)
  exact ⟨a, b, rfl, rfl, c _ Hs H (.va (.bool (f a b))) M S (Ex.refl _) (Dq.bl _) q⟩
theorem r2_CIi {C : Int → Int → Prop} {f : Int → Int → Int} {a b : Int} (hc : C a b) (q : k (.va (.int (f a b))) M) : R2D K P0 (rI C fun i j => .int (f i j)) (.va (.int a)) (.va (.int b)) M k := fun Hs H x y S r1 r2 Q c => by
  cases (show Dq K Hs x (.int a) from r1)
  cases (show Dq K Hs y (.int b) from r2)
  exact ⟨a, b, rfl, rfl, hc, c _ Hs H (.va (.int (f a b))) M S (Ex.refl _) (Dq.int _) q⟩
theorem r2_addI {a b : Int} (q : k (.va (.int (a + b))) M) : R2D K P0 (rAddA K) (.va (.int a)) (.va (.int b)) M k := r2_l (r2_Ii q)
theorem r2_addS {a b : Str} (hl : a.length + b.length ≤ 100000) (q : k (.va (.str (a ++ b))) M) : R2D K P0 (rAddA K) (.va (.str a)) (.va (.str b)) M k := r2_r (r2_l fun Hs H x y S r1 r2 Q c => by
  cases (show Dq K Hs x (.str a) from r1)
  cases (show Dq K Hs y (.str b) from r2)
  exact ⟨a, b, rfl, rfl, Evl.sz_of hl, c _ Hs H (.va (.str (a ++ b))) M S (Ex.refl _) (Dq.str _) q⟩)
theorem dp_tup_inv {Hs : Hp} {x : V} {ds : List PyData} (h : Dq K Hs x (.tuple ds)) : ∃ a xs, x = .ref a ∧ SqT K Hs a xs ∧ DqAll K Hs xs ds := by
  cases h with
  | tup h1 h2 => exact ⟨_, _, rfl, h1, h2⟩
theorem dp_lst_inv {Hs : Hp} {x : V} {ds : List PyData} (h : Dq K Hs x (.list ds)) : ∃ a xs, x = .ref a ∧ Hs a = some (.lst xs) ∧ DqAll K Hs xs ds := by
  cases h with
  | lst h1 h2 => exact ⟨_, _, rfl, h1, h2⟩
theorem dpAll_length {Hs : Hp} : ∀ {xs : List V} {ds : List PyData}, DqAll K Hs xs ds → xs.length = ds.length
  | _, _, .nil => rfl
  | _, _, .cons _ t => by rw [List.length_cons, List.length_cons, dpAll_length t]
theorem dpAll_append {Hs : Hp} : ∀ {xs ys : List V} {ds es : List PyData}, DqAll K Hs xs ds → DqAll K Hs ys es → DqAll K Hs (xs ++ ys) (ds ++ es)
  | _, _, _, _, .nil, h => h
  | _, _, _, _, .cons a t, h => .cons a (dpAll_append t h)
theorem dpAll_get {Hs : Hp} : ∀ {xs : List V} {ds : List PyData} {i : Nat} {d : PyData}, DqAll K Hs xs ds → ds[i]? = some d → ∃ x, xs[i]? = some x ∧ Dq K Hs x d
  | _, _, _, _, .nil, h => by simp at h
  | _, _, 0, _, .cons a t, h => by
    simp at h; subst h
    exact ⟨_, by simp, a⟩
  | _, _, i + 1, _, .cons a t, h => by
    obtain ⟨x, h1, h2⟩ := dpAll_get (i := i) t (by simpa using h)
    exact ⟨x, by simpa using h1, h2⟩
theorem dpAll_drop {Hs : Hp} : ∀ {xs : List V} {ds : List PyData} (n : Nat), DqAll K Hs xs ds → DqAll K Hs (xs.drop n) (ds.drop n)
  | _, _, 0, h => h
  | _, _, _ + 1, .nil => .nil
  | _, _, n + 1, .cons _ t => dpAll_drop n t
theorem dpAll_take {Hs : Hp} : ∀ {xs : List V} {ds : List PyData} (n : Nat), DqAll K Hs xs ds → DqAll K Hs (xs.take n) (ds.take n)
  | _, _, 0, _ => .nil
  | _, _, _ + 1, .nil => .nil
  | _, _, n + 1, .cons a t => .cons a (dpAll_take n t)

/-- (..) + (..) -/
theorem r2_addT {ds es : List PyData} (hl : ds.length + es.length ≤ 100000) (q : k (.va (.tuple (ds ++ es))) M) : R2D K P0 (rAddA K) (.va (.tuple ds)) (.va (.tuple es)) M k := r2_r (r2_r (r2_l fun Hs H x y S r1 r2 Q c => by
  obtain ⟨a, xs, rfl, h1, h2⟩ := dp_tup_inv r1
  obtain ⟨b, ys, rfl, h3, h4⟩ := dp_tup_inv r2
  have l1 := dpAll_length h2
  have l2 := dpAll_length h4
  refine ⟨a, b, xs, ys, rfl, rfl, Evl.ex_t S.own.ex h1, Evl.ex_t S.own.ex h3, Evl.sz_of (by omega), fun e => ?_, fun _ e => ?_, fun _ _ p hp => ?_⟩
  · subst e
    cases h2
    exact c (.ref b) Hs H (.va (.tuple es)) M S (Ex.refl _) (Dq.tup h3 h4) q
  · subst e
    cases h4
    rw [List.append_nil] at q
    exact c (.ref a) Hs H (.va (.tuple ds)) M S (Ex.refl _) (Dq.tup h1 h2) q
  · obtain ⟨S2, e2⟩ := S.share hp (.tup (xs ++ ys))
    exact c (.ref p) _ _ (.va (.tuple (ds ++ es))) M S2 e2 (Dq.tup (Evl.st_of upd_same) (dpAll_mono e2 (dpAll_append h2 h4))) q))
/-- a list that can be read: shared, or owned -/
inductive RL (M : Mm) : Sv → List Sv → Prop
  | sh (ds : List PyData) : RL M (.va (.list ds)) (ds.map Sv.va)
  | ow {a : Addr} {ss : List Sv} : M a = some (.lst ss) → RL M (.rf (.ref a)) ss
theorem RL.at {Hs H : Hp} {x : V} {ss : List Sv} (S : St0 K P0 M Hs H) (r : Rep K Hs x s) (l : RL M s ss) : ∃ a xs, x = .ref a ∧ H a = some (.lst xs) ∧ Reps K Hs xs ss := by
  cases l with
  | sh ds =>
    obtain ⟨a, xs, rfl, h1, h2⟩ := dp_lst_inv r
    exact ⟨a, xs, rfl, S.own.ex _ _ h1, reps_of_dpAll h2⟩
  | ow h =>
    have ex : x = .ref _ := r
    subst ex
    obtain ⟨xs, h1, h2⟩ := S.own.ob _ _ h
    exact ⟨_, xs, rfl, h1, h2⟩
/-- [..] + [..], a new list of one's own | that nobody changes -/
theorem r2_addL {s s' : Sv} {ss ts : List Sv} (h1 : RL M s ss) (h2 : RL M s' ts) (hl : ss.length + ts.length ≤ 100000) (q : ∀ p, M p = none → k (.rf (.ref p)) (mup M p (.lst (ss ++ ts)))) : R2D K P0 (rAddA K) s s' M k := r2_r (r2_r (r2_r fun Hs H x y S r1 r2 Q c => by
  obtain ⟨a, xs, rfl, g1, g2⟩ := h1.at S r1
  obtain ⟨b, ys, rfl, g3, g4⟩ := h2.at S r2
  have l1 := g2.length
  have l2 := g4.length
  refine ⟨a, b, xs, ys, rfl, rfl, g1, g3, Evl.sz_of (by omega), fun p hp => ?_⟩
  exact c (.ref p) _ _ (.rf (.ref p)) _ (S.make hp (ob := .lst (ss ++ ts)) ⟨_, upd_same, reps_append g2 g4⟩) (Ex.refl _) rfl (q p (S.own.free hp).1)))
theorem r2_addLv {s s' : Sv} {ds es : List PyData} (h1 : RL M s (ds.map Sv.va)) (h2 : RL M s' (es.map Sv.va)) (hl : ds.length + es.length ≤ 100000) (q : k (.va (.list (ds ++ es))) M) : R2D K P0 (rAddA K) s s' M k := r2_r (r2_r (r2_r fun Hs H x y S r1 r2 Q c => by
  obtain ⟨a, xs, rfl, g1, g2⟩ := h1.at S r1
  obtain ⟨b, ys, rfl, g3, g4⟩ := h2.at S r2
  have l1 := g2.length
  have l2 := g4.length
  rw [List.length_map] at l1 l2
  refine ⟨a, b, xs, ys, rfl, rfl, g1, g3, Evl.sz_of (by omega), fun p hp => ?_⟩
  obtain ⟨S2, e2⟩ := S.share hp (.lst (xs ++ ys))
  exact c (.ref p) _ _ (.va (.list (ds ++ es))) M S2 e2 (Dq.lst upd_same (dpAll_mono e2 (dpAll_append (dpAll_of_reps g2) (dpAll_of_reps g4)))) q))
theorem r2_mulI {a b : Int} (hc : IntMulOk a b) (q : k (.va (.int (a * b))) M) : R2D K P0 (rMulA K) (.va (.int a)) (.va (.int b)) M k := r2_l (r2_CIi hc q)
/-- data that can be read off -/
inductive DR (M : Mm) : Sv → PyData → Prop
  | sh (d : PyData) : DR M (.va d) d
  | ow {a : Addr} {ds : List PyData} : M a = some (.lst (ds.map Sv.va)) → DR M (.rf (.ref a)) (.list ds)
  | wk {s : Sv} {d d' : PyData} : DR M s d → (∀ (K : PySem.W.Frag) (Hs : Hp) (v : V), Dq K Hs v d → Dq K Hs v d') → DR M s d'
theorem DR.at {Hs H : Hp} {x : V} {d : PyData} (S : St0 K P0 M Hs H) (r : Rep K Hs x s) (l : DR M s d) : Dq K H x d := by
  induction l with
  | sh d => exact dp_mono S.own.ex r
  | ow h =>
    have ex : x = .ref _ := r
    subst ex
    obtain ⟨xs, h1, h2⟩ := S.own.ob _ _ h
    exact .lst h1 (dpAll_mono S.own.ex (dpAll_of_reps h2))
  | wk _ w ih => exact w _ _ _ (ih r)
theorem shaped_lay {d : PyData} (h : SeqAt.shaped d = true) : d.canLay0 = true := SeqAt.canLay_of_shaped h
theorem r2_eqD {s s' : Sv} {d e : PyData} (h1 : DR M s d) (h2 : DR M s' e) (sd : SeqAt.shaped d = true) (se : SeqAt.shaped e = true) (q : k (.va (.bool (PyData.eqv d e))) M) : R2D K P0 (rEqD K) s s' M k := fun Hs H x y S r1 r2 Q c =>
  ⟨d, e, dq_dp (h1.at S r1) (shaped_lay sd), dq_dp (h2.at S r2) (shaped_lay se), sd, se, c _ Hs H (.va (.bool _)) M S (Ex.refl _) (Dq.bl _) q⟩
theorem r2_neD {s s' : Sv} {d e : PyData} (h1 : DR M s d) (h2 : DR M s' e) (sd : SeqAt.shaped d = true) (se : SeqAt.shaped e = true) (q : k (.va (.bool (!PyData.eqv d e))) M) : R2D K P0 (rNeD K) s s' M k := fun Hs H x y S r1 r2 Q c =>
  ⟨d, e, dq_dp (h1.at S r1) (shaped_lay sd), dq_dp (h2.at S r2) (shaped_lay se), sd, se, c _ Hs H (.va (.bool _)) M S (Ex.refl _) (Dq.bl _) q⟩
theorem r2_in {s s' : Sv} {d : PyData} {ds : List PyData} (h1 : DR M s d) (h2 : DR M s' (.list ds)) (sd : SeqAt.shaped d = true) (se : SeqAt.shaped (.list ds) = true) (q : k (.va (.bool (ds.any fun z => PyData.eqv z d))) M) : R2D K P0 (rInA K) s s' M k := r2_r fun Hs H x y S r1 r2 Q c =>
  ⟨d, ds, dq_dp (h1.at S r1) (shaped_lay sd), dq_dp (h2.at S r2) (shaped_lay se), sd, se, c _ Hs H (.va (.bool _)) M S (Ex.refl _) (Dq.bl _) q⟩
theorem r2_notIn {s s' : Sv} {d : PyData} {ds : List PyData} (h1 : DR M s d) (h2 : DR M s' (.list ds)) (sd : SeqAt.shaped d = true) (se : SeqAt.shaped (.list ds) = true) (q : k (.va (.bool (!ds.any fun z => PyData.eqv z d))) M) : R2D K P0 (rNotInA K) s s' M k := r2_r fun Hs H x y S r1 r2 Q c =>
  ⟨d, ds, dq_dp (h1.at S r1) (shaped_lay sd), dq_dp (h2.at S r2) (shaped_lay se), sd, se, c _ Hs H (.va (.bool _)) M S (Ex.refl _) (Dq.bl _) q⟩
/-! subscripts -/
theorem atI_len {α β : Type} {xs : List α} {ys : List β} (h : xs.length = ys.length) {i : Int} {y : β} (e : atI ys i = some y) : ∃ j : Nat, ys[j]? = some y ∧ ∀ x : α, xs[j]? = some x → atI xs i = some x := by
  unfold atI at e ⊢
  rw [h]
  cases q : ixN ys.length i with
  | none => rw [q] at e; cases e
  | some j => rw [q] at e; exact ⟨j, e, fun x hx => hx⟩
theorem r2_ixT {ds : List PyData} {i : Int} {d : PyData} (e : atI ds i = some d) (q : k (.va d) M) : R2D K P0 (rIx K) (.va (.tuple ds)) (.va (.int i)) M k := fun Hs H x y S r1 r2 Q c => by
  obtain ⟨a, xs, rfl, h1, h2⟩ := dp_tup_inv r1
  cases (show Dq K Hs y (.int i) from r2)
  obtain ⟨j, e1, e2⟩ := atI_len (dpAll_length h2) e
  obtain ⟨v, e3, e4⟩ := dpAll_get h2 e1
  exact .inr (.inl ⟨a, xs, i, v, rfl, rfl, Evl.ex_t S.own.ex h1, e2 v e3, c v Hs H (.va d) M S (Ex.refl _) e4 q⟩)
theorem reps_length {Hs : Hp} {xs : List V} {ss : List Sv} (h : Reps K Hs xs ss) : xs.length = ss.length := Paired.length h
theorem r2_ixL {s : Sv} {ss : List Sv} {i : Int} {t : Sv} (l : RL M s ss) (e : atI ss i = some t) (q : k t M) : R2D K P0 (rIx K) s (.va (.int i)) M k := fun Hs H x y S r1 r2 Q c => by
  obtain ⟨a, xs, rfl, h1, h2⟩ := l.at S r1
  cases (show Dq K Hs y (.int i) from r2)
  obtain ⟨j, e1, e2⟩ := atI_len (reps_length h2) e
  obtain ⟨v, e3, e4⟩ := reps_get h2 e1
  exact .inl ⟨a, xs, i, v, rfl, rfl, .inl (.inl h1), e2 v e3, c v Hs H t M S (Ex.refl _) e4 q⟩
theorem r2_ixScr {ns : List Int} {i n : Int} (e : atI ns i = some n) (q : k (.va (.int n)) M) : R2D K P0 (rIx K) (.va (scD ns)) (.va (.int i)) M k := fun Hs H x y S r1 r2 Q c => by
  have r1 : Dq K Hs x (.dict [(.list (ns.map PyData.int), .none)]) := r1
  generalize hd : PyData.dict [(.list (ns.map PyData.int), .none)] = d at r1
  cases r1 with
  | scr h =>
    rename_i a ms
    have em : ns = ms := by
      injection hd with h1
      injection h1 with h2 _
      injection h2 with h3 _
      injection h3 with h4
      exact (List.map_inj_right (fun x y z => by injection z)).mp h4
    subst em
    cases (show Dq K Hs y (.int i) from r2)
    obtain ⟨j, e1, e2⟩ := atI_len (xs := ns.map V.int) (by simp) e
    exact .inl ⟨a, _, i, .int n, rfl, rfl, Evl.ex_l S.own.ex h, e2 _ (by rw [List.getElem?_map, e1]; rfl), c _ Hs H (.va (.int n)) M S (Ex.refl _) (Dq.int n) q⟩
  | _ => cases hd
theorem r2_ixS {z : Str} {i : Int} {ch : Nat} (hl : z.length ≤ 100000) (e : atI z.cps.toList i = some ch) (q : k (.va (.str ⟨#[ch]⟩)) M) : R2D K P0 (rIx K) (.va (.str z)) (.va (.int i)) M k := fun Hs H x y S r1 r2 Q c => by
  cases (show Dq K Hs x (.str z) from r1)
  cases (show Dq K Hs y (.int i) from r2)
  exact .inr (.inr ⟨z, i, ch, rfl, rfl, Evl.sz_of hl, e, c _ Hs H (.va (.str ⟨#[ch]⟩)) M S (Ex.refl _) (Dq.str _) q⟩)
/-! calls of built-ins -/
theorem we_cb {r : List V → Hp → VK → Prop} {tr : TA} (h : WA K P0 tr G M fun ss M1 => RCD K P0 r ss M1 k) : WE K P0 (tCB r tr) G M k := fun σ Hs H S L Q c =>
  h σ Hs H S L _ fun xs Hs1 H1 ss M1 S1 e1 r1 h1 => h1 Hs1 H1 xs S1 r1 Q fun v Hs2 H2 t M2 S2 e2 r2 q => c v Hs2 H2 t M2 S2 (e1.trans e2) r2 q
def rLenC (K : PySem.W.Frag) : List V → Hp → VK → Prop := fun xs H Q => ∃ x n, xs = [x] ∧ LenV K x H n ∧ Q (.int n) H
theorem reps1 {Hs : Hp} {xs : List V} {s : Sv} (r : Reps K Hs xs [s]) : ∃ x, xs = [x] ∧ Rep K Hs x s := by
  cases r with
  | cons a b => cases b; exact ⟨_, rfl, a⟩
theorem reps2 {Hs : Hp} {xs : List V} {s t : Sv} (r : Reps K Hs xs [s, t]) : ∃ x y, xs = [x, y] ∧ Rep K Hs x s ∧ Rep K Hs y t := by
  cases r with
  | cons a b =>
    obtain ⟨y, rfl, h⟩ := reps1 b
    exact ⟨_, y, rfl, a, h⟩
theorem rc_lenL {s : Sv} {ss : List Sv} (l : RL M s ss) (q : k (.va (.int ss.length)) M) : RCD K P0 (rLenC K) [s] M k := fun Hs H xs S r Q c => by
  obtain ⟨x, rfl, r1⟩ := reps1 r
  obtain ⟨a, ys, rfl, h1, h2⟩ := l.at S r1
  have e := reps_length h2
  exact ⟨.ref a, ys.length, rfl, .inl ⟨ys, .inl (.inl h1), rfl⟩, by rw [e]; exact c _ Hs H (.va (.int ss.length)) M S (Ex.refl _) (Dq.int _) q⟩
theorem rc_lenT {ds : List PyData} (q : k (.va (.int ds.length)) M) : RCD K P0 (rLenC K) [.va (.tuple ds)] M k := fun Hs H xs S r Q c => by
  obtain ⟨x, rfl, r1⟩ := reps1 r
  obtain ⟨a, ys, rfl, h1, h2⟩ := dp_tup_inv r1
  have e := dpAll_length h2
  exact ⟨.ref a, ys.length, rfl, .inr ⟨ys, Evl.ex_t S.own.ex h1, rfl⟩, by rw [e]; exact c _ Hs H (.va (.int ds.length)) M S (Ex.refl _) (Dq.int _) q⟩
theorem rc_lenS {z : Str} (hl : z.length ≤ 100000) (q : k (.va (.int z.length)) M) : RCD K P0 (rLenC K) [.va (.str z)] M k := fun Hs H xs S r Q c => by
  obtain ⟨x, rfl, r1⟩ := reps1 r
  cases (show Dq K Hs x (.str z) from r1)
  exact ⟨.str z, z.length, rfl, ⟨Evl.sz_of hl, rfl⟩, c _ Hs H (.va (.int z.length)) M S (Ex.refl _) (Dq.int _) q⟩
theorem dq_scr_inv {Hs : Hp} {x : V} {ns : List Int} (r1 : Dq K Hs x (scD ns)) : ∃ a, x = .ref a ∧ SqL K Hs a (ns.map V.int) := by
  unfold scD at r1
  generalize hd : PyData.dict [(.list (ns.map PyData.int), .none)] = d at r1
  cases r1 with
  | scr h =>
    rename_i a ms
    have em : ns = ms := by
      injection hd with h1
      injection h1 with h2 _
      injection h2 with h3 _
      injection h3 with h4
      exact (List.map_inj_right (fun x y z => by injection z)).mp h4
    subst em
    exact ⟨a, rfl, h⟩
  | _ => cases hd
theorem rc_lenScr {ns : List Int} (q : k (.va (.int ns.length)) M) : RCD K P0 (rLenC K) [.va (scD ns)] M k := fun Hs H xs S r Q c => by
  obtain ⟨x, rfl, r1⟩ := reps1 r
  obtain ⟨a, rfl, h⟩ := dq_scr_inv r1
  exact ⟨.ref a, ns.length, rfl, .inl ⟨_, Evl.ex_l S.own.ex h, by simp⟩, c _ Hs H (.va (.int ns.length)) M S (Ex.refl _) (Dq.int _) q⟩
/-- isinstance(x, T) of data, T a built-in class -/
def tyD : PyData → String
  | .none => "NoneType"
  | .bool _ => "bool"
  | .int _ => "int"
  | .str _ => "str"
  | .list _ => "list"
  | .tuple _ => "tuple"
  | .dict [(.tuple _, _)] => "tuple"
  | .dict _ => "list"
theorem tyX_of {Hs H : Hp} {x : V} {d : PyData} (e : Ex Hs H) (h : Dq K Hs x d) : TyX K H x (.type (tyD d)) := by
  cases h with
  | non => exact .base .non
  | bl b => exact .base (.bl b)
  | int i => exact .base (.int i)
  | str z => exact .base (.str z)
  | lst h _ => exact .base (.lst (e _ _ h))
  | tup h _ =>
    rcases h with (h | ⟨o, h⟩) | ⟨o, its, n, h1, h2, _⟩
    · exact .base (.tup (e _ _ h))
    · exact .fTuple (e _ _ h)
    · exact .kTuple h1 h2
  | scr h =>
    rcases h with (h | ⟨o, h⟩) | ⟨o, its, n, h1, h2, _⟩
    · exact .base (.lst (e _ _ h))
    · exact .base (.frz (e _ _ h))
    · exact .kList h1 h2
  | ft h _ _ => exact .fTuple (e _ _ h)
theorem rc_isi {d : PyData} {n : String} {b : Bool} (e : kitB (tyD d) n = some b) (q : k (.va (.bool b)) M) : RCD K P0 (rIsi K) [.va d, .rf (.ty n)] M k := fun Hs H xs S r Q c => by
  obtain ⟨x, y, rfl, r1, r2⟩ := reps2 r
  have ey : y = .ty n := r2
  subst ey
  exact ⟨x, .ty n, .type (tyD d), .type n, b, rfl, .ty n, tyX_of S.own.ex r1, kit_ty e, c _ Hs H (.va (.bool b)) M S (Ex.refl _) (Dq.bl b) q⟩
theorem r2_ixTO {a : Addr} {ss : List Sv} {i : Int} {t : Sv} (hm : M a = some (.tup ss)) (e : atI ss i = some t) (q : k t M) : R2D K P0 (rIx K) (.rf (.ref a)) (.va (.int i)) M k := fun Hs H x y S r1 r2 Q c => by
  have r1 : x = .ref a := r1
  obtain ⟨xs, h1, h2⟩ := S.own.ob _ _ hm
  cases (show Dq K Hs y (.int i) from r2)
  obtain ⟨j, e1, e2⟩ := atI_len (reps_length h2) e
  obtain ⟨v, e3, e4⟩ := reps_get h2 e1
  exact .inr (.inl ⟨a, xs, i, v, r1, rfl, Evl.st_of h1, e2 v e3, c v Hs H t M S (Ex.refl _) e4 q⟩)
theorem rc_lenTO {a : Addr} {ss : List Sv} (hm : M a = some (.tup ss)) (q : k (.va (.int ss.length)) M) : RCD K P0 (rLenC K) [.rf (.ref a)] M k := fun Hs H xs S r Q c => by
  obtain ⟨x, rfl, r1⟩ := reps1 r
  have r1 : x = .ref a := r1
  obtain ⟨ys, h1, h2⟩ := S.own.ob _ _ hm
  have e := reps_length h2
  exact ⟨x, ys.length, rfl, by rw [r1]; exact .inr ⟨ys, Evl.st_of h1, rfl⟩, by rw [e]; exact c _ Hs H (.va (.int ss.length)) M S (Ex.refl _) (Dq.int _) q⟩
end
end G91

/-! Fw3: loops and comprehensions at data. -/
namespace G91
open PySem PySem.Spec PyProof.Rows L2
open Evl (Ex)

/-- a list, a tuple or a text is walked -/
def iSeq (K : PySem.W.Frag) (te : TE) : TI := fun σ H R => iList K te σ H R ∨ iTup K te σ H R ∨ iStr te σ H R
theorem pi_seq {X : Cx} {tg e : Expr} {te : TE} (h : PE X e te) : PI X tg e (iSeq X.K te) := ⟨fun pins s σ H R I w => by
  rcases w with w | w | w
  · exact (pi_list h).run pins s σ H R I w
  · exact (pi_tup h).run pins s σ H R I w
  · exact (pi_str h).run pins s σ H R I w⟩

section
variable (K : PySem.W.Frag) (P0 : Ent)
def ITD (Hs0 : Hp) (J : It) (n : Nat) (item : Nat → Sv) (stay : Mm → Prop) : Prop := ∀ Hs M H, St0 K P0 M Hs H → Ex Hs0 Hs → stay M →
  (∀ i, i < n → J.go i H ∧ ∀ x H', J.yld i H x H' → ∃ Hs', St0 K P0 M Hs' H' ∧ Ex Hs Hs' ∧ Rep K Hs' x (item i)) ∧ J.stop n H
def WI (wi : TI) (G : Gm) (M : Mm) (kk : Nat → (Nat → Sv) → (Mm → Prop) → Mm → Prop) : Prop := ∀ σ Hs H, St0 K P0 M Hs H → Slots K Hs σ G → ∀ R : It → Hp → Prop,
  (∀ J Hs' H' n item stay M', St0 K P0 M' Hs' H' → Ex Hs Hs' → ITD K P0 Hs' J n item stay → kk n item stay M' → R J H') → wi σ H R
end
def GOn (g : TG) (vs : List Nat) : Prop := ∀ v σ H (Q : L2.St → Hp → Prop), (g v σ H fun σ2 H2 => (σ2.length = σ.length ∧ ∀ i, i ∉ vs → σ2[i]? = σ[i]?) → Q σ2 H2) → g v σ H Q
def GOns (g : TGs) (vs : List Nat) : Prop := ∀ v σ H (Q : L2.St → Hp → Prop), (g v σ H fun σ2 H2 => (σ2.length = σ.length ∧ ∀ i, i ∉ vs → σ2[i]? = σ[i]?) → Q σ2 H2) → g v σ H Q
theorem gon_name {j : Nat} {vs : List Nat} (h : j ∈ vs) : GOn (gName j) vs := fun v σ H Q q => q ⟨by rw [List.length_set], fun i hi => by rw [List.getElem?_set_ne (fun e => by subst e; exact hi h)]⟩
theorem gons_nil {vs : List Nat} : GOns gNil vs := fun v σ H Q ⟨e, q⟩ => ⟨e, q ⟨rfl, fun _ _ => rfl⟩⟩

section
variable {K : PySem.W.Frag} {P0 : Ent} {G : Gm} {M : Mm} {k : Sv → Mm → Prop} {te ta tb : TE} {i : Nat} {s : Sv} {v : V} {kk : Nat → (Nat → Sv) → (Mm → Prop) → Mm → Prop}
theorem wi_seqL (h : WE K P0 te G M fun s M1 => ∃ ss, RL M1 s ss ∧ kk ss.length (fun i => ss.getD i (.va .none)) (fun M' => RL M' s ss) M1) : WI K P0 (iSeq K te) G M kk := fun σ Hs H S L R c => by
  refine .inl (h σ Hs H S L _ fun x Hs1 H1 s M1 S1 e1 r1 ⟨ss, l, q⟩ => ?_)
  obtain ⟨a, xs, ex, h1, h2⟩ := l.at S1 r1
  subst ex
  refine ⟨a, rfl, ⟨xs, .inl (.inl h1)⟩, c (Itl K a) Hs1 H1 ss.length _ _ M1 S1 e1 (fun Hs2 M2 H2 S2 e2 l2 => ?_) q⟩
  obtain ⟨a2, ys, ea, g1, g2⟩ := l2.at S2 (rep_mono e2 r1)
  cases ea
  have hl := reps_length g2
  refine ⟨fun i hi => ?_, ys, .inl (.inl g1), by omega⟩
  have hi' : i < ys.length := by omega
  refine ⟨⟨ys, ys[i], .inl (.inl g1), List.getElem?_eq_getElem hi'⟩, fun x H' ⟨eH, fx⟩ => ?_⟩
  subst eH
  have ex := fx ys (.inl (.inl g1))
  obtain ⟨v, e3, e4⟩ := reps_get g2 (List.getElem?_eq_getElem hi)
  rw [ex] at e3
  cases e3
  refine ⟨Hs2, S2, Ex.refl _, ?_⟩
  rw [List.getD_eq_getElem?_getD, List.getElem?_eq_getElem hi]
  exact e4
theorem wi_seqT (h : WE K P0 te G M fun s M1 => ∃ ds, s = .va (.tuple ds) ∧ kk ds.length (fun i => .va (ds.getD i .none)) (fun _ => True) M1) : WI K P0 (iSeq K te) G M kk := fun σ Hs H S L R c => by
  refine .inr (.inl (h σ Hs H S L _ fun x Hs1 H1 s M1 S1 e1 r1 ⟨ds, l, q⟩ => ?_))
  subst l
  obtain ⟨a, xs, ex, h1, h2⟩ := dp_tup_inv r1
  subst ex
  refine ⟨a, rfl, ⟨xs, Evl.ex_t S1.own.ex h1⟩, c (Itt K a) Hs1 H1 ds.length _ _ M1 S1 e1 (fun Hs2 M2 H2 S2 e2 _ => ?_) q⟩
  have g1 : SqT K H2 a xs := Evl.ex_t S2.own.ex (Evl.ex_t e2 h1)
  have g2 := dpAll_mono e2 h2
  have hl := dpAll_length h2
  refine ⟨fun i hi => ?_, xs, g1, by omega⟩
  have hi' : i < xs.length := by omega
  refine ⟨⟨xs, xs[i], g1, List.getElem?_eq_getElem hi'⟩, fun x H' ⟨eH, fx⟩ => ?_⟩
  subst eH
  have ex := fx xs g1
  obtain ⟨v, e3, e4⟩ := dpAll_get g2 (List.getElem?_eq_getElem hi)
  rw [ex] at e3
  cases e3
  refine ⟨Hs2, S2, Ex.refl _, ?_⟩
  rw [List.getD_eq_getElem?_getD, List.getElem?_eq_getElem hi]
  exact e4
theorem wi_seqS (h : WE K P0 te G M fun s M1 => ∃ z : Str, s = .va (.str z) ∧ kk z.cps.size (fun i => .va (.str ⟨#[z.cps.getD i 0]⟩)) (fun _ => True) M1) : WI K P0 (iSeq K te) G M kk := fun σ Hs H S L R c => by
  refine .inr (.inr (h σ Hs H S L _ fun x Hs1 H1 s M1 S1 e1 r1 ⟨z, l, q⟩ => ?_))
  subst l
  cases (show Dq K Hs1 x (.str z) from r1)
  refine ⟨z, rfl, c (Its z) Hs1 H1 z.cps.size _ _ M1 S1 e1 (fun Hs2 M2 H2 S2 e2 _ => ⟨fun i hi => ⟨hi, fun x H' ⟨eH, ch, e3, e4⟩ => ?_⟩, Nat.le_refl _⟩) q⟩
  subst eH
  subst e4
  refine ⟨Hs2, S2, Ex.refl _, ?_⟩
  rw [Array.getD_eq_getD_getElem?, e3]
  exact Dq.str _
theorem wi_rng1 {tr : TA} (h : WA K P0 tr G M fun ss M1 => ∃ n : Int, ss = [.va (.int n)] ∧ n ≤ 100000 ∧ -100000 ≤ n ∧ kk n.toNat (fun i => .va (.int (i : Int))) (fun _ => True) M1) : WI K P0 (iRng1 tr) G M kk := fun σ Hs H S L R c =>
  h σ Hs H S L _ fun xs Hs1 H1 ss M1 S1 e1 r1 ⟨n, l, n1, n2, q⟩ => by
    subst l
    obtain ⟨x, rfl, r⟩ := reps1 r1
    cases (show Dq K Hs1 x (.int n) from r)
    refine ⟨n, rfl, by omega, by omega, c (Itr 0 n.toNat) Hs1 H1 n.toNat _ _ M1 S1 e1 (fun Hs2 M2 H2 S2 e2 _ => ⟨fun i hi => ⟨hi, fun x H' ⟨eH, e3⟩ => ?_⟩, Nat.le_refl _⟩) q⟩
    subst eH
    subst e3
    exact ⟨Hs2, S2, Ex.refl _, by rw [Int.zero_add]; exact Dq.int _⟩
theorem wi_rng2 {tr : TA} (h : WA K P0 tr G M fun ss M1 => ∃ a b : Int, ss = [.va (.int a), .va (.int b)] ∧ a ≤ 100000 ∧ -100000 ≤ a ∧ b ≤ 100000 ∧ -100000 ≤ b ∧ kk (b - a).toNat (fun i => .va (.int (a + (i : Int)))) (fun _ => True) M1) : WI K P0 (iRng2 tr) G M kk := fun σ Hs H S L R c =>
  h σ Hs H S L _ fun xs Hs1 H1 ss M1 S1 e1 r1 ⟨a, b, l, n1, n2, n3, n4, q⟩ => by
    subst l
    obtain ⟨x, y, rfl, r, r'⟩ := reps2 r1
    cases (show Dq K Hs1 x (.int a) from r)
    cases (show Dq K Hs1 y (.int b) from r')
    refine ⟨a, b, rfl, ⟨by omega, by omega, by omega, by omega⟩, c (Itr a (b - a).toNat) Hs1 H1 _ _ _ M1 S1 e1 (fun Hs2 M2 H2 S2 e2 _ => ⟨fun i hi => ⟨hi, fun x H' ⟨eH, e3⟩ => ?_⟩, Nat.le_refl _⟩) q⟩
    subst eH
    subst e3
    exact ⟨Hs2, S2, Ex.refl _, Dq.int _⟩
theorem getD_at {ss : List Sv} {i : Nat} (h : i < ss.length) : ss[i]? = some (ss.getD i (.va .none)) := by
  rw [List.getD_eq_getElem?_getD, List.getElem?_eq_getElem h] <;> rfl
/-- zip(xs, ys): new pairs of data -/
theorem wi_zip {tr : TA} (h : WA K P0 tr G M fun ss M1 => ∃ (s s' : Sv) (ds es : List PyData), ss = [s, s'] ∧ RL M1 s (ds.map Sv.va) ∧ RL M1 s' (es.map Sv.va) ∧ kk (min ds.length es.length) (fun i => .va (.tuple [ds.getD i .none, es.getD i .none])) (fun M' => RL M' s (ds.map Sv.va) ∧ RL M' s' (es.map Sv.va)) M1) :
    WI K P0 (iZip K tr) G M kk := fun σ Hs H S L R c =>
  h σ Hs H S L _ fun xs Hs1 H1 ss M1 S1 e1 r1 ⟨s, s', ds, es, l, l1, l2, q⟩ => by
    subst l
    obtain ⟨x, y, rfl, r, r'⟩ := reps2 r1
    obtain ⟨a, us, ex, h1, h2⟩ := l1.at S1 r
    obtain ⟨b, ws, ey, h3, h4⟩ := l2.at S1 r'
    subst ex ey
    refine ⟨a, b, us, ws, rfl, .inl (.inl h1), .inl (.inl h3), c (Itz K a b) Hs1 H1 _ _ _ M1 S1 e1 (fun Hs2 M2 H2 S2 e2 st => ?_) q⟩
    obtain ⟨a2, us2, ea, g1, g2⟩ := st.1.at S2 (rep_mono e2 r)
    cases ea
    obtain ⟨b2, ws2, eb, g3, g4⟩ := st.2.at S2 (rep_mono e2 r')
    cases eb
    have hl := reps_length g2
    have hl2 := reps_length g4
    rw [List.length_map] at hl hl2
    have q1 : SqL K H2 a us2 := .inl (.inl g1)
    have q2 : SqL K H2 b ws2 := .inl (.inl g3)
    refine ⟨fun i hi => ?_, ⟨us2, ws2, q1, q2, by omega⟩⟩
    have hi1 : i < us2.length := by omega
    have hi2 : i < ws2.length := by omega
    refine ⟨⟨us2, ws2, us2[i], ws2[i], q1, q2, List.getElem?_eq_getElem hi1, List.getElem?_eq_getElem hi2⟩, fun x H' hy => ?_⟩
    obtain ⟨T, x1, x2, rfl, nT, rfl, f1, f2⟩ := hy
    obtain ⟨S3, e3⟩ := S2.share nT (.tup [x1, x2])
    have d1 := dpAll_of_reps g2
    have d2 := dpAll_of_reps g4
    obtain ⟨v1, p1, p2⟩ := dpAll_get d1 (i := i) (d := ds.getD i .none) (by rw [List.getD_eq_getElem?_getD, List.getElem?_eq_getElem (by omega)] <;> rfl)
    obtain ⟨v2, p3, p4⟩ := dpAll_get d2 (i := i) (d := es.getD i .none) (by rw [List.getD_eq_getElem?_getD, List.getElem?_eq_getElem (by omega)] <;> rfl)
    have z1 := f1 _ q1
    have z2 := f2 _ q2
    rw [p1] at z1
    rw [p3] at z2
    cases z1
    cases z2
    exact ⟨_, S3, e3, Dq.tup (Evl.st_of upd_same) (.cons (dp_mono e3 p2) (.cons (dp_mono e3 p4) .nil))⟩
variable {t u : TS} {nx : Gm → Mm → Prop} {rt : Sv → Mm → Prop} {bk ct : Gm → Mm → Prop}
theorem ws_for {wi : TI} {g : TG} (h : WI K P0 wi G M fun n item stay M1 => ∃ J : Nat → Gm → Mm → Prop, J 0 G M1 ∧ (∀ i G' M', i ≤ n → J i G' M' → stay M') ∧
    (∀ i G' M', i < n → J i G' M' → WG K P0 g (item i) G' M' fun G2 M2 => WS K P0 t G2 M2 (J (i + 1)) rt nx (J (i + 1))) ∧ ∀ G' M', J n G' M' → nx G' M') : WS K P0 (tFor wi g t) G M nx rt bk ct := fun σ Hs H S L D dn dr db dc =>
  h σ Hs H S L _ fun It0 Hs1 H1 n item stay M1 S1 e1 itd ⟨J, j0, jst, jstep, jend⟩ => by
    refine ⟨fun i m σ' H' => m + i = n ∧ ∃ Hs' G' M', St0 K P0 M' Hs' H' ∧ Ex Hs1 Hs' ∧ Slots K Hs' σ' G' ∧ J i G' M', ⟨n, by omega, Hs1, G, M1, S1, Ex.refl _, slots_mono e1 L, j0⟩, ?_⟩
    rintro i m σ2 H2 ⟨hm, Hs2, G2, M2, S2, e2, L2, j2⟩
    have hin : i ≤ n := by omega
    obtain ⟨hgo, hstop⟩ := itd Hs2 M2 H2 S2 e2 (jst i G2 M2 hin j2)
    by_cases hlt : i < n
    · obtain ⟨go, yl⟩ := hgo i hlt
      refine .inr ⟨go, fun σ' H' => ∃ Hs' G' M', St0 K P0 M' Hs' H' ∧ Ex Hs1 Hs' ∧ Slots K Hs' σ' G' ∧ J (i + 1) G' M', fun σ' H' z => ⟨m - 1, by omega, by omega, z⟩, fun x H3 hy => ?_⟩
      obtain ⟨Hs3, S3, e3, r3⟩ := yl x H3 hy
      refine jstep i G2 M2 hlt j2 x σ2 Hs3 H3 S3 (slots_mono e3 L2) r3 _ fun σ4 Hs4 H4 G4 M4 S4 e4 L4 q4 => ?_
      have e14 : Ex Hs1 Hs4 := (e2.trans e3).trans e4
      exact q4 σ4 Hs4 H4 S4 L4 _ (fun σ5 Hs5 H5 G5 M5 S5 e5 L5 j5 => ⟨Hs5, G5, M5, S5, e14.trans e5, L5, j5⟩) (fun v Hs5 H5 s M5 S5 e5 => dr v Hs5 H5 s M5 S5 ((e1.trans e14).trans e5))
        (fun σ5 Hs5 H5 G5 M5 S5 e5 => dn σ5 Hs5 H5 G5 M5 S5 ((e1.trans e14).trans e5)) (fun σ5 Hs5 H5 G5 M5 S5 e5 L5 j5 => ⟨Hs5, G5, M5, S5, e14.trans e5, L5, j5⟩)
    · have ei : i = n := by omega
      subst ei
      exact .inl ⟨hstop, dn σ2 Hs2 H2 G2 M2 S2 (e1.trans e2) L2 (jend G2 M2 j2)⟩
/-! comprehensions -/
def wipeG (G : Gm) : List Nat → Gm
  | [] => G
  | v :: vs => (wipeG G vs).set v none
theorem slots_none {Hs : Hp} {σ : L2.St} {G : Gm} (h : Slots K Hs σ G) (i : Nat) : Slots K Hs (σ.set i none) (G.set i none) := by
  refine ⟨by rw [List.length_set, List.length_set]; exact h.1, fun j t g => ?_⟩
  by_cases e : i = j
  · subst e
    by_cases l : i < G.length
    · rw [List.getElem?_set_self l] at g; cases g
    · rw [List.getElem?_eq_none (by rw [List.length_set]; omega)] at g; cases g
  · rw [List.getElem?_set_ne e] at g ⊢
    exact h.2 j t g
theorem slots_wipe {Hs : Hp} {σ : L2.St} (h : Slots K Hs σ G) : ∀ vs : List Nat, Slots K Hs (wipe σ vs) (wipeG G vs)
  | [] => h
  | v :: vs => slots_none (slots_wipe h vs) v
theorem wipe_at {σ : L2.St} {i : Nat} (hi : i < σ.length) : ∀ vs : List Nat, (wipe σ vs)[i]? = if i ∈ vs then some none else σ[i]?
  | [] => by simp [wipe]
  | v :: vs => by
    unfold wipe
    have hl : (wipe σ vs).length = σ.length := wipe_length σ vs
    by_cases e : v = i
    · subst e
      rw [List.getElem?_set_self (by omega)]
      simp
    · rw [List.getElem?_set_ne e, wipe_at hi vs]
      have : i ∈ v :: vs ↔ i ∈ vs := by simp [Ne.symm e]
      simp only [this]
theorem wipe_eq {σ σ2 : L2.St} {vs : List Nat} (hl : σ2.length = (wipe σ vs).length) (h : ∀ i, i ∉ vs → σ2[i]? = (wipe σ vs)[i]?) : wipe σ2 vs = wipe σ vs := by
  have hl' : (wipe σ vs).length = σ.length := wipe_length σ vs
  apply List.ext_getElem?
  intro i
  by_cases hi : i < σ.length
  · rw [wipe_at (by omega) vs, wipe_at hi vs]
    by_cases hm : i ∈ vs
    · rw [if_pos hm, if_pos hm]
    · rw [if_neg hm, if_neg hm, h i hm, wipe_at hi vs, if_neg hm]
  · have h2 : (wipe σ2 vs).length = σ2.length := wipe_length σ2 vs
    exact (List.getElem?_eq_none (by rw [h2, hl, hl']; exact Nat.le_of_not_lt hi)).trans (List.getElem?_eq_none (by rw [hl']; exact Nat.le_of_not_lt hi)).symm
/-- every object that M knows stands in M' too -/
def Mext (M M' : Mm) : Prop := ∀ a o, M a = some o → M' a = some o
theorem Mext.refl (M : Mm) : Mext M M := fun _ _ h => h
theorem Mext.new {M : Mm} {p : Addr} {o : Ob} (h : M p = none) : Mext M (mup M p o) := fun a u e => by rw [mup_ne (mne e h)]; exact e
/-- [e for .. in .. if ..]: the general form; acc: what the new list at p holds so far -/
theorem we_lc {wi : TI} {g : TG} {tt : TT} {te : TE} {vs : List Nat} (hg : GOn g vs) (h : WI K P0 wi G M fun n item stay M1 => ∀ p, M1 p = none → ∃ J : Nat → Mm → List Sv → Prop, J 0 M1 [] ∧ (∀ i M' acc, i ≤ n → J i M' acc → stay (mup M' p (.lst acc)) ∧ M' p = none ∧ acc.length ≤ 99999) ∧
    (∀ i M' acc, i < n → J i M' acc → WG K P0 g (item i) (wipeG G vs) (mup M' p (.lst acc)) fun G2 M2 => WT K P0 tt G2 M2 fun b M3 => (b = true → WE K P0 te G2 M3 fun s M4 => ∃ M5, M4 = mup M5 p (.lst acc) ∧ J (i + 1) M5 (acc ++ [s])) ∧
      (b = false → ∃ M5, M3 = mup M5 p (.lst acc) ∧ J (i + 1) M5 acc)) ∧ ∀ M' acc, J n M' acc → k (.rf (.ref p)) (mup M' p (.lst acc))) : WE K P0 (tLc wi g tt te vs) G M k := fun σ Hs H S L Q c =>
  h σ Hs H S L _ fun It0 Hs1 H1 n item stay M1 S1 e1 itd hJ => fun Dl hD => by
    obtain ⟨m0, _⟩ := S1.own.free hD
    obtain ⟨J, j0, jst, jstep, jend⟩ := hJ Dl m0
    have L1 := slots_mono e1 L
    refine ⟨fun i m H' => m + i = n ∧ ∃ Hs' M' acc, St0 K P0 (mup M' Dl (.lst acc)) Hs' H' ∧ Ex Hs1 Hs' ∧ J i M' acc, ⟨n, by omega, Hs1, M1, [], S1.make hD (ob := .lst []) ⟨[], upd_same, .nil⟩, Ex.refl _, j0⟩, ?_⟩
    rintro i m H2 ⟨hm, Hs2, M2, acc, S2, e2, j2⟩
    have hin : i ≤ n := by omega
    obtain ⟨jsA, jsB, jsC⟩ := jst i M2 acc hin j2
    obtain ⟨hgo, hstop⟩ := itd Hs2 _ H2 S2 e2 jsA
    by_cases hlt : i < n
    · obtain ⟨go, yl⟩ := hgo i hlt
      refine .inr ⟨go, fun H' => ∃ Hs' M' acc, St0 K P0 (mup M' Dl (.lst acc)) Hs' H' ∧ Ex Hs1 Hs' ∧ J (i + 1) M' acc, fun H' z => ⟨m - 1, by omega, by omega, z⟩, fun x H3 hy => ?_⟩
      obtain ⟨Hs3, S3, e3, r3⟩ := yl x H3 hy
      have L3 : Slots K Hs3 (wipe σ vs) (wipeG G vs) := slots_wipe (slots_mono (e2.trans e3) L1) vs
      refine hg x (wipe σ vs) H3 _ ?_
      refine jstep i M2 acc hlt j2 x (wipe σ vs) Hs3 H3 S3 L3 r3 _ fun σ4 Hs4 H4 G4 M4 S4 e4 L4 q4 hon => ⟨wipe_eq hon.1 hon.2, ?_⟩
      refine q4 σ4 Hs4 H4 S4 L4 _ fun b Hs5 H5 M5 S5 e5 q5 => ?_
      cases b with
      | true =>
        show te σ4 H5 _
        refine q5.1 rfl σ4 Hs5 H5 S5 (slots_mono e5 L4) _ fun y Hs6 H6 s6 M6 S6 e6 r6 ⟨M7, em, j7⟩ => ?_
        subst em
        obtain ⟨xs, hx, rx⟩ := S6.own.ob Dl _ mup_same
        have hxl := reps_length rx
        refine ⟨xs, hx, Evl.sz_lt (by omega), ?_⟩
        have S7 := S6.write (a := Dl) (o0 := .lst acc) mup_same (o := .lst (xs ++ [y])) (ob := .lst (acc ++ [s6])) ⟨_, upd_same, reps_append rx (.cons r6 .nil)⟩
        rw [mup_mup] at S7
        exact ⟨Hs6, M7, _, S7, (((e2.trans e3).trans e4).trans e5).trans e6, j7⟩
      | false =>
        obtain ⟨M7, em, j7⟩ := q5.2 rfl
        subst em
        exact ⟨Hs5, M7, acc, S5, ((e2.trans e3).trans e4).trans e5, j7⟩
    · have ei : i = n := by omega
      subst ei
      exact .inl ⟨hstop, c (.ref Dl) Hs2 H2 (.rf (.ref Dl)) _ S2 (e1.trans e2) rfl (jend M2 acc j2)⟩
/-- .. that changes no object: the list of what f gives, for nobody to change -/
theorem we_lcP {wi : TI} {g : TG} {tt : TT} {te : TE} {vs : List Nat} (hg : GOn g vs) (h : WI K P0 wi G M fun n item stay M1 => ∃ f : Nat → Option PyData, n ≤ 99999 ∧ (∀ M', Mext M1 M' → stay M') ∧
    (∀ i M', i < n → Mext M1 M' → WG K P0 g (item i) (wipeG G vs) M' fun G2 M2 => M2 = M' ∧ WT K P0 tt G2 M2 fun b M3 => M3 = M' ∧ (b = true → WE K P0 te G2 M3 fun s M4 => M4 = M' ∧ ∃ d, s = .va d ∧ f i = some d) ∧ (b = false → f i = none)) ∧
    k (.va (.list ((List.range n).filterMap f))) M1) : WE K P0 (tLc wi g tt te vs) G M k := fun σ Hs H S L Q c => by
  refine we_lc (k := fun s M' => ∃ (n : Nat) (f : Nat → Option PyData) (M1 : Mm) (p : Addr), M1 p = none ∧ s = .rf (.ref p) ∧ M' = mup M1 p (.lst (((List.range n).filterMap f).map Sv.va)) ∧ k (.va (.list ((List.range n).filterMap f))) M1) hg ?_ σ Hs H S L Q ?_
  · intro σ1 Hs1 H1 S1 L1 R c1
    refine h σ1 Hs1 H1 S1 L1 R fun J Hs2 H2 n item stay M1 S2 e2 itd ⟨f, hn, hst, hstep, hk⟩ => ?_
    refine c1 J Hs2 H2 n item stay M1 S2 e2 itd fun p hp => ⟨fun i M' acc => M' = M1 ∧ acc = ((List.range i).filterMap f).map Sv.va, ⟨rfl, rfl⟩, ?_, ?_, ?_⟩
    · rintro i M' acc hi ⟨rfl, rfl⟩
      refine ⟨hst _ (Mext.new hp), hp, ?_⟩
      rw [List.length_map]
      have h1 := List.length_filterMap_le f (List.range i)
      rw [List.length_range] at h1
      omega
    · rintro i M' acc hi ⟨rfl, rfl⟩ v σ3 Hs3 H3 S3 L3 r3 Q3 c3
      refine hstep i _ hi (Mext.new hp) v σ3 Hs3 H3 S3 L3 r3 Q3 fun σ4 Hs4 H4 G4 M4 S4 e4 L4 ⟨em, q⟩ => ?_
      refine c3 σ4 Hs4 H4 G4 M4 S4 e4 L4 ?_
      refine wt_mono q fun b M5 ⟨em5, h1, h2⟩ => ⟨fun hb => we_mono (h1 hb) fun s M6 ⟨em6, d, es, ef⟩ => ⟨M', em6, rfl, ?_⟩, fun hb => ⟨M', em5, rfl, ?_⟩⟩
      · rw [es, List.range_succ, List.filterMap_append, List.map_append]
        simp [ef]
      · rw [List.range_succ, List.filterMap_append]
        simp [h2 hb]
    · rintro M' acc ⟨rfl, rfl⟩
      exact ⟨n, f, _, p, hp, rfl, rfl, hk⟩
  · intro v Hs' H' s M' S' e' r ⟨n, f, M1, p, hp, es, em, hk⟩
    subst es em
    have ev : v = .ref p := r
    subst ev
    obtain ⟨Hs2, S2, e2, d2⟩ := S'.freeze mup_same
    rw [mdel_mup hp] at S2
    exact c (.ref p) Hs2 H' (.va (.list _)) _ S2 (e'.trans e2) d2 hk
end
end G91

/-! Fw4: defs, methods, classes by name; attributes; the end. -/
namespace G91
open PySem PySem.Spec PyProof.Rows L2
open Evl (Ex)
open He (ga ma fAd)

/-- a def (a method) of the text as it stands behind the top, of no default -/
structure Df (K : PySem.W.Frag) (x qual : Str) (st : Stmt) (f : Addr) : Prop where
  ex : ∃ fd, FunD K x qual (defArgs st) (defBody st) (defScope st) [] [] f fd
/-- a def that may be called by its name -/
structure Cal (P : Program) (w : World) (K : PySem.W.Frag) (mg : Str → Option Value) (base : Heap) (x : Str) (k : Nat) (sp : Sp) : Prop where
  ex : ∃ (f : Addr) (fd : FuncData) (ps : List Str), FnOk P w K mg base (L2.CX P w) k f fd ps sp ∧ mg x = some (.ref f) ∧ PySem.W.keepIn K (.ref f) = true ∧ Binds K fd ps []
/-- a method of the class at C -/
structure Met (P : Program) (w : World) (K : PySem.W.Frag) (mg : Str → Option Value) (base : Heap) (C : Addr) (m : Str) (k : Nat) (sp : Sp) : Prop where
  ex : ∃ (f : Addr) (fd : FuncData) (ps : List Str), Cls K C ∧ Meth K C m f ∧ FnOk P w K mg base (L2.CX P w) k f fd ps sp ∧ Binds K fd ps []
/-- a class that may be made by its name; sp: its __init__ -/
structure Mak (P : Program) (w : World) (K : PySem.W.Frag) (mg : Str → Option Value) (base : Heap) (x : Str) (C : Addr) (k : Nat) (sp : Sp) : Prop where
  ex : ∃ (f : Addr) (fd : FuncData) (ps : List Str), Mk K C f ∧ FnOk P w K mg base (L2.CX P w) k f fd ps sp ∧ mg x = some (.ref C) ∧ Binds K fd ps []

section
variable {X : Cx} {k j : Nat} {C : Addr} {x m : Str} {sp : Sp} {E : XK} {p pos apos : Pos} {e o : Expr} {es : List Expr} {ta : TE} {t : TA}
theorem pcall (c : Cal X.prog X.w X.K X.mg X.base x k sp) (hr : Room j X.A) (hk : k ≤ j) (hg : Gl X x) (hx : Passes (L2.CX X.prog X.w) X E) (ha : PA X (e :: es) t)
    (hdb : (x == ("__debug__" : Str)) = false := by decide) (he : starEach (e :: es) X.env = (false, eval e X.env) :: starEach es X.env := by rfl) (hpl : (backTo pos (starEach es X.env)).any (·.1) = false := by rfl) :
    PE X (.Call (.Name x p) (e :: es) [] pos) (tCall sp [] E t) := by
  obtain ⟨f, fd, ps, F, hm, kp, b⟩ := c.ex
  exact pe_call F (hr.mono hk) hg hm kp b .nil hx ha hdb he hpl
theorem pcall0 (c : Cal X.prog X.w X.K X.mg X.base x k sp) (hr : Room j X.A) (hk : k ≤ j) (hg : Gl X x) (hx : Passes (L2.CX X.prog X.w) X E)
    (hdb : (x == ("__debug__" : Str)) = false := by decide) : PE X (.Call (.Name x p) [] [] pos) (tCall sp [] E tNil) := by
  obtain ⟨f, fd, ps, F, hm, kp, b⟩ := c.ex
  exact pe_call0 F (hr.mono hk) hg hm kp b .nil hx hdb
theorem pcallS {E : L2.St → XK} (c : Cal X.prog X.w X.K X.mg X.base x k sp) (hr : Room j X.A) (hk : k ≤ j) (hg : Gl X x) (hx : ∀ σ, PassesAt (L2.CX X.prog X.w) X σ (E σ)) (ha : PA X (e :: es) t)
    (hdb : (x == ("__debug__" : Str)) = false := by decide) (he : starEach (e :: es) X.env = (false, eval e X.env) :: starEach es X.env := by rfl) (hpl : (backTo pos (starEach es X.env)).any (·.1) = false := by rfl) :
    PE X (.Call (.Name x p) (e :: es) [] pos) (tCallS sp E t) := by
  obtain ⟨f, fd, ps, F, hm, kp, b⟩ := c.ex
  exact pe_callS F (hr.mono hk) hg hm kp b hx ha hdb he hpl
theorem pmake (c : Mak X.prog X.w X.K X.mg X.base x C k sp) (hr : Room j X.A) (hk : k + 1 ≤ j) (hg : Gl X x) (hx : Passes (L2.CX X.prog X.w) X E) (ha : PA X (e :: es) t)
    (hdb : (x == ("__debug__" : Str)) = false := by decide) (he : starEach (e :: es) X.env = (false, eval e X.env) :: starEach es X.env := by rfl) (hpl : (backTo pos (starEach es X.env)).any (·.1) = false := by rfl) :
    PE X (.Call (.Name x p) (e :: es) [] pos) (tMake C sp [] E t) := by
  obtain ⟨f, fd, ps, M, F, hm, b⟩ := c.ex
  exact pe_make M F (hr.mono hk) hg hm b .nil hx ha hdb he hpl
theorem pmeth {pl : Sem Bool} (c : Met X.prog X.w X.K X.mg X.base C m k sp) (hr : Room j X.A) (hk : k ≤ j) (hx : Passes (L2.CX X.prog X.w) X E) (he : PE X o ta) (ha : PA X (e :: es) t)
    (hst : starEach (e :: es) X.env = (false, eval e X.env) :: starEach es X.env := by rfl) (hpl : (backTo pos (starEach es X.env)).any (·.1) = false := by rfl)
    (ht : eval (.Call (.Attribute o m apos) (e :: es) [] pos) X.env = (do
      let v ← eval o X.env
      standAt apos.atName
      let (g, a0) ← holding [v] (getMethod v m pl)
      callWith pos g a0 (backTo pos (starEach (e :: es) X.env)) (backToKw pos (keywordEach [] X.env))) := by rfl) :
    PE X (.Call (.Attribute o m apos) (e :: es) [] pos) (tMeth C m sp [] E ta t) := by
  obtain ⟨f, fd, ps, hc, hm, F, b⟩ := c.ex
  exact pe_meth (pl := pl) he hc hm F (hr.mono hk) b .nil hx ha hst hpl ht
theorem pmeth0 {pl : Sem Bool} (c : Met X.prog X.w X.K X.mg X.base C m k sp) (hr : Room j X.A) (hk : k ≤ j) (hx : Passes (L2.CX X.prog X.w) X E) (he : PE X o ta)
    (ht : eval (.Call (.Attribute o m apos) [] [] pos) X.env = (do
      let v ← eval o X.env
      standAt apos.atName
      let (g, a0) ← holding [v] (getMethod v m pl)
      callWith pos g a0 (backTo pos (starEach [] X.env)) (backToKw pos (keywordEach [] X.env))) := by rfl) :
    PE X (.Call (.Attribute o m apos) [] [] pos) (tMeth C m sp [] E ta tNil) := by
  obtain ⟨f, fd, ps, hc, hm, F, b⟩ := c.ex
  exact pe_meth0 (pl := pl) he hc hm F (hr.mono hk) b .nil hx ht
/-! names of the module -/
theorem pgref {a : Addr} (h : X.mg x = some (.ref a)) (hg : Gl X x) (hdb : (x == ("__debug__" : Str)) = false := by decide) : PE X (.Name x pos) (tC (.ref a)) := by
  first
    | exact pe_glob hg h rfl
    | exact pe_glob hg h rfl hdb
theorem pgint {z : Int} (h : ∃ u, X.mg x = some (.int z u)) (hg : Gl X x) (hdb : (x == ("__debug__" : Str)) = false := by decide) : PE X (.Name x pos) (tC (.int z)) := by
  obtain ⟨u, h⟩ := h
  exact pe_glob hg h ⟨u, rfl⟩ hdb
theorem pgstr {z : Str} (h : ∃ u, X.mg x = some (.str z u)) (hg : Gl X x) (hdb : (x == ("__debug__" : Str)) = false := by decide) : PE X (.Name x pos) (tC (.str z)) := by
  obtain ⟨u, h⟩ := h
  exact pe_glob hg h ⟨u, rfl⟩ hdb
/-! an own error without own __init__ -/
structure ExcX (K : PySem.W.Frag) (mg : Str → Option Value) (x : Str) : Prop where
  q : PySem.W.excIn K (ga K x) He.veBase "ValueError.__new__" = true
  k : PySem.W.keepIn K (.ref (ga K x)) = true
  s : PySem.W.subIn K (.ref (ga K x)) (.type "BaseException") = some true
  t : PySem.W.typeIn K (.ref (ga K x)) = some (.type "type")
  g : mg x = some (.ref (ga K x))
def tRaiseX (cls : Value) (E : XK) : TS := fun _ σ H => (fun (_ : L2.St) (H : Hp) (Q : XK) => Q cls none H) σ H fun cls d H' => (fun cls d (_ : L2.St) H => E cls d H) cls d σ H'
theorem praise {j : Nat} {p2 pos2 : Pos} (hc : X.calm = true) (T : ExcX X.K X.mg x) (tk : Takes X (fun cls d _ H => E cls d H)) (hg : Gl X x) (hdb : (x == ("__debug__" : Str)) = false := by decide) :
    PS X (.Raise (some (.Call (.Name x p) [.Constant (.str m) j p2] [] pos)) none pos2) (tRaiseX (.ref (ga X.K x)) E) :=
  ps_raise hc tk (pmk_own PySem.F.excBase_ValueError T.q T.g T.k (raises_own T.s T.t) hg hdb)
end

section
variable {P : Program} {w : World} {K : PySem.W.Frag} {mg : Str → Option Value} {base : Heap} {x qual : Str} {st : Stmt} {f C : Addr} {N ps : List Str} {k : Nat} {spd : SpD} {t : XK → TS}
/-- what is to be shown of a body at data -/
def Keeps (K : PySem.W.Frag) (N ps : List Str) (t : XK → TS) (spd : SpD) : Prop := ∀ as M kk e, spd as M kk e → as.length = ps.length ∧ ∀ P0 E, XL K P0 E e →
  WS K P0 (t E) (as.map some ++ List.replicate (N.length - as.length) none) M (fun _ M' => kk (.va .none) M') kk (fun _ _ => False) (fun _ _ => False)
def BindsTxt (ps : List Str) (x qual : Str) (st : Stmt) : Prop := ∀ (kV doc pm : Value) (an : Option Addr) (cdv ct : Value) (us : List Value), us.length = ps.length → bindArgs (PySem.W.fnOf x qual (defArgs st) (defBody st) (defScope st) .none kV doc pm an cdv ct) ⟨us, []⟩ = pure (ps.zip us)
theorem fn_mk (F : Df K x qual st f) (S : FnScope N ps (defScope st)) (hb : BindsTxt ps x qual st) (hN : ps.length ≤ N.length)
    (hps : ∀ (cdv : Value) (A : Around) (outer : List Env) (s : Shared) (H : Hp) (E : XK), Room k (A.deeper (envOfC qual (defScope st) s.heap.objs.size f cdv)) → PSs (cxOf (L2.CX P w) P w K mg base N qual (defScope st) f cdv A outer s H E) (defBody st) (t E))
    (hv : Keeps K N ps t spd) : ∃ fd, FnOk P w K mg base (L2.CX P w) (k + 1) f fd ps (lift K spd) ∧ PySem.W.keepIn K (.ref f) = true ∧ Binds K fd ps [] := by
  obtain ⟨fd, F⟩ := F.ex
  refine ⟨fd, F.ok S (fun vs H Q E h => ?_) (fun cdv A outer s H vs Q E hr h => ?_), F.kp, F.bindsN hb⟩
  · obtain ⟨Hs, M, as, kk, e, _, rv, hs, _⟩ := h
    exact (reps_length rv).trans (hv as M kk e hs).1
  · obtain ⟨Hs, M, as, kk, e, ho, rv, hs, hk, he⟩ := h
    obtain ⟨hl, hw⟩ := hv as M kk e hs
    exact ⟨t E, hps cdv A outer s H E hr, run_abs ho rv hk he (by omega) fun P0 hE => hw P0 E hE⟩
theorem cal_mk (F : Df K x x st f) (hm : mg x = some (.ref f)) (S : FnScope N ps (defScope st)) (hb : BindsTxt ps x x st) (hN : ps.length ≤ N.length)
    (hps : ∀ (cdv : Value) (A : Around) (outer : List Env) (s : Shared) (H : Hp) (E : XK), Room k (A.deeper (envOfC x (defScope st) s.heap.objs.size f cdv)) → PSs (cxOf (L2.CX P w) P w K mg base N x (defScope st) f cdv A outer s H E) (defBody st) (t E))
    (hv : Keeps K N ps t spd) : Cal P w K mg base x (k + 1) (lift K spd) := by
  obtain ⟨fd, h1, h2, h3⟩ := fn_mk F S hb hN hps hv
  exact ⟨f, fd, ps, h1, hm, h2, h3⟩
theorem met_mk {m : Str} (F : Df K m qual st f) (hc : Cls K C) (hm : Meth K C m f) (S : FnScope N ps (defScope st)) (hb : BindsTxt ps m qual st) (hN : ps.length ≤ N.length)
    (hps : ∀ (cdv : Value) (A : Around) (outer : List Env) (s : Shared) (H : Hp) (E : XK), Room k (A.deeper (envOfC qual (defScope st) s.heap.objs.size f cdv)) → PSs (cxOf (L2.CX P w) P w K mg base N qual (defScope st) f cdv A outer s H E) (defBody st) (t E))
    (hv : Keeps K N ps t spd) : Met P w K mg base C m (k + 1) (lift K spd) := by
  obtain ⟨fd, h1, h2, h3⟩ := fn_mk F S hb hN hps hv
  exact ⟨f, fd, ps, hc, hm, h1, h3⟩
theorem mak_mk (F : Df K "__init__" qual st f) (hm : Mk K C f) (hg : mg x = some (.ref C)) (S : FnScope N ps (defScope st)) (hb : BindsTxt ps "__init__" qual st) (hN : ps.length ≤ N.length)
    (hps : ∀ (cdv : Value) (A : Around) (outer : List Env) (s : Shared) (H : Hp) (E : XK), Room k (A.deeper (envOfC qual (defScope st) s.heap.objs.size f cdv)) → PSs (cxOf (L2.CX P w) P w K mg base N qual (defScope st) f cdv A outer s H E) (defBody st) (t E))
    (hv : Keeps K N ps t spd) : Mak P w K mg base x C (k + 1) (lift K spd) := by
  obtain ⟨fd, h1, h2, h3⟩ := fn_mk F S hb hN hps hv
  exact ⟨f, fd, ps, hm, h1, hg, h3⟩
end

/-! ### attributes, methods, new instances at data -/
def putS (f : Str) (v : Sv) : List (Str × Sv) → List (Str × Sv)
  | [] => [(f, v)]
  | (g, u) :: r => if g = f then (g, v) :: r else (g, u) :: putS f v r
section
variable {K : PySem.W.Frag} {P0 : Ent} {G : Gm} {M : Mm} {k : Sv → Mm → Prop} {te ta tb : TE} {i : Nat} {s : Sv} {v : V} {nx : Gm → Mm → Prop} {rt : Sv → Mm → Prop} {bk ct : Gm → Mm → Prop}
abbrev FPr (K : PySem.W.Frag) (Hs : Hp) : List (Str × V) → List (Str × Sv) → Prop := Paired (fun (p : Str × V) (q : Str × Sv) => p.1 = q.1 ∧ Rep K Hs p.2 q.2)
theorem fs_get {Hs : Hp} {f : Str} {t : Sv} : ∀ {gs : List (Str × V)} {fs : List (Str × Sv)}, FPr K Hs gs fs → fs.lookup f = some t → ∃ v, gs.lookup f = some v ∧ Rep K Hs v t
  | _, _, .nil, h => by cases h
  | (g, u) :: gs, (g', u') :: fs, .cons r q, h => by
    obtain ⟨e, r⟩ := r
    have e : g = g' := e
    subst e
    rw [List.lookup_cons] at h ⊢
    cases c : f == g with
    | true => rw [c] at h; cases h; exact ⟨u, rfl, r⟩
    | false => rw [c] at h; exact fs_get q h
theorem fs_none {Hs : Hp} {f : Str} : ∀ {gs : List (Str × V)} {fs : List (Str × Sv)}, FPr K Hs gs fs → fs.lookup f = none → gs.lookup f = none
  | _, _, .nil, _ => rfl
  | (g, u) :: gs, (g', u') :: fs, .cons r q, h => by
    obtain ⟨e, r⟩ := r
    have e : g = g' := e
    subst e
    rw [List.lookup_cons] at h ⊢
    cases c : f == g with
    | true => rw [c] at h; cases h
    | false => rw [c] at h; exact fs_none q h
theorem fs_put {Hs : Hp} {f : Str} {v : V} {t : Sv} (rv : Rep K Hs v t) : ∀ {gs : List (Str × V)} {fs : List (Str × Sv)}, FPr K Hs gs fs → FPr K Hs (putF f v gs) (putS f t fs)
  | _, _, .nil => .cons ⟨rfl, rv⟩ .nil
  | (g, u) :: gs, (g', u') :: fs, .cons r q => by
    obtain ⟨e, r⟩ := r
    have e : g = g' := e
    subst e
    unfold putF putS
    split
    · exact .cons ⟨rfl, rv⟩ q
    · exact .cons ⟨rfl, r⟩ (fs_put rv q)
theorem we_fld {f : Str} (h : WE K P0 ta G M fun s M1 => ∃ a C fs t, s = .rf (.ref a) ∧ M1 a = some (.ins C fs) ∧ Cls K C ∧ NoAttr K C f ∧ fs.lookup f = some t ∧ k t M1) : WE K P0 (tFld K ta f) G M k := fun σ Hs H S L Q c =>
  h σ Hs H S L _ fun x Hs1 H1 s M1 S1 e1 r1 ⟨a, C, fs, t, es, hm, hc, hn, hl, q⟩ => by
    subst es
    have ex : x = .ref a := r1
    subst ex
    obtain ⟨dx, gs, h1, h2⟩ := S1.own.ob a _ hm
    obtain ⟨v, h3, h4⟩ := fs_get h2 hl
    exact ⟨a, C, dx, gs, v, rfl, h1, hc, hn, h3, c v Hs1 H1 t M1 S1 e1 h4 q⟩
theorem ws_fld {f : Str} {tv : TE} (h : WE K P0 tv G M fun s M1 => WE K P0 ta G M1 fun so M2 => ∃ a C fs, so = .rf (.ref a) ∧ M2 a = some (.ins C fs) ∧ Cls K C ∧ NoAttr K C f ∧ fs.length < 1000 ∧ nx G (mup M2 a (.ins C (putS f s fs)))) :
    WS K P0 (sFld K ta tv f) G M nx rt bk ct := fun σ Hs H S L D dn dr db dc =>
  h σ Hs H S L _ fun x Hs1 H1 s M1 S1 e1 r1 h1 => h1 σ Hs1 H1 S1 (slots_mono e1 L) _ fun y Hs2 H2 so M2 S2 e2 r2 ⟨a, C, fs, es, hm, hc, hn, hl, q⟩ => by
    subst es
    have ey : y = .ref a := r2
    subst ey
    obtain ⟨dx, gs, g1, g2⟩ := S2.own.ob a _ hm
    have hlen : gs.length = fs.length := Paired.length g2
    refine ⟨a, C, dx, gs, rfl, g1, hc, hn, by omega, ?_⟩
    have S3 := S2.write hm (o := .ins C dx (putF f x gs)) (ob := .ins C (putS f s fs)) ⟨dx, _, upd_same, fs_put (rep_mono e2 r1) g2⟩
    exact dn σ Hs2 _ G _ S3 (e1.trans e2) (slots_mono (e1.trans e2) L) q
theorem we_meth {C : Addr} {m : Str} {sp : SpD} {tr : TA} {E : XK} {e : Value → Mm → Prop} (hE : XL K P0 E e) (h : WE K P0 ta G M fun s M1 => ∃ a fs, s = .rf (.ref a) ∧ M1 a = some (.ins C fs) ∧ fs.lookup m = none ∧ WA K P0 tr G M1 fun as M2 => sp (s :: as) M2 k e) :
    WE K P0 (tMeth C m (lift K sp) [] E ta tr) G M k := fun σ Hs H S L Q c =>
  h σ Hs H S L _ fun x Hs1 H1 s M1 S1 e1 r1 ⟨a, fs, es, hm, hl, h1⟩ => by
    subst es
    have ex : x = .ref a := r1
    subst ex
    obtain ⟨dx, gs, g1, g2⟩ := S1.own.ob a _ hm
    refine ⟨a, dx, gs, rfl, g1, fs_none g2 hl, ?_⟩
    exact h1 σ Hs1 H1 S1 (slots_mono e1 L) _ fun xs Hs2 H2 ss M2 S2 e2 r2 h2 => ⟨Hs2, M2, _, k, e, S2.own, by rw [List.append_nil]; exact .cons (show Rep K Hs2 (.ref a) (.rf (.ref a)) from rfl) r2, h2,
      fun v Hs' H' s M' g o r z => c v Hs' H' s M' ⟨S2.gr.trans g, o⟩ ((e1.trans e2).trans g.sh) r z, fun cls Hs' H' M' g o z => hE cls Hs' H' M' ⟨S2.gr.trans g, o⟩ z⟩
theorem we_make {C : Addr} {sp : SpD} {tr : TA} {E : XK} {e : Value → Mm → Prop} (hE : XL K P0 E e) (h : WA K P0 tr G M fun as M1 => ∀ x, M1 x = none → sp (.rf (.ref x) :: as) (mup M1 x (.ins C [])) (fun s M' => s = .va .none ∧ k (.rf (.ref x)) M') e) :
    WE K P0 (tMake C (lift K sp) [] E tr) G M k := fun σ Hs H S L Q c =>
  h σ Hs H S L _ fun xs Hs1 H1 as M1 S1 e1 r1 h1 => fun x dx nx ndx nex => by
    obtain ⟨m0, s0⟩ := S1.own.free nx
    obtain ⟨m1, s1⟩ := S1.own.free ndx
    -- the instance's own dict stands beside
    have S2 : St0 K P0 M1 Hs1 (upd H1 dx (.own x)) := by
      refine ⟨S1.gr.trans ⟨Ex.refl _, fun a h n => absurd h n, fun a u h _ => by rw [upd_ne (ne_of_none h ndx)]; exact h, fun a n => .inl n⟩, ⟨fun a u h => by rw [upd_ne (ne_of_none h s1)]; exact S1.own.ex a u h, S1.own.sep, fun a ob h => ?_⟩⟩
      exact obIs_mono (Ex.refl _) (fun u z => by rw [upd_ne (mne h m1)]; exact z) (S1.own.ob a ob h)
    have S3 := S2.make (p := x) (by rw [upd_ne (Ne.symm nex)]; exact nx) (o := .ins C dx []) (ob := .ins C []) ⟨dx, [], upd_same, .nil⟩
    refine ⟨Hs1, _, _, _, e, S3.own, by rw [List.append_nil]; exact .cons (show Rep K Hs1 (.ref x) (.rf (.ref x)) from rfl) r1, h1 x m0, fun v Hs' H' s M' g o r z => ?_, fun cls Hs' H' M' g o z => hE cls Hs' H' M' ⟨S3.gr.trans g, o⟩ z⟩
    obtain ⟨es, z⟩ := z
    subst es
    cases (show Dq K Hs' v .none from r)
    exact ⟨rfl, c (.ref x) Hs' H' (.rf (.ref x)) M' ⟨S3.gr.trans g, o⟩ (e1.trans g.sh) rfl z⟩
theorem ws_raiseX {E : XK} {e : Value → Mm → Prop} {cls : Value} (hE : XL K P0 E e) (h : e cls M) : WS K P0 (tRaiseX cls E) G M nx rt bk ct := fun σ Hs H S L D _ _ _ _ => hE cls Hs H M S h
end
end G91

/-! Fw5: names for readings; try; isinstance of a caught error. -/
namespace G91
open PySem PySem.Spec PyProof.Rows L2
open Evl (Ex)
open He (ga ma fAd)

def rSubI : R2 := rI0 fun i j => .int (i - j)
def rModN : R2 := rI (fun _ j => j ≠ 0) fun i j => .int (i.fmod j)
def rDivN : R2 := rI CDivN fun i j => .int (i.fdiv j)
def rDivR : R2 := rI (fun _ j => j ≠ 0) fun i j => .int (i.fdiv j)
def rPowN : R2 := rI CPow fun i j => .int (i ^ j.toNat)
def rLtI : R2 := rI0 fun i j => .bl (decide (i < j))
def rLeI : R2 := rI0 fun i j => .bl (decide (i ≤ j))
def rGtI : R2 := rI0 fun i j => .bl (decide (j < i))
def rGeI : R2 := rI0 fun i j => .bl (decide (j ≤ i))
def rIsNn : R2 := fun x y H Q => y = .non ∧ Q (.bl (decide (x = .non))) H
def rIsNotNn : R2 := fun x y H Q => y = .non ∧ Q (.bl (!decide (x = .non))) H
theorem hu_65 {A : Around} {k : Nat} (hr : Room k A) : A.units + 65 < cLine := by have := hr.un; omega
/-- a text of one sign in a text, or a thing in a list -/
def rInSg : R2 := fun x y H Q => ∃ (c : Nat) (z : Str), x = .str ⟨#[c]⟩ ∧ y = .str z ∧ Q (.bl (decide (c ∈ z.cps.toList))) H
def rNotInSg : R2 := fun x y H Q => ∃ (c : Nat) (z : Str), x = .str ⟨#[c]⟩ ∧ y = .str z ∧ Q (.bl (!decide (c ∈ z.cps.toList))) H
def rInB (K : PySem.W.Frag) : R2 := rOr rInSg (rInA K)
def rNotInB (K : PySem.W.Frag) : R2 := rOr rNotInSg (rNotInA K)
theorem op_inB {X : Cx} (hu : X.A.units + 65 < cLine) : OpR X (compareOp .In) (rInB X.K) := OpR.or op_in_sign (op_inA hu)
theorem op_notInB {X : Cx} (hu : X.A.units + 65 < cLine) : OpR X (compareOp .NotIn) (rNotInB X.K) := OpR.or op_notIn_sign (op_notInA hu)
/-! try: one call, caught -/
def tTryAs (K : PySem.W.Frag) (c : Value) (i : Nat) (tb : WX → TS) (ts : Addr → Value → Option Addr → TS) (Wout : WX) : TS := fun D σ H => tb (wAs K c i ts Wout D) D σ H
def tTryOnly (K : PySem.W.Frag) (c : Value) (tb : WX → TS) (ts : Addr → Value → Option Addr → TS) (Wout : WX) : TS := fun D σ H => tb (wOnly K c ts Wout D) D σ H
section
variable {K : PySem.W.Frag} {P0 : Ent} {G : Gm} {M : Mm} {nx : Gm → Mm → Prop} {rt : Sv → Mm → Prop} {bk ct : Gm → Mm → Prop}
theorem ws_tryAs {sp : SpD} {tr : TA} {c : Value} {i : Nat} {ts : Addr → Value → Option Addr → TS} {Wout : WX}
    (h : WA K P0 tr G M fun as M1 => sp as M1 (fun _ M2 => nx G M2) fun cls M2 => PySem.W.exmOne K cls c = some true ∧ ∀ a, WS K P0 (ts a cls none) (G.set i (some (.rf (.ref a)))) M2 (fun G' M' => nx (G'.set i none) M') rt (fun G' M' => bk (G'.set i none) M') (fun G' M' => ct (G'.set i none) M')) :
    WS K P0 (tTryAs K c i (fun W => tDrop (tCallS (lift K sp) (L2.WE W) tr)) ts Wout) G M nx rt bk ct := fun σ Hs H S L D dn dr db dc => by
  show tr σ H fun vs H1 => lift K sp vs H1 (fun _ H' => D.nx σ H') (L2.WE (wAs K c i ts Wout D) σ)
  refine h σ Hs H S L _ fun vs Hs1 H1 ss M1 S1 e1 r1 h1 => ?_
  refine ⟨Hs1, M1, ss, _, _, S1.own, r1, h1, fun v Hs' H' s M' g o r z => dn σ Hs' H' G M' ⟨S1.gr.trans g, o⟩ (e1.trans g.sh) (slots_mono (e1.trans g.sh) L) z, fun cls Hs' H' M' g o z => ?_⟩
  obtain ⟨z1, z2⟩ := z
  refine ⟨true, z1, fun _ a ha => ?_, fun q => Bool.noConfusion q⟩
  have e2 := e1.trans g.sh
  have L2 : Slots K Hs' (σ.set i (some (.ref a))) (G.set i (some (.rf (.ref a)))) := slots_set (v := .ref a) (s := .rf (.ref a)) (slots_mono e2 L) (show Rep K Hs' (.ref a) (.rf (.ref a)) from rfl) i
  exact z2 a (σ.set i (some (.ref a))) Hs' H' ⟨S1.gr.trans g, o⟩ L2 _ (fun σ3 Hs3 H3 G3 M3 S3 e3 L3 q => dn _ Hs3 H3 _ M3 S3 (e2.trans e3) (slots_none L3 i) q) (fun v Hs3 H3 s M3 S3 e3 => dr v Hs3 H3 s M3 S3 (e2.trans e3))
    (fun σ3 Hs3 H3 G3 M3 S3 e3 L3 q => db _ Hs3 H3 _ M3 S3 (e2.trans e3) (slots_none L3 i) q) (fun σ3 Hs3 H3 G3 M3 S3 e3 L3 q => dc _ Hs3 H3 _ M3 S3 (e2.trans e3) (slots_none L3 i) q)
theorem ws_tryOnly {sp : SpD} {tr : TA} {c : Value} {ts : Addr → Value → Option Addr → TS} {Wout : WX}
    (h : WA K P0 tr G M fun as M1 => sp as M1 (fun _ M2 => nx G M2) fun cls M2 => PySem.W.exmOne K cls c = some true ∧ ∀ a, WS K P0 (ts a cls none) G M2 nx rt bk ct) :
    WS K P0 (tTryOnly K c (fun W => tDrop (tCallS (lift K sp) (L2.WE W) tr)) ts Wout) G M nx rt bk ct := fun σ Hs H S L D dn dr db dc => by
  show tr σ H fun vs H1 => lift K sp vs H1 (fun _ H' => D.nx σ H') (L2.WE (wOnly K c ts Wout D) σ)
  refine h σ Hs H S L _ fun vs Hs1 H1 ss M1 S1 e1 r1 h1 => ?_
  refine ⟨Hs1, M1, ss, _, _, S1.own, r1, h1, fun v Hs' H' s M' g o r z => dn σ Hs' H' G M' ⟨S1.gr.trans g, o⟩ (e1.trans g.sh) (slots_mono (e1.trans g.sh) L) z, fun cls Hs' H' M' g o z => ?_⟩
  obtain ⟨z1, z2⟩ := z
  refine ⟨true, z1, fun _ a ha => ?_, fun q => Bool.noConfusion q⟩
  have e2 := e1.trans g.sh
  exact z2 a σ Hs' H' ⟨S1.gr.trans g, o⟩ (slots_mono e2 L) D (fun σ3 Hs3 H3 G3 M3 S3 e3 => dn σ3 Hs3 H3 G3 M3 S3 (e2.trans e3)) (fun v Hs3 H3 s M3 S3 e3 => dr v Hs3 H3 s M3 S3 (e2.trans e3))
    (fun σ3 Hs3 H3 G3 M3 S3 e3 => db σ3 Hs3 H3 G3 M3 S3 (e2.trans e3)) (fun σ3 Hs3 H3 G3 M3 S3 e3 => dc σ3 Hs3 H3 G3 M3 S3 (e2.trans e3))
/-- isinstance(e, c), e the error that the suite holds -/
def rIsX (K : PySem.W.Frag) (a : Addr) (cls : Value) (d : Option Addr) : List V → Hp → VK → Prop := fun xs H Q => ∃ D, cls = .ref D ∧ d = none ∧ ExcC K D ∧ rIsE K D a xs H Q
theorem call_isX {X : Cx} {a : Addr} {cls : Value} {d : Option Addr} {oe : Obj} {pn : List (Addr × Obj)} (hz : Zc cls d oe) (hf : ∃ vs, oe.data = .fields vs) : CallR (X.suite a ((a, oe) :: pn)) (.builtin "isinstance") (rIsX X.K a cls d) := by
  intro pins s σ H xs us Q I r h
  obtain ⟨D, rfl, rfl, C, h⟩ := h
  exact call_isE C hz hf pins s σ H xs us Q I r h
theorem rc_isX {k : Sv → Mm → Prop} {a D : Addr} {c : V} {cv : Value} {b : Bool} (C : ExcC K D) (hc : ∀ u, RelV c u → u = cv) (e : PySem.W.kitOne K (.ref D) cv = some b) (q : k (.va (.bool b)) M) : RCD K P0 (rIsX K a (.ref D) none) [.rf (.ref a), .rf c] M k := fun Hs H xs S r Q cc => by
  obtain ⟨x, y, rfl, r1, r2⟩ := reps2 r
  have ex : x = .ref a := r1
  have ey : y = c := r2
  subst ex ey
  exact ⟨D, rfl, rfl, C, _, cv, b, rfl, hc, e, cc _ Hs H (.va (.bool b)) M S (Ex.refl _) (Dq.bl b) q⟩
end
end G91
namespace G91
open PySem PySem.Spec PyProof.Rows L2
section
variable {K : PySem.W.Frag} {P0 : Ent} {M : Mm} {k : Sv → Mm → Prop} {a b : Int}
theorem r2_lt (q : k (.va (.bool (decide (a < b)))) M) : R2D K P0 rLtI (.va (.int a)) (.va (.int b)) M k := r2_Ib q
theorem r2_le (q : k (.va (.bool (decide (a ≤ b)))) M) : R2D K P0 rLeI (.va (.int a)) (.va (.int b)) M k := r2_Ib q
theorem r2_gt (q : k (.va (.bool (decide (b < a)))) M) : R2D K P0 rGtI (.va (.int a)) (.va (.int b)) M k := r2_Ib q
theorem r2_ge (q : k (.va (.bool (decide (b ≤ a)))) M) : R2D K P0 rGeI (.va (.int a)) (.va (.int b)) M k := r2_Ib q
theorem r2_sub (q : k (.va (.int (a - b))) M) : R2D K P0 rSubI (.va (.int a)) (.va (.int b)) M k := r2_Ii q
theorem r2_mod (hb : 0 < b) (q : k (.va (.int (a % b))) M) : R2D K P0 rModN (.va (.int a)) (.va (.int b)) M k := r2_CIi (f := fun i j => i.fmod j) (by omega) (by rw [Int.fmod_eq_emod_of_nonneg a (by omega)]; exact q)
theorem r2_divR (hb : 0 < b) (q : k (.va (.int (a / b))) M) : R2D K P0 rDivR (.va (.int a)) (.va (.int b)) M k := r2_CIi (f := fun i j => i.fdiv j) (by omega) (by rw [Int.fdiv_eq_ediv_of_nonneg a (by omega)]; exact q)
theorem r2_divN (hb : 0 < b) (hb2 : b < 1073741824) (q : k (.va (.int (a / b))) M) : R2D K P0 rDivN (.va (.int a)) (.va (.int b)) M k := r2_CIi (f := fun i j => i.fdiv j) ⟨by omega, by omega⟩ (by rw [Int.fdiv_eq_ediv_of_nonneg a (by omega)]; exact q)
theorem r2_pow (hb : 0 ≤ b) (hb2 : b ≤ 1000000) (ha : a.natAbs < 2 ^ 64) (q : k (.va (.int (a ^ b.toNat))) M) : R2D K P0 rPowN (.va (.int a)) (.va (.int b)) M k := r2_CIi (f := fun i j => i ^ j.toNat) ⟨hb, hb2, ha⟩ q
end
end G91
/-! ### tests and values that change nothing -/
namespace G91
open PySem PySem.Spec PyProof.Rows L2
section
variable (K : PySem.W.Frag) (P0 : Ent)
def TP (t : TT) (G : Gm) (M : Mm) (b : Bool) : Prop := WT K P0 t G M fun b' M' => b' = b ∧ M' = M
def EP1 (t : TE) (G : Gm) (M : Mm) (s : Sv) : Prop := WE K P0 t G M fun s' M' => s' = s ∧ M' = M
end
section
variable {K : PySem.W.Frag} {P0 : Ent} {G : Gm} {M : Mm} {nx : Gm → Mm → Prop} {rt : Sv → Mm → Prop} {bk ct : Gm → Mm → Prop} {t u : TT} {b b1 b2 : Bool} {te ta tb : TE} {ts us : TS}
theorem tp_and (h1 : TP K P0 t G M b1) (h2 : b1 = true → TP K P0 u G M b2) : TP K P0 (tAnd t u) G M (b1 && b2) := wt_and (wt_mono h1 fun b' M' ⟨e, eM⟩ => by
  subst e eM
  refine ⟨fun h => ?_, fun h => ?_⟩
  · rw [h]; exact h2 h
  · rw [h]; exact ⟨rfl, rfl⟩)
theorem tp_or (h1 : TP K P0 t G M b1) (h2 : b1 = false → TP K P0 u G M b2) : TP K P0 (tOr t u) G M (b1 || b2) := wt_or (wt_mono h1 fun b' M' ⟨e, eM⟩ => by
  subst e eM
  refine ⟨fun h => ?_, fun h => ?_⟩
  · rw [h]; exact ⟨rfl, rfl⟩
  · rw [h]; exact h2 h)
theorem tp_not (h : TP K P0 t G M b) : TP K P0 (tNot t) G M (!b) := wt_not (wt_mono h fun b' M' ⟨e, eM⟩ => by subst e; exact ⟨rfl, eM⟩)
theorem tp_test (h : EP1 K P0 te G M (.va (.bool b))) : TP K P0 (tTest te) G M b := wt_test (we_mono h fun s M' ⟨e, eM⟩ => ⟨b, e, rfl, eM⟩)
theorem tp_B (h : EP1 K P0 te G M (.va (.bool b))) : TP K P0 (tB te) G M b := wt_B (we_mono h fun s M' ⟨e, eM⟩ => ⟨b, e, rfl, eM⟩)
theorem ep_andV (h1 : EP1 K P0 ta G M (.va (.bool b1))) (h2 : b1 = true → EP1 K P0 tb G M (.va (.bool b2))) : EP1 K P0 (tAndV ta tb) G M (.va (.bool (b1 && b2))) := we_andV (we_mono h1 fun s M' ⟨e, eM⟩ => by
  subst eM
  refine ⟨b1, e, fun h => ?_, fun h => ?_⟩
  · rw [h]; exact h2 h
  · rw [h]; exact ⟨rfl, rfl⟩)
theorem ep_orV (h1 : EP1 K P0 ta G M (.va (.bool b1))) (h2 : b1 = false → EP1 K P0 tb G M (.va (.bool b2))) : EP1 K P0 (tOrV ta tb) G M (.va (.bool (b1 || b2))) := we_orV (we_mono h1 fun s M' ⟨e, eM⟩ => by
  subst eM
  refine ⟨b1, e, fun h => ?_, fun h => ?_⟩
  · rw [h]; exact ⟨rfl, rfl⟩
  · rw [h]; exact h2 h)
theorem ep_notV (h : EP1 K P0 ta G M (.va (.bool b))) : EP1 K P0 (tNotV ta) G M (.va (.bool (!b))) := we_notV (we_mono h fun s M' ⟨e, eM⟩ => ⟨b, e, rfl, eM⟩)
theorem ws_ifP (hp : TP K P0 t G M b) (h1 : b = true → WS K P0 ts G M nx rt bk ct) (h2 : b = false → WS K P0 us G M nx rt bk ct) : WS K P0 (tIfS t ts us) G M nx rt bk ct := ws_if (wt_mono hp fun b' M' ⟨e, eM⟩ => by
  subst e eM
  exact ⟨h1, h2⟩)
theorem we_P {s : Sv} {k : Sv → Mm → Prop} (hp : EP1 K P0 te G M s) (q : k s M) : WE K P0 te G M k := we_mono hp fun s' M' ⟨e, eM⟩ => by
  subst e eM
  exact q
/-- a word between two statements -/
theorem ws_cut (J : Gm → Mm → Prop) (h : WS K P0 ts G M J rt bk ct) (q : ∀ G' M', J G' M' → WS K P0 us G' M' nx rt bk ct) : WS K P0 (tSeq ts us) G M nx rt bk ct := ws_seq (ws_mono h q (fun _ _ z => z) (fun _ _ z => z) (fun _ _ z => z))
end
end G91
namespace G91
open PySem PySem.Spec PyProof.Rows L2
theorem wt_P {K : PySem.W.Frag} {P0 : Ent} {G : Gm} {M : Mm} {t : TT} {b : Bool} {k : Bool → Mm → Prop} (hp : TP K P0 t G M b) (q : k b M) : WT K P0 t G M k := wt_mono hp fun s' M' ⟨e, eM⟩ => by
  subst e eM
  exact q
end G91

/-! Ma1: shares as rational numbers. -/
namespace G91
open PySem PySem.Spec PyProof.Rows L2

/-- a share as data -/
abbrev shD (r : Rat) : PyData := .tuple [.int r.num, .int (r.den : Int)]
theorem fmod_nn {a b : Int} (hb : 0 ≤ b) : a.fmod b = a % b := Int.fmod_eq_emod_of_nonneg a hb
theorem fdiv_nn {a b : Int} (hb : 0 ≤ b) : a.fdiv b = a / b := Int.fdiv_eq_ediv_of_nonneg a hb
theorem gcd_step {a b : Int} (ha : 0 ≤ a) (hb : 0 < b) : Int.gcd b (a % b) = Int.gcd a b := by
  obtain ⟨m, rfl⟩ := Int.eq_ofNat_of_zero_le ha
  obtain ⟨n, rfl⟩ := Int.eq_ofNat_of_zero_le (Int.le_of_lt hb)
  rw [← Int.natCast_emod, Int.gcd_natCast_natCast, Int.gcd_natCast_natCast, Nat.gcd_comm m n, Nat.gcd_rec n m, Nat.gcd_comm]
theorem gcd_zero_r {a : Int} (ha : 0 ≤ a) : (Int.gcd a 0 : Int) = a := by
  rw [Int.gcd_zero_right]; omega
/-- top by bottom in lowest terms -/
def shr (t b : Int) : Rat := mkRat t b.toNat
theorem shr_eq (t b : Int) (hb : 0 < b) : shr t b = (t : Rat) / (b : Rat) := by
  unfold shr
  rw [Rat.mkRat_eq_div]
  have e : ((b.toNat : Nat) : Rat) = (b : Rat) := by
    have : ((b.toNat : Nat) : Int) = b := by omega
    rw [← Rat.intCast_natCast, this]
  rw [e]
theorem shr_num {t b : Int} (hb : 0 < b) : (shr t b).num = t / (Int.gcd t b : Int) := by
  unfold shr
  rw [Rat.num_mkRat, if_neg (by omega)]
  have e : b.toNat.gcd t.natAbs = Int.gcd t b := by
    show b.toNat.gcd t.natAbs = t.natAbs.gcd b.natAbs
    rw [Nat.gcd_comm]
    have : b.natAbs = b.toNat := by omega
    rw [this]
  rw [e]
theorem shr_den {t b : Int} (hb : 0 < b) : ((shr t b).den : Int) = b / (Int.gcd t b : Int) := by
  unfold shr
  rw [Rat.den_mkRat, if_neg (by omega)]
  have e : b.toNat.gcd t.natAbs = Int.gcd t b := by
    show b.toNat.gcd t.natAbs = t.natAbs.gcd b.natAbs
    rw [Nat.gcd_comm]
    have : b.natAbs = b.toNat := by omega
    rw [this]
  rw [e, Int.natCast_ediv]
  have : ((b.toNat : Nat) : Int) = b := by omega
  rw [this]
theorem shr_self (r : Rat) : shr r.num r.den = r := by
  unfold shr
  rw [Int.toNat_natCast]
  exact Rat.mkRat_self r
theorem shD_shr {t b : Int} (hb : 0 < b) : shD (shr t b) = .tuple [.int (t / (Int.gcd t b : Int)), .int (b / (Int.gcd t b : Int))] := by
  show PyData.tuple [.int _, .int _] = _
  rw [shr_num hb, shr_den hb]
theorem den_pos (r : Rat) : (0 : Int) < r.den := by have := r.den_pos; omega
theorem rat_eq (r : Rat) : r = (r.num : Rat) / (r.den : Rat) := by
  conv => lhs; rw [← Rat.mkRat_self r, Rat.mkRat_eq_div]
theorem den_ne (r : Rat) : (r.den : Rat) ≠ 0 := by
  have := r.den_nz
  intro h
  exact this (by exact_mod_cast h)
theorem shr_add (r s : Rat) : shr (r.num * s.den + s.num * r.den) (r.den * s.den) = r + s := by
  have h1 := den_pos r
  have h2 := den_pos s
  rw [shr_eq _ _ (Int.mul_pos h1 h2)]
  have e1 := den_ne r
  have e2 := den_ne s
  conv => rhs; rw [rat_eq r, rat_eq s]
  push_cast
  grind
theorem shr_sub (r s : Rat) : shr (r.num * s.den - s.num * r.den) (r.den * s.den) = r - s := by
  have h1 := den_pos r
  have h2 := den_pos s
  rw [shr_eq _ _ (Int.mul_pos h1 h2)]
  have e1 := den_ne r
  have e2 := den_ne s
  conv => rhs; rw [rat_eq r, rat_eq s]
  push_cast
  grind
theorem shr_mul (r s : Rat) : shr (r.num * s.num) (r.den * s.den) = r * s := by
  have h1 := den_pos r
  have h2 := den_pos s
  rw [shr_eq _ _ (Int.mul_pos h1 h2)]
  have e1 := den_ne r
  have e2 := den_ne s
  conv => rhs; rw [rat_eq r, rat_eq s]
  push_cast
  grind
theorem num_pos_of {s : Rat} (h : 0 < s) : 0 < s.num := by
  have := (Rat.lt_iff 0 s).mp h
  simpa using this
theorem shr_div (r s : Rat) (hs : 0 < s) : shr (r.num * s.den) (r.den * s.num) = r / s := by
  have h1 := den_pos r
  have h2 := num_pos_of hs
  rw [shr_eq _ _ (Int.mul_pos h1 h2)]
  have e1 := den_ne r
  have e2 := den_ne s
  have e3 : (s.num : Rat) ≠ 0 := by
    intro h
    have : s.num = 0 := by exact_mod_cast h
    omega
  conv => rhs; rw [rat_eq r, rat_eq s]
  push_cast
  grind
theorem num_nn {r : Rat} (h : 0 ≤ r) : 0 ≤ r.num := Rat.num_nonneg.mpr h
theorem shD_inj {r s : Rat} (h : shD r = shD s) : r = s := by
  have h : PyData.tuple [.int r.num, .int (r.den : Int)] = .tuple [.int s.num, .int (s.den : Int)] := h
  injection h with h
  injection h with h1 h
  injection h with h2 _
  injection h1 with h1
  injection h2 with h2
  exact Rat.ext h1 (by omega)
theorem lt_cross (r s : Rat) : r.num * s.den < s.num * r.den ↔ r < s := (Rat.lt_iff r s).symm
/-- not too great: numbers whose products the interpreter makes -/
def Fit (r : Rat) : Prop := Builtin.Int.intBits r.num ≤ 60000000 ∧ Builtin.Int.intBits (r.den : Int) ≤ 60000000
theorem mul_ok {a b : Int} (ha : Builtin.Int.intBits a ≤ 60000000) (hb : Builtin.Int.intBits b ≤ 60000000) : IntMulOk a b := IntMulOk.of_le ha hb (by decide)
end G91

/-! Fw6: the head's Hook with one more Bool, the interpreter's own tables in it. -/
namespace G91
open PySem PySem.Spec PyProof.Rows L2
open Evl (Ex)
open He (ga ma fAd ba frG frG_in asD Fa DefD obsD valD SaysD AlD eqO eqO_ok)

def frY (g : Addr → Option Obj) (n : Nat) : PySem.W.Frag := frG g (cStatics :: sysModules :: asD g n)
theorem frY_in {h : Heap} {n : Nat} : (frY h.get? n).In h := frG_in
abbrev AlY : Type := AlD × Bool
def obsY (n : Nat) (fa : List Fa) (fn : List DefD) (ex : PySem.W.Frag → Bool) (g : Addr → Option Obj) : AlY := (obsD fa fn (frY g n), ex (frY g n))
def valY (fn : List DefD) : AlY := (valD fn, true)
structure SaysY (fa : List Fa) (fn : List DefD) (ex : PySem.W.Frag → Bool) (K : PySem.W.Frag) : Prop where
  d : SaysD fa fn K
  more : ex K = true
def hookY (n : Nat) (fa : List Fa) (fn : List DefD) (ex : PySem.W.Frag → Bool) : PySem.W.Hook where
  α := AlY
  obs := fun s => obsY n fa fn ex s.heap.get?
  val := fun _ => valY fn
  says := fun _ h => ∃ K : PySem.W.Frag, K.In h ∧ SaysY fa fn ex K
  of := fun _ _ e => ⟨_, frY_in, congrArg (fun z : AlY => z.1) e, congrArg (fun z : AlY => z.2) e⟩
  keeps := fun _ _ _ ⟨K, hK, c⟩ k => ⟨K, PySem.W.Frag.In.keeps hK k, c⟩
theorem obsY_eq {n : Nat} {fa : List Fa} {fn : List DefD} {ex : PySem.W.Frag → Bool} {g : Addr → Option Obj} {s : Shared} (h : ∀ a, g a = s.heap.get? a) : obsY n fa fn ex g = (hookY n fa fn ex).obs s := by
  have e : g = s.heap.get? := funext h
  rw [e] <;> rfl
/-! the interpreter's tables -/
def sysB (K : PySem.W.Frag) : Bool :=
  (PySem.W.nsOkIn K cStatics && (eqO (PySem.W.nsIn K cStatics "sys.audit-hooks") (some none) && eqO (PySem.W.nsIn K cStatics "sys.dict") (some none))) &&
  ((PySem.W.nsOkIn K sysModules && eqO (PySem.W.nsIn K sysModules "_pylong") (some none)) &&
  (PySem.W.nsOkIn K mainGlobals && (match PySem.W.nsIn K mainGlobals "__builtins__" with
    | some (some (.ref bm)) => (match K.lookup bm with
      | some o => decide (o.cls = .type "module") && decide (o.dict = some builtinsNs)
      | none => false)
    | _ => false)))
theorem ns_some_of {K : PySem.W.Frag} {h : Heap} {N : Addr} {mg : Str → Option Value} {n : Str} {v : Value} (X : K.In h) (G : h.Ns N mg) (e : PySem.W.nsIn K N n = some (some v)) : mg n = some v := by
  obtain ⟨o, es, ep, ho, hd, _, hf⟩ := G
  unfold PySem.W.nsIn at e
  split at e
  · rename_i c d es' n' sl q
    have := X _ _ q
    rw [ho] at this
    cases this
    cases hd
    split at e
    · rename_i e0 he
      rw [← hf]
      unfold nsFind findBy
      rw [← Array.find?_toList, he]
      exact Option.some.inj e
    · split at e <;> cases e
  · cases e
theorem sysB_ok {P : Program} {K : PySem.W.Frag} (ht : P.given.tree = none) (h : sysB K = true) : SysOk P K := by
  obtain ⟨h1, h2⟩ := ba h
  obtain ⟨a1, a2⟩ := ba h1
  obtain ⟨a3, a4⟩ := ba a2
  obtain ⟨b1, b2⟩ := ba h2
  obtain ⟨b3, b4⟩ := ba b1
  obtain ⟨c1, c2⟩ := ba b2
  refine ⟨ht, fun hp X => ⟨_, .of_isNs (PySem.W.isNs_of_in X a1), PySem.W.nsMap_none_of_in X a1 (eqO_ok a3), PySem.W.nsMap_none_of_in X a1 (eqO_ok a4)⟩, fun hp X => ⟨_, .of_isNs (PySem.W.isNs_of_in X b3), PySem.W.nsMap_none_of_in X b3 (eqO_ok b4)⟩, fun hp X => ?_⟩
  cases q : PySem.W.nsIn K mainGlobals "__builtins__" with
  | none => rw [q] at c2; cases c2
  | some r =>
    cases r with
    | none => rw [q] at c2; cases c2
    | some v =>
      cases v with
      | ref bm =>
        rw [q] at c2
        have c3 : (match K.lookup bm with
          | some o => decide (o.cls = .type "module") && decide (o.dict = some builtinsNs)
          | none => false) = true := c2
        cases z : K.lookup bm with
        | none => rw [z] at c3; cases c3
        | some o =>
          rw [z] at c3
          obtain ⟨d1, d2⟩ := ba c3
          have G := Heap.Ns.of_isNs (PySem.W.isNs_of_in X c1)
          exact ⟨_, bm, o, G, ns_some_of X G q, X _ _ z, of_decide_eq_true d1, of_decide_eq_true d2⟩
      | _ => rw [q] at c2; cases c2
/-! own errors -/
def excCB (K : PySem.W.Frag) (x : Str) : Bool :=
  (eqO (PySem.W.findIn K (.ref (ga K x)) "__getattribute__") (some (some (.builtin "BaseException.__getattribute__"))) && (eqO (PySem.W.findIn K (.ref (ga K x)) "__getattr__") (some none) && decide (PySem.W.subIn K (.ref (ga K x)) (.type "BaseException") = some true))) &&
  ((PySem.W.hasDictIn K (ga K x) && eqO (PySem.W.findIn K (.ref (ga K x)) "__class__") (some (some (.builtin "object.__class__")))) &&
  (eqO (PySem.W.specialIn K (.builtin "object.__class__") "__get__") (some (some (.builtin "getset_descriptor.__get__"))) && (decide (PySem.W.takesIn K (.builtin "object.__class__") = some true) && decide (PySem.W.mroIn K (ga K x) (.type "object") = some true))))
theorem excCB_ok {K : PySem.W.Frag} {x : Str} (h : excCB K x = true) : ExcC K (ga K x) := by
  obtain ⟨h1, h2⟩ := ba h
  obtain ⟨a1, a2⟩ := ba h1
  obtain ⟨a3, a4⟩ := ba a2
  obtain ⟨b1, b2⟩ := ba h2
  obtain ⟨b3, b4⟩ := ba b1
  obtain ⟨c1, c2⟩ := ba b2
  obtain ⟨c3, c4⟩ := ba c2
  exact ⟨eqO_ok a1, eqO_ok a3, of_decide_eq_true a4, b3, eqO_ok b4, eqO_ok c1, of_decide_eq_true c3, of_decide_eq_true c4⟩
def kitXB (K : PySem.W.Frag) (x y : Str) (b : Bool) : Bool := decide (PySem.W.kitOne K (.ref (ga K x)) (.ref (ga K y)) = some b)
theorem kitXB_ok {K : PySem.W.Frag} {x y : Str} {b : Bool} (h : kitXB K x y b = true) : PySem.W.kitOne K (.ref (ga K x)) (.ref (ga K y)) = some b := of_decide_eq_true h
def kitXT (K : PySem.W.Frag) (x : Str) (y : String) (b : Bool) : Bool := decide (PySem.W.kitOne K (.ref (ga K x)) (.type y) = some b)
theorem kitXT_ok {K : PySem.W.Frag} {x : Str} {y : String} {b : Bool} (h : kitXT K x y b = true) : PySem.W.kitOne K (.ref (ga K x)) (.type y) = some b := of_decide_eq_true h
theorem excX_ok {K : PySem.W.Frag} {h : Heap} {mg : Str → Option Value} {x : Str} (X : K.In h) (G : h.Ns mainGlobals mg) (c : (Fa.exc x).ok K = true) (g : (Fa.glo x).ok K = true) : ExcX K mg x :=
  let ⟨a, b, d, e⟩ := He.exc_ok c; ⟨a, b, d, e, He.glo_ok X G g⟩
theorem df_ok {fa : List Fa} {fn : List DefD} {K : PySem.W.Frag} {x qual : Str} {st : Stmt} {at_ : Str × Option Str} (c : SaysD fa fn K) (i : Nat) (h : fn[i]? = some ⟨at_, x, qual, defArgs st, defBody st, defScope st, [], []⟩) : Df K x qual st (fAd K at_) :=
  ⟨c.def_ i (d := ⟨at_, x, qual, defArgs st, defBody st, defScope st, [], []⟩) h⟩
/-- the law's function, over every base -/
theorem fn_end {P : Program} {w : World} {K : PySem.W.Frag} {mg : Str → Option Value} {base : Heap} {x qual : Str} {st : Stmt} {f : Addr} {fd : FuncData} {N ps : List Str} {k : Nat} {spd : SpD} {t : XK → TS}
    (F : FunD K x qual (defArgs st) (defBody st) (defScope st) [] [] f fd) (S : FnScope N ps (defScope st)) (hN : ps.length ≤ N.length)
    (hps : ∀ (cdv : Value) (A : Around) (outer : List Env) (s : Shared) (H : Hp) (E : XK), Room k (A.deeper (envOfC qual (defScope st) s.heap.objs.size f cdv)) → PSs (cxOf (L2.CX P w) P w K mg base N qual (defScope st) f cdv A outer s H E) (defBody st) (t E))
    (hv : Keeps K N ps t spd) : FnOk P w K mg base (L2.CX P w) (k + 1) f fd ps (lift K spd) := by
  refine F.ok S (fun vs H Q E h => ?_) (fun cdv A outer s H vs Q E hr h => ?_)
  · obtain ⟨Hs, M, as, kk, e, _, rv, hs, _⟩ := h
    exact (reps_length rv).trans (hv as M kk e hs).1
  · obtain ⟨Hs, M, as, kk, e, ho, rv, hs, hk, he⟩ := h
    obtain ⟨hl, hw⟩ := hv as M kk e hs
    exact ⟨t E, hps cdv A outer s H E hr, run_abs ho rv hk he (by omega) fun P0 hE => hw P0 E hE⟩
/-- what a law promises: at each script the answer True -/
def spLaw (n : Nat) : SpD := fun as M k _ => ∃ ns : List Int, as = [.va (scD ns)] ∧ ns.length ≤ n ∧ (∀ a, M a = none) ∧ ∀ M', k (.va (.bool true)) M'
theorem lift_law {K : PySem.W.Frag} {n : Nat} {H : Hp} {a : Addr} {ns : List Int} (hl : ns.length ≤ n) (hS : SqL K H a (ns.map V.int)) : lift K (spLaw n) [.ref a] H (fun v _ => v = .bl true) fun _ _ _ => False := by
  refine ⟨H, fun _ => none, [.va (scD ns)], fun s _ => s = .va (.bool true), fun _ _ => False, ⟨Ex.refl _, fun a ob h => by (cases h), fun a o h => by (cases h)⟩, .cons (show Dq K H (.ref a) (scD ns) from Dq.scr hS) .nil, ⟨ns, rfl, hl, fun _ => rfl, fun _ => rfl⟩, ?_, ?_⟩
  · intro v Hs' H' s M' _ _ r z
    subst z
    cases r
    rfl
  · intro cls Hs' H' M' _ _ z
    exact z
theorem all_at {l : List Bool} (h : l.all id = true) (i : Nat) {b : Bool} (e : l[i]? = some b) : b = true := List.all_eq_true.mp h b (List.mem_of_getElem? e)
/-- the end of a law over a head by facts, errors let out by CX P w -/
theorem walkE2 {l : PySem.W.OpenLaw} {n k : Nat} {q : Program} {loose : List Str} {XP : (Str → Option Value) → Heap → Prop} {YP : World → Heap → Prop} {d : DefRec} {x : Str}
    (hn : l.most = some n) (hn2 : n ≤ sizeLine) (hdf : d.params.defaults = []) (hr : Room k callerA)
    (F : ∀ (w : World) (mg : Str → Option Value) (fa : Addr) (h : Heap), YP w h → h.Ns mainGlobals mg → mg d.name = some (.ref fa) →
      ∃ (K : PySem.W.Frag) (fd : FuncData) (sp : Sp), K.In h ∧ (∀ (s : Shared) (u : Value), BindsTo s fd ⟨[u], []⟩ [(x, u)]) ∧
        (∀ (H : Hp) (a : Addr) (ns : List Int), ns.length ≤ n → Only H → SqL K H a (ns.map V.int) → sp [.ref a] H (fun v _ => v = .bl true) fun _ _ _ => False) ∧
        ∀ base : Heap, K.In base → base.Ns mainGlobals mg → FnOk l.prog w K mg base (L2.CX l.prog w) k fa fd [x] sp) :
    PySem.W.WalkO q loose XP YP l.row.toRowW d [] (fun f vs => PySem.call f vs) := by
  refine Att.attach_call hn hdf fun w s₀ s₁ mg mb fa o pm cd doc a vs ns G Y ho hd hcd hmg hobj hints hlen hg => ?_
  obtain ⟨K, fd, sp, KX, hb, hsp, hF⟩ := F w mg fa _ Y G.T.g hmg
  exact law_call KX G.T.g G.T.b G.T.builtins G.T.nolimit hg hobj hints (Nat.le_trans hlen hn2) hr hF hb (fun H hO hS => hsp H a ns hlen hO hS) fun H e s' ⟨_, _, _, _, _, _, _, _, _, _, _, _, z⟩ => z
end G91

/-! Fw7: more rules; the script's cells. -/
namespace G91
open PySem PySem.Spec PyProof.Rows L2
open Evl (Ex)
open He (ga ma fAd)
/-- the script's cell -/
def cell (ns : List Int) (i : Int) : Int := ns.getD i.toNat 0
section
variable {K : PySem.W.Frag} {P0 : Ent} {G : Gm} {M : Mm} {k : Sv → Mm → Prop} {te ta tb : TE} {i : Nat} {s : Sv} {v : V} {nx : Gm → Mm → Prop} {rt : Sv → Mm → Prop} {bk ct : Gm → Mm → Prop}
theorem r2_ixCell {ns : List Int} {i : Int} (h0 : 0 ≤ i) (h1 : i < ns.length) (q : k (.va (.int (cell ns i))) M) : R2D K P0 (rIx K) (.va (scD ns)) (.va (.int i)) M k := by
  refine r2_ixScr (n := cell ns i) ?_ q
  obtain ⟨j, rfl⟩ := Int.eq_ofNat_of_zero_le h0
  unfold atI ixN
  have h2 : j < ns.length := by omega
  have h3 : cell ns (j : Int) = ns[j] := by
    unfold cell
    rw [Int.toNat_natCast, List.getD_eq_getElem?_getD, List.getElem?_eq_getElem h2] <;> rfl
  rw [h3]
  simp [h2]
end
end G91
namespace G91
open PySem PySem.Spec PyProof.Rows L2
theorem shaped_shD (r : Rat) : SeqAt.shaped (shD r) = true := rfl
theorem bits_sm {a : Int} (h : a.natAbs < 2 ^ 200) : Builtin.Int.intBits a ≤ 60000000 := Nat.le_trans (intBits_le_iff.mpr h) (by decide)
theorem mul_sm {a b : Int} (ha : a.natAbs < 2 ^ 200) (hb : b.natAbs < 2 ^ 200) : IntMulOk a b := mul_ok (bits_sm ha) (bits_sm hb)
theorem mul_l {a b : Int} (ha : a.natAbs < 2 ^ 64) : IntMulOk a b := IntMulOk.of_left (intBits_le_iff.mpr ha)
theorem mul_r {a b : Int} (hb : b.natAbs < 2 ^ 64) : IntMulOk a b := IntMulOk.of_right (intBits_le_iff.mpr hb)
end G91
namespace G91
open PySem PySem.Spec PyProof.Rows L2
mutual
def plD : PyData → Bool
  | .none => true
  | .int _ => true
  | .str _ => true
  | .list xs => plA xs
  | .tuple xs => plA xs
  | _ => false
def plA : List PyData → Bool
  | [] => true
  | x :: xs => plD x && plA xs
end
mutual
theorem eqv_pl : ∀ (d e : PyData), plD d = true → plD e = true → (PyData.eqv d e = true ↔ d = e)
  | .none, e, _, he => by cases e <;> simp_all [PyData.eqv, plD]
  | .int i, e, _, he => by cases e <;> simp_all [PyData.eqv, plD]
  | .str i, e, _, he => by cases e <;> simp_all [PyData.eqv, plD]
  | .bool _, _, h, _ => by cases h
  | .dict _, _, h, _ => by cases h
  | .list xs, e, h, he => by
    cases e with
    | list ys =>
      have := eqv_plA xs ys h he
      simp_all [PyData.eqv]
    | _ => simp_all [PyData.eqv, plD]
  | .tuple xs, e, h, he => by
    cases e with
    | tuple ys =>
      have := eqv_plA xs ys h he
      simp_all [PyData.eqv]
    | _ => simp_all [PyData.eqv, plD]
theorem eqv_plA : ∀ (ds es : List PyData), plA ds = true → plA es = true → (PyData.eqvAll ds es = true ↔ ds = es)
  | [], [], _, _ => by simp [PyData.eqvAll]
  | [], _ :: _, _, _ => by simp [PyData.eqvAll]
  | _ :: _, [], _, _ => by simp [PyData.eqvAll]
  | d :: ds, e :: es, h, he => by
    obtain ⟨h1, h2⟩ := Bool.and_eq_true_iff.mp (show (plD d && plA ds) = true from h)
    obtain ⟨h3, h4⟩ := Bool.and_eq_true_iff.mp (show (plD e && plA es) = true from he)
    have a := eqv_pl d e h1 h3
    have b := eqv_plA ds es h2 h4
    simp only [PyData.eqvAll, Bool.and_eq_true, a, b, List.cons.injEq]
end
theorem eqv_int2 (a b : Int) : PyData.eqv (.int a) (.int b) = decide (a = b) := by
  unfold PyData.eqv
  rw [Bool.eq_iff_iff, decide_eq_true_iff, beq_iff_eq]
theorem eqv_self {d : PyData} (h : plD d = true) : PyData.eqv d d = true := (eqv_pl d d h h).mpr rfl
theorem eqv_t {d e : PyData} (h : d = e) (hp : plD e = true) : PyData.eqv d e = true := by subst h; exact eqv_self hp
theorem eqv_f {d e : PyData} (hd : plD d = true) (he : plD e = true) (h : d ≠ e) : PyData.eqv d e = false := by
  cases q : PyData.eqv d e with
  | false => rfl
  | true => exact absurd ((eqv_pl d e hd he).mp q) h
theorem eqv_bb (a b : Bool) : PyData.eqv (.bool a) (.bool b) = (a == b) := by unfold PyData.eqv; rfl
theorem plD_shD (r : Rat) : plD (shD r) = true := rfl
theorem eqv_shD (r s : Rat) : PyData.eqv (shD r) (shD s) = decide (r = s) := by
  rw [Bool.eq_iff_iff, decide_eq_true_iff, eqv_pl _ _ (plD_shD r) (plD_shD s)]
  exact ⟨shD_inj, fun h => by rw [h]⟩
end G91
namespace G91
open PySem PySem.Spec PyProof.Rows L2
def isTy (d : PyData) (n : String) : Bool := (kitB (tyD d) n).getD false
theorem rc_isiF {K : PySem.W.Frag} {P0 : Ent} {M : Mm} {k : Sv → Mm → Prop} {d : PyData} {n : String} (e : (kitB (tyD d) n).isSome = true) (q : k (.va (.bool (isTy d n))) M) : RCD K P0 (rIsi K) [.va d, .rf (.ty n)] M k := by
  obtain ⟨b, hb⟩ := Option.isSome_iff_exists.mp e
  refine rc_isi hb ?_
  unfold isTy at q
  rw [hb] at q
  exact q
end G91
namespace G91
open PySem PySem.Spec PyProof.Rows L2
/-- a word behind one statement -/
theorem ws_mid {K : PySem.W.Frag} {P0 : Ent} {G : Gm} {M : Mm} {t : TS} {nx : Gm → Mm → Prop} {rt : Sv → Mm → Prop} {bk ct : Gm → Mm → Prop} (J : Gm → Mm → Prop) (h : WS K P0 t G M J rt bk ct) (q : ∀ G' M', J G' M' → nx G' M') : WS K P0 t G M nx rt bk ct := ws_mono h q (fun _ _ z => z) (fun _ _ z => z) (fun _ _ z => z)
end G91

/-! Fw8: freezing of nested things; lists changed; built-ins of lists. -/
namespace G91
open PySem PySem.Spec PyProof.Rows L2
open Evl (Ex)
open He (ga ma fAd)
mutual
/-- s, read through M, is the data d; what it passes does not stand in M0 -/
inductive DeepF (M M0 : Mm) : Sv → PyData → Prop
  | va (d : PyData) : DeepF M M0 (.va d) d
  | lst {a : Addr} {ss : List Sv} {ds : List PyData} : M a = some (.lst ss) → M0 a = none → DeepFs M M0 ss ds → DeepF M M0 (.rf (.ref a)) (.list ds)
  | tup {a : Addr} {ss : List Sv} {ds : List PyData} : M a = some (.tup ss) → M0 a = none → DeepFs M M0 ss ds → DeepF M M0 (.rf (.ref a)) (.tuple ds)
inductive DeepFs (M M0 : Mm) : List Sv → List PyData → Prop
  | nil : DeepFs M M0 [] []
  | cons {s : Sv} {d : PyData} {ss : List Sv} {ds : List PyData} : DeepF M M0 s d → DeepFs M M0 ss ds → DeepFs M M0 (s :: ss) (d :: ds)
end
theorem deepFs_va {M M0 : Mm} : ∀ ds : List PyData, DeepFs M M0 (ds.map Sv.va) ds
  | [] => .nil
  | d :: ds => .cons (.va d) (deepFs_va ds)
theorem deepFs_of {M M0 : Mm} {α : Type} {f : α → Sv} {g : α → PyData} : ∀ l : List α, (∀ x ∈ l, DeepF M M0 (f x) (g x)) → DeepFs M M0 (l.map f) (l.map g)
  | [], _ => .nil
  | x :: l, h => .cons (h x List.mem_cons_self) (deepFs_of l fun y hy => h y (List.mem_cons_of_mem _ hy))
/-- the heap's part that is shared from now on -/
def frz (Hs H : Hp) (M M0 : Mm) : Hp := fun a => match Hs a with
  | some o => some o
  | none => match M a, M0 a with
    | some _, none => H a
    | _, _ => none
section
variable {K : PySem.W.Frag} {P0 : Ent} {M M0 : Mm} {Hs H : Hp}
theorem frz_at {a : Addr} {o : Ob} (S : Own K Hs M H) (h : M a = some o) (h0 : M0 a = none) : frz Hs H M M0 a = H a := by
  unfold frz
  rw [S.sep a o h, h, h0]
theorem St0.frz (S : St0 K P0 M Hs H) (hm : ∀ a o, M0 a = some o → M a = some o) : St0 K P0 M0 (frz Hs H M M0) H ∧ Ex Hs (frz Hs H M M0) := by
  have e1 : Ex Hs (G91.frz Hs H M M0) := fun a o h => by unfold G91.frz; rw [h]
  have kn : ∀ a, Hs a = none → G91.frz Hs H M M0 a ≠ none → M a ≠ none ∧ M0 a = none ∧ G91.frz Hs H M M0 a = H a := fun a h n => by
    unfold G91.frz at n ⊢
    rw [h] at n ⊢
    cases e : M a with
    | none => rw [e] at n; exact absurd rfl n
    | some o =>
      cases e0 : M0 a with
      | none => exact ⟨(fun z => by cases z), rfl, rfl⟩
      | some o0 => rw [e, e0] at n; exact absurd rfl n
  refine ⟨⟨S.gr.trans ⟨e1, fun a h n => .inr (kn a h n).1, fun _ _ h _ => h, fun b n => ?_⟩, ⟨fun a o h => ?_, fun a o h => ?_, fun a o h => obIs_mono e1 (fun _ z => z) (S.own.ob a o (hm a o h))⟩⟩, e1⟩
  · cases e : M0 b with
    | none => exact absurd e n
    | some o => exact .inl (by rw [hm b o e]; intro z; cases z)
  · cases e : Hs a with
    | some u =>
      have := e1 a u e
      rw [h] at this
      cases this
      exact S.own.ex a _ e
    | none =>
      obtain ⟨_, _, z⟩ := kn a e (by rw [h]; intro z; cases z)
      rw [← z]; exact h
  · cases e : G91.frz Hs H M M0 a with
    | none => rfl
    | some u =>
      have hs := S.own.sep a o (hm a o h)
      obtain ⟨_, z, _⟩ := kn a hs (by rw [e]; intro z; cases z)
      rw [h] at z; cases z
mutual
theorem deep_dq (S : Own K Hs M H) (e1 : Ex Hs (frz Hs H M M0)) : ∀ {s : Sv} {d : PyData} {v : V}, DeepF M M0 s d → Rep K Hs v s → Dq K (frz Hs H M M0) v d
  | _, _, _, .va d, r => dp_mono e1 r
  | _, _, _, .lst h h0 hs, r => by
    obtain ⟨xs, h1, h2⟩ := S.ob _ _ h
    have r : _ = V.ref _ := r
    subst r
    exact .lst (by rw [frz_at S h h0]; exact h1) (deep_dqs S e1 hs h2)
  | _, _, _, .tup h h0 hs, r => by
    obtain ⟨xs, h1, h2⟩ := S.ob _ _ h
    have r : _ = V.ref _ := r
    subst r
    exact .tup (Evl.st_of (by rw [frz_at S h h0]; exact h1)) (deep_dqs S e1 hs h2)
theorem deep_dqs (S : Own K Hs M H) (e1 : Ex Hs (frz Hs H M M0)) : ∀ {ss : List Sv} {ds : List PyData} {vs : List V}, DeepFs M M0 ss ds → Reps K Hs vs ss → DqAll K (frz Hs H M M0) vs ds
  | _, _, _, .nil, .nil => .nil
  | _, _, _, .cons a b, .cons r t => .cons (deep_dq S e1 a r) (deep_dqs S e1 b t)
end
variable {G : Gm} {k : Sv → Mm → Prop} {te ta tb : TE} {i : Nat} {s : Sv} {v : V} {nx : Gm → Mm → Prop} {rt : Sv → Mm → Prop} {bk ct : Gm → Mm → Prop} {t u : TS}
/-- a value that nobody changes from then on, whatever it holds; what M0 does not have is dropped -/
theorem we_frz (h : WE K P0 te G M fun s M1 => ∃ (M0 : Mm) (d : PyData), (∀ a o, M0 a = some o → M1 a = some o) ∧ DeepF M1 M0 s d ∧ k (.va d) M0) : WE K P0 te G M k := fun σ Hs H S L Q c =>
  h σ Hs H S L _ fun x Hs1 H1 s M1 S1 e1 r1 ⟨M0, d, hm, hd, q⟩ => by
    obtain ⟨S2, e2⟩ := S1.frz hm
    exact c x _ H1 (.va d) M0 S2 (e1.trans e2) (deep_dq S1.own e2 hd r1) q
theorem ws_frz (M0 : Mm) {d : PyData} (hm : ∀ a o, M0 a = some o → M a = some o) (hi : G[i]? = some (some s)) (hd : DeepF M M0 s d) (h : WS K P0 t (G.set i (some (.va d))) M0 nx rt bk ct) : WS K P0 t G M nx rt bk ct :=
  fun σ Hs H S L D dn dr db dc => by
    obtain ⟨S1, e1⟩ := S.frz hm
    obtain ⟨v, hv, rv⟩ := L.2 i _ hi
    have d1 := deep_dq S.own e1 hd rv
    have hl : σ.set i (some v) = σ := by
      apply List.ext_getElem?
      intro j
      by_cases e : i = j
      · subst e
        rw [List.getElem?_set_self (List.getElem?_eq_some_iff.mp hv).1, hv]
      · rw [List.getElem?_set_ne e]
    have L2 : Slots K (frz Hs H M M0) σ (G.set i (some (.va d))) := by
      have z := slots_set (v := v) (s := .va d) (slots_mono e1 L) d1 i
      rw [hl] at z
      exact z
    exact h σ _ H S1 L2 D (fun σ2 Hs2 H2 G2 M2 S2 e2 => dn σ2 Hs2 H2 G2 M2 S2 (e1.trans e2)) (fun v Hs2 H2 s M2 S2 e2 => dr v Hs2 H2 s M2 S2 (e1.trans e2))
      (fun σ2 Hs2 H2 G2 M2 S2 e2 => db σ2 Hs2 H2 G2 M2 S2 (e1.trans e2)) (fun σ2 Hs2 H2 G2 M2 S2 e2 => dc σ2 Hs2 H2 G2 M2 S2 (e1.trans e2))
/-! lists that are changed -/
theorem wg_subL {to ti : TE} (h : WE K P0 to G M fun so M1 => WE K P0 ti G M1 fun si M2 => ∃ (a : Addr) (ss : List Sv) (z : Int) (j : Nat), so = .rf (.ref a) ∧ si = .va (.int z) ∧ M2 a = some (.lst ss) ∧ ixN ss.length z = some j ∧ nx G (mup M2 a (.lst (ss.set j s)))) :
    WG K P0 (gSub to ti rSetL) s G M nx := fun v σ Hs H S L r Q c =>
  h σ Hs H S L _ fun x Hs1 H1 so M1 S1 e1 r1 h1 => h1 σ Hs1 H1 S1 (slots_mono e1 L) _ fun y Hs2 H2 si M2 S2 e2 r2 ⟨a, ss, z, j, eo, ei, hm, hj, q⟩ => by
    subst eo ei
    have ex : x = .ref a := r1
    subst ex
    cases (show Dq K Hs2 y (.int z) from r2)
    obtain ⟨xs, g1, g2⟩ := S2.own.ob a _ hm
    have hl := reps_length g2
    refine ⟨a, xs, z, j, rfl, rfl, g1, by rw [hl]; exact hj, ?_⟩
    have S3 := S2.write hm (o := .lst (xs.set j v)) (ob := .lst (ss.set j s)) ⟨_, upd_same, reps_set (rep_mono (e1.trans e2) r) j g2⟩
    exact c σ Hs2 _ G _ S3 (e1.trans e2) (slots_mono (e1.trans e2) L) q
theorem ixN_nat {n : Nat} {z : Int} (h0 : 0 ≤ z) (h1 : z < n) : ixN n z = some z.toNat := by
  unfold ixN
  rw [if_pos h0, if_pos h1]
theorem we_append {tr : TA} (h : WE K P0 te G M fun so M1 => ∃ a, so = .rf (.ref a) ∧ (∃ ss, M1 a = some (.lst ss)) ∧ WA K P0 tr G M1 fun as M2 => ∃ (ss : List Sv) (x : Sv), as = [x] ∧ M2 a = some (.lst ss) ∧ ss.length < 100000 ∧ k (.va .none) (mup M2 a (.lst (ss ++ [x])))) :
    WE K P0 (tBM K "list" rAppend te tr) G M k := fun σ Hs H S L Q c =>
  h σ Hs H S L _ fun x Hs1 H1 so M1 S1 e1 r1 ⟨a, es, ⟨ss0, hm0⟩, h1⟩ => by
    subst es
    have ex : x = .ref a := r1
    subst ex
    obtain ⟨xs0, g0, _⟩ := S1.own.ob a _ hm0
    refine ⟨.inl ⟨rfl, xs0, .inl (.inl g0)⟩, ?_⟩
    refine h1 σ Hs1 H1 S1 (slots_mono e1 L) _ fun ys Hs2 H2 as M2 S2 e2 r2 ⟨ss, y, ea, hm, hl, q⟩ => ?_
    subst ea
    obtain ⟨z, rfl, rz⟩ := reps1 r2
    obtain ⟨xs, g1, g2⟩ := S2.own.ob a _ hm
    have hxl := reps_length g2
    refine ⟨a, xs, z, rfl, rfl, g1, Evl.sz_lt (by omega), ?_⟩
    have S3 := S2.write hm (o := .lst (xs ++ [z])) (ob := .lst (ss ++ [y])) ⟨_, upd_same, reps_append g2 (.cons rz .nil)⟩
    exact c .non Hs2 _ (.va .none) _ S3 (e1.trans e2) Dq.non q
/-- list(x) of a list, of a tuple -/
def rListC (K : PySem.W.Frag) : List V → Hp → VK → Prop := fun xs H Q => ∃ p ys, xs = [.ref p] ∧ (SqL K H p ys ∨ SqT K H p ys) ∧ ∀ l, H l = none → Q (.ref l) (upd H l (.lst ys))
theorem call_listA {X : Cx} : CallR X (.type "list") (rListC X.K) := call_list_of
theorem rc_listL {ss : List Sv} (l : RL M s ss) (q : ∀ p, M p = none → k (.rf (.ref p)) (mup M p (.lst ss))) : RCD K P0 (rListC K) [s] M k := fun Hs H xs S r Q c => by
  obtain ⟨x, rfl, r1⟩ := reps1 r
  obtain ⟨a, ys, rfl, h1, h2⟩ := l.at S r1
  refine ⟨a, ys, rfl, .inl (.inl (.inl h1)), fun p hp => ?_⟩
  exact c (.ref p) Hs _ (.rf (.ref p)) _ (S.make hp (ob := .lst ss) ⟨ys, upd_same, h2⟩) (Ex.refl _) rfl (q p (S.own.free hp).1)
theorem rc_listLv {ds : List PyData} (l : RL M s (ds.map Sv.va)) (q : k (.va (.list ds)) M) : RCD K P0 (rListC K) [s] M k := fun Hs H xs S r Q c => by
  obtain ⟨x, rfl, r1⟩ := reps1 r
  obtain ⟨a, ys, rfl, h1, h2⟩ := l.at S r1
  refine ⟨a, ys, rfl, .inl (.inl (.inl h1)), fun p hp => ?_⟩
  obtain ⟨S2, e2⟩ := S.share hp (.lst ys)
  exact c (.ref p) _ _ (.va (.list ds)) M S2 e2 (Dq.lst upd_same (dpAll_mono e2 (dpAll_of_reps h2))) q
theorem dq_ints {ns : List Int} : ∀ {vs : List V}, DqAll K Hs vs (ns.map PyData.int) → vs = ns.map V.int := by
  induction ns with
  | nil => intro vs h; cases h; rfl
  | cons n ns ih =>
    intro vs h
    cases h with
    | cons a b =>
      cases a
      rw [ih b] <;> rfl
/-- sum(xs) of whole numbers -/
theorem rc_sum {ns : List Int} (l : RL M s ((ns.map PyData.int).map Sv.va)) (q : k (.va (.int ns.sum)) M) : RCD K P0 (rSum K) [s] M k := fun Hs H xs S r Q c => by
  obtain ⟨x, rfl, r1⟩ := reps1 r
  obtain ⟨a, ys, rfl, h1, h2⟩ := l.at S r1
  have e := dq_ints (dpAll_of_reps h2)
  subst e
  exact ⟨a, ns, rfl, .inl (.inl h1), c _ Hs H (.va (.int ns.sum)) M S (Ex.refl _) (Dq.int _) q⟩
end
end G91
namespace G91
open PySem PySem.Spec PyProof.Rows L2
open Evl (Ex)
section
variable {K : PySem.W.Frag} {P0 : Ent} {M M0 : Mm} {Hs H : Hp} {G : Gm} {k : Sv → Mm → Prop}
/-- a comprehension that changes no object, its list one's own -/
theorem we_lcPO {wi : TI} {g : TG} {tt : TT} {te : TE} {vs : List Nat} (hg : GOn g vs) (h : WI K P0 wi G M fun n item stay M1 => ∃ f : Nat → Option PyData, n ≤ 99999 ∧ (∀ M', Mext M1 M' → stay M') ∧
    (∀ i M', i < n → Mext M1 M' → WG K P0 g (item i) (wipeG G vs) M' fun G2 M2 => M2 = M' ∧ WT K P0 tt G2 M2 fun b M3 => M3 = M' ∧ (b = true → WE K P0 te G2 M3 fun s M4 => M4 = M' ∧ ∃ d, s = .va d ∧ f i = some d) ∧ (b = false → f i = none)) ∧
    ∀ p, M1 p = none → k (.rf (.ref p)) (mup M1 p (.lst (((List.range n).filterMap f).map Sv.va)))) : WE K P0 (tLc wi g tt te vs) G M k := by
  refine we_lc hg ?_
  intro σ1 Hs1 H1 S1 L1 R c1
  refine h σ1 Hs1 H1 S1 L1 R fun J Hs2 H2 n item stay M1 S2 e2 itd ⟨f, hn, hst, hstep, hk⟩ => ?_
  refine c1 J Hs2 H2 n item stay M1 S2 e2 itd fun p hp => ⟨fun i M' acc => M' = M1 ∧ acc = ((List.range i).filterMap f).map Sv.va, ⟨rfl, rfl⟩, ?_, ?_, ?_⟩
  · rintro i M' acc hi ⟨rfl, rfl⟩
    refine ⟨hst _ (Mext.new hp), hp, ?_⟩
    rw [List.length_map]
    have h1 := List.length_filterMap_le f (List.range i)
    rw [List.length_range] at h1
    omega
  · rintro i M' acc hi ⟨rfl, rfl⟩ v σ3 Hs3 H3 S3 L3 r3 Q3 c3
    refine hstep i _ hi (Mext.new hp) v σ3 Hs3 H3 S3 L3 r3 Q3 fun σ4 Hs4 H4 G4 M4 S4 e4 L4 ⟨em, q⟩ => ?_
    refine c3 σ4 Hs4 H4 G4 M4 S4 e4 L4 ?_
    refine wt_mono q fun b M5 ⟨em5, h1, h2⟩ => ⟨fun hb => we_mono (h1 hb) fun s M6 ⟨em6, d, es, ef⟩ => ⟨M', em6, rfl, ?_⟩, fun hb => ⟨M', em5, rfl, ?_⟩⟩
    · rw [es, List.range_succ, List.filterMap_append, List.map_append]
      simp [ef]
    · rw [List.range_succ, List.filterMap_append]
      simp [h2 hb]
  · rintro M' acc ⟨rfl, rfl⟩
    exact hk p hp
theorem wt_yes {G : Gm} {k : Bool → Mm → Prop} (q : k true M) : WT K P0 tYes G M k := fun σ Hs H S L Q c => c true Hs H M S (Ex.refl _) q
theorem filterMap_all {f : Nat → Option PyData} {g : Nat → PyData} : ∀ {n : Nat}, (∀ i, i < n → f i = some (g i)) → (List.range n).filterMap f = (List.range n).map g
  | 0, _ => rfl
  | n + 1, h => by
    rw [List.range_succ, List.filterMap_append, List.map_append, filterMap_all fun i hi => h i (by omega)]
    simp [h n (by omega)]
/-- all but some objects of M stand in M' -/
def Mex (S : Addr → Prop) (M M' : Mm) : Prop := ∀ a o, M a = some o → ¬ S a → M' a = some o
/-- a constant's tuple -/
theorem we_sh0 {a : Addr} (h : ∀ H : Hp, SqT K H a [.int 0, .int 1]) (q : k (.va (shD 0)) M) : WE K P0 (tC (.ref a)) G M k := we_cd (fun Hs => Dq.tup (h Hs) (.cons (.int 0) (.cons (.int 1) .nil))) q
theorem we_sh1 {a : Addr} (h : ∀ H : Hp, SqT K H a [.int 1, .int 1]) (q : k (.va (shD 1)) M) : WE K P0 (tC (.ref a)) G M k := we_cd (fun Hs => Dq.tup (h Hs) (.cons (.int 1) (.cons (.int 1) .nil))) q
end
end G91
namespace G91
open PySem PySem.Spec PyProof.Rows L2
open Evl (Ex)
section
variable {K : PySem.W.Frag} {P0 : Ent} {M M0 : Mm} {Hs H : Hp} {G : Gm} {k : Sv → Mm → Prop}
/-- a comprehension of data; J: what stands beside the new list at p -/
theorem we_lcF {wi : TI} {g : TG} {tt : TT} {te : TE} {vs : List Nat} (hg : GOn g vs) (h : WI K P0 wi G M fun n item stay M1 => ∀ p, M1 p = none → ∃ J : Nat → Mm → List PyData → Prop, J 0 M1 [] ∧
    (∀ i M' acc, i ≤ n → J i M' acc → stay (mup M' p (.lst (acc.map Sv.va))) ∧ M' p = none ∧ acc.length ≤ 99999) ∧
    (∀ i M' acc, i < n → J i M' acc → WG K P0 g (item i) (wipeG G vs) (mup M' p (.lst (acc.map Sv.va))) fun G2 M2 => WT K P0 tt G2 M2 fun b M3 => (b = true → WE K P0 te G2 M3 fun s M4 => ∃ d M5, s = .va d ∧ M4 = mup M5 p (.lst (acc.map Sv.va)) ∧ J (i + 1) M5 (acc ++ [d])) ∧
      (b = false → ∃ M5, M3 = mup M5 p (.lst (acc.map Sv.va)) ∧ J (i + 1) M5 acc)) ∧ ∀ M' acc, J n M' acc → k (.va (.list acc)) M') : WE K P0 (tLc wi g tt te vs) G M k := by
  refine we_frz (we_lc hg ?_)
  intro σ1 Hs1 H1 S1 L1 R c1
  refine h σ1 Hs1 H1 S1 L1 R fun Jt Hs2 H2 n item stay M1 S2 e2 itd hJ => c1 Jt Hs2 H2 n item stay M1 S2 e2 itd fun p hp => ?_
  obtain ⟨J, j0, jst, jstep, jend⟩ := hJ p hp
  refine ⟨fun i M' acc => ∃ ds : List PyData, acc = ds.map Sv.va ∧ J i M' ds, ⟨[], rfl, j0⟩, ?_, ?_, ?_⟩
  · rintro i M' acc hi ⟨ds, rfl, j⟩
    obtain ⟨a, b, c⟩ := jst i M' ds hi j
    exact ⟨a, b, by rw [List.length_map]; exact c⟩
  · rintro i M' acc hi ⟨ds, rfl, j⟩ v σ3 Hs3 H3 S3 L3 r3 Q3 c3
    refine jstep i M' ds hi j v σ3 Hs3 H3 S3 L3 r3 Q3 fun σ4 Hs4 H4 G4 M4 S4 e4 L4 q => ?_
    refine c3 σ4 Hs4 H4 G4 M4 S4 e4 L4 ?_
    refine wt_mono q fun b M5 ⟨h1, h2⟩ => ⟨fun hb => we_mono (h1 hb) fun s M6 ⟨d, M7, es, em, j7⟩ => ⟨M7, em, ds ++ [d], by rw [es, List.map_append]; rfl, j7⟩, fun hb => ?_⟩
    obtain ⟨M7, em, j7⟩ := h2 hb
    exact ⟨M7, em, ds, rfl, j7⟩
  · rintro M' acc ⟨ds, rfl, j⟩
    obtain ⟨_, b, _⟩ := jst n M' ds (Nat.le_refl n) j
    exact ⟨M', _, fun a o e => by rw [mup_ne (mne e b)]; exact e, .lst mup_same b (deepFs_va _), jend M' ds j⟩
end
end G91

/-! Fw9: dicts at data. -/
namespace G91
open PySem PySem.Spec PyProof.Rows L2
open Evl (Ex)
open He (ga ma fAd)
section
variable {κ : Type} [DecidableEq κ]
def valS (kvs : List (κ × Sv)) (k : κ) : Option Sv := (kvs.find? fun kv => decide (kv.1 = k)).map (·.2)
def putSK (kvs : List (κ × Sv)) (k : κ) (v : Sv) : List (κ × Sv) :=
  if (kvs.any fun kv => decide (kv.1 = k)) = true then kvs.map (fun kv => if kv.1 = k then (kv.1, v) else kv) else kvs ++ [(k, v)]
abbrev DPr (K : PySem.W.Frag) (Hs : Hp) : List (κ × V) → List (κ × Sv) → Prop := Paired (fun (p : κ × V) (q : κ × Sv) => p.1 = q.1 ∧ Rep K Hs p.2 q.2)
variable {K : PySem.W.Frag} {Hs : Hp}
theorem dp_val {k : κ} : ∀ {ks : List (κ × V)} {kvs : List (κ × Sv)}, DPr K Hs ks kvs → match valS kvs k with
    | some t => ∃ v, valV ks k = some v ∧ Rep K Hs v t
    | none => valV ks k = none
  | _, _, .nil => rfl
  | (g, u) :: gs, (g', u') :: fs, .cons r q => by
    obtain ⟨e, r⟩ := r
    have e : g = g' := e
    subst e
    have ih := dp_val (k := k) q
    unfold valS valV at ih ⊢
    rw [List.find?_cons, List.find?_cons]
    by_cases c : g = k
    · have c2 : decide ((g, u').1 = k) = true := decide_eq_true c
      have c3 : decide ((g, u).1 = k) = true := decide_eq_true c
      rw [c2]
      exact ⟨u, rfl, r⟩
    · have c2 : decide ((g, u').1 = k) = false := decide_eq_false c
      have c3 : decide ((g, u).1 = k) = false := decide_eq_false c
      rw [c2]
      exact ih
theorem dp_val_some {k : κ} {ks : List (κ × V)} {kvs : List (κ × Sv)} {t : Sv} (h : DPr K Hs ks kvs) (e : valS kvs k = some t) : ∃ v, valV ks k = some v ∧ Rep K Hs v t := by
  have := dp_val (k := k) h
  rw [e] at this
  exact this
theorem dp_val_none {k : κ} {ks : List (κ × V)} {kvs : List (κ × Sv)} (h : DPr K Hs ks kvs) (e : valS kvs k = none) : valV ks k = none := by
  have := dp_val (k := k) h
  rw [e] at this
  exact this
theorem dp_any {k : κ} : ∀ {ks : List (κ × V)} {kvs : List (κ × Sv)}, DPr K Hs ks kvs → (ks.any fun kv => decide (kv.1 = k)) = kvs.any fun kv => decide (kv.1 = k)
  | _, _, .nil => rfl
  | (g, u) :: gs, (g', u') :: fs, .cons r q => by
    have e : g = g' := r.1
    subst e
    rw [List.any_cons, List.any_cons, dp_any q]
theorem dp_map {k : κ} {v : V} {t : Sv} (rv : Rep K Hs v t) : ∀ {ks : List (κ × V)} {kvs : List (κ × Sv)}, DPr K Hs ks kvs → DPr K Hs (ks.map fun kv => if kv.1 = k then (kv.1, v) else kv) (kvs.map fun kv => if kv.1 = k then (kv.1, t) else kv)
  | _, _, .nil => .nil
  | (g, u) :: gs, (g', u') :: fs, .cons r q => by
    obtain ⟨e, r⟩ := r
    have e : g = g' := e
    subst e
    refine .cons ?_ (dp_map rv q)
    by_cases c : g = k
    · show (if g = k then (g, v) else (g, u)).1 = (if g = k then (g, t) else (g, u')).1 ∧ Rep K Hs (if g = k then (g, v) else (g, u)).2 (if g = k then (g, t) else (g, u')).2
      rw [if_pos c, if_pos c]
      exact ⟨rfl, rv⟩
    · show (if g = k then (g, v) else (g, u)).1 = (if g = k then (g, t) else (g, u')).1 ∧ Rep K Hs (if g = k then (g, v) else (g, u)).2 (if g = k then (g, t) else (g, u')).2
      rw [if_neg c, if_neg c]
      exact ⟨rfl, r⟩
theorem dp_app : ∀ {as bs : List (κ × V)} {cs ds : List (κ × Sv)}, DPr K Hs as cs → DPr K Hs bs ds → DPr K Hs (as ++ bs) (cs ++ ds)
  | _, _, _, _, .nil, h => h
  | _, _, _, _, .cons a b, h => .cons a (dp_app b h)
theorem dp_put {k : κ} {v : V} {t : Sv} (rv : Rep K Hs v t) {ks : List (κ × V)} {kvs : List (κ × Sv)} (h : DPr K Hs ks kvs) : DPr K Hs (putK ks k v) (putSK kvs k t) := by
  unfold putK putSK
  rw [dp_any h]
  split
  · exact dp_map rv h
  · exact dp_app h (.cons ⟨rfl, rv⟩ .nil)
theorem dp_len {ks : List (κ × V)} {kvs : List (κ × Sv)} (h : DPr K Hs ks kvs) : ks.length = kvs.length := Paired.length h
end
/-- a dict's key as data -/
def kS : Key → PyData
  | .inl i => .int i
  | .inr x => .str x
theorem dq_kS {K : PySem.W.Frag} {Hs : Hp} (k : Key) : Dq K Hs (kV k) (kS k) := by
  cases k with
  | inl i => exact .int i
  | inr x => exact .str x
theorem kS_inv {K : PySem.W.Frag} {Hs : Hp} {v : V} {k : Key} (h : Dq K Hs v (kS k)) : v = kV k := by
  cases k with
  | inl i => cases (show Dq K Hs v (.int i) from h); rfl
  | inr x => cases (show Dq K Hs v (.str x) from h); rfl
theorem kS_all {K : PySem.W.Frag} {Hs : Hp} : ∀ {ks : List Key} {vs : List V}, Reps K Hs vs (ks.map fun k => .va (kS k)) → vs = ks.map kV
  | [], _, .nil => rfl
  | k :: ks, _, .cons a b => by
    have := kS_inv (show Dq K Hs _ (kS k) from a)
    rw [kS_all b, this] <;> rfl
/-- a dict that can be read -/
inductive RK (M : Mm) (a : Addr) (kvs : List (Key × Sv)) : Prop
  | d : M a = some (.dK kvs) → RK M a kvs
  | k {od : Obj} {ks : List (Key × V)} : M a = some (.kK od ks kvs) → RK M a kvs
section
variable {K : PySem.W.Frag} {P0 : Ent} {M M0 : Mm} {Hs H : Hp} {G : Gm} {k : Sv → Mm → Prop} {td ty tv tx te : TE} {nx : Gm → Mm → Prop} {rt : Sv → Mm → Prop} {bk ct : Gm → Mm → Prop} {t : TS} {s : Sv}
theorem RK.at {a : Addr} {kvs : List (Key × Sv)} (S : St0 K P0 M Hs H) (r : RK M a kvs) : ∃ ks, Rd H a (.dK ks) ∧ DPr K Hs ks kvs := by
  cases r with
  | d h =>
    obtain ⟨ks, h1, h2⟩ := S.own.ob _ _ h
    exact ⟨ks, .inl h1, h2⟩
  | k h =>
    obtain ⟨h1, h2⟩ := S.own.ob _ _ h
    exact ⟨_, .inr ⟨_, h1⟩, h2⟩
theorem we_dnewK (h : ∀ p, M p = none → k (.rf (.ref p)) (mup M p (.dK []))) : WE K P0 tDNewK G M k := fun σ Hs H S L Q c => fun p hp =>
  c (.ref p) Hs _ (.rf (.ref p)) _ (S.make hp (ob := .dK []) ⟨[], upd_same, .nil⟩) (Ex.refl _) rfl (h p (S.own.free hp).1)
/-- d[y] -/
theorem we_dgetK (h : WE K P0 td G M fun so M1 => WE K P0 ty G M1 fun sy M2 => ∃ a kvs j u, so = .rf (.ref a) ∧ sy = .va (kS j) ∧ RK M2 a kvs ∧ valS kvs j = some u ∧ k u M2) : WE K P0 (tDGet td ty) G M k := fun σ Hs H S L Q c =>
  h σ Hs H S L _ fun x Hs1 H1 so M1 S1 e1 r1 h1 => h1 σ Hs1 H1 S1 (slots_mono e1 L) _ fun y Hs2 H2 sy M2 S2 e2 r2 ⟨a, kvs, j, u, eo, ey, hr, hv, q⟩ => by
    subst eo ey
    have ex : x = .ref a := r1
    have ey := kS_inv (show Dq K Hs2 y (kS j) from r2)
    subst ex ey
    obtain ⟨ks, d1, d2⟩ := hr.at S2
    obtain ⟨v, g1, g2⟩ := dp_val_some d2 hv
    exact ⟨a, v, rfl, .inl ⟨ks, j, d1, rfl, g1.symm⟩, c v Hs2 H2 u M2 S2 (e1.trans e2) g2 q⟩
theorem we_din (h : WE K P0 ty G M fun sy M1 => WE K P0 td G M1 fun so M2 => ∃ a kvs j, so = .rf (.ref a) ∧ sy = .va (kS j) ∧ RK M2 a kvs ∧ k (.va (.bool (valS kvs j).isSome)) M2) : WE K P0 (tDIn ty td) G M k := fun σ Hs H S L Q c =>
  h σ Hs H S L _ fun y Hs1 H1 sy M1 S1 e1 r1 h1 => h1 σ Hs1 H1 S1 (slots_mono e1 L) _ fun x Hs2 H2 so M2 S2 e2 r2 ⟨a, kvs, j, eo, ey, hr, q⟩ => by
    subst eo ey
    have ex : x = .ref a := r2
    have ey := kS_inv (show Dq K Hs1 y (kS j) from r1)
    subst ex ey
    obtain ⟨ks, d1, d2⟩ := hr.at S2
    have d3 := dp_val (k := j) d2
    refine ⟨a, valV ks j, rfl, .inl ⟨ks, j, d1, rfl, rfl⟩, ?_⟩
    have e3 : (valV ks j).isSome = (valS kvs j).isSome := by
      cases e : valS kvs j with
      | none => rw [e] at d3; rw [d3] <;> rfl
      | some u => rw [e] at d3; obtain ⟨v, g1, _⟩ := d3; rw [g1] <;> rfl
    rw [e3]
    exact c _ Hs2 H2 (.va (.bool _)) M2 S2 (e1.trans e2) (Dq.bl _) q
theorem we_dnotin (h : WE K P0 ty G M fun sy M1 => WE K P0 td G M1 fun so M2 => ∃ a kvs j, so = .rf (.ref a) ∧ sy = .va (kS j) ∧ RK M2 a kvs ∧ k (.va (.bool (!(valS kvs j).isSome))) M2) : WE K P0 (tDNotIn ty td) G M k := fun σ Hs H S L Q c =>
  h σ Hs H S L _ fun y Hs1 H1 sy M1 S1 e1 r1 h1 => h1 σ Hs1 H1 S1 (slots_mono e1 L) _ fun x Hs2 H2 so M2 S2 e2 r2 ⟨a, kvs, j, eo, ey, hr, q⟩ => by
    subst eo ey
    have ex : x = .ref a := r2
    have ey := kS_inv (show Dq K Hs1 y (kS j) from r1)
    subst ex ey
    obtain ⟨ks, d1, d2⟩ := hr.at S2
    have d3 := dp_val (k := j) d2
    refine ⟨a, valV ks j, rfl, .inl ⟨ks, j, d1, rfl, rfl⟩, ?_⟩
    have e3 : (valV ks j).isSome = (valS kvs j).isSome := by
      cases e : valS kvs j with
      | none => rw [e] at d3; rw [d3] <;> rfl
      | some u => rw [e] at d3; obtain ⟨v, g1, _⟩ := d3; rw [g1] <;> rfl
    rw [e3]
    exact c _ Hs2 H2 (.va (.bool _)) M2 S2 (e1.trans e2) (Dq.bl _) q
/-- d[y] = v -/
theorem ws_dputK (h : WE K P0 tv G M fun s M1 => WE K P0 td G M1 fun so M2 => WE K P0 ty G M2 fun sy M3 => ∃ a kvs j, so = .rf (.ref a) ∧ sy = .va (kS j) ∧ M3 a = some (.dK kvs) ∧ kvs.length < 100000 ∧ nx G (mup M3 a (.dK (putSK kvs j s)))) :
    WS K P0 (sDPut td ty tv) G M nx rt bk ct := fun σ Hs H S L D dn dr db dc =>
  h σ Hs H S L _ fun v Hs1 H1 s M1 S1 e1 r1 h1 => h1 σ Hs1 H1 S1 (slots_mono e1 L) _ fun x Hs2 H2 so M2 S2 e2 r2 h2 => h2 σ Hs2 H2 S2 (slots_mono (e1.trans e2) L) _ fun y Hs3 H3 sy M3 S3 e3 r3 ⟨a, kvs, j, eo, ey, hm, hl, q⟩ => by
    subst eo ey
    have ex : x = .ref a := r2
    have ey := kS_inv (show Dq K Hs3 y (kS j) from r3)
    subst ex ey
    obtain ⟨ks, d1, d2⟩ := S3.own.ob _ _ hm
    have hl2 := dp_len d2
    refine ⟨a, _, rfl, .inl ⟨ks, j, d1, rfl, Evl.sz_lt (by omega), rfl⟩, ?_⟩
    have S4 := S3.write hm (o := .dK (putK ks j v)) (ob := .dK (putSK kvs j s)) ⟨_, upd_same, dp_put (rep_mono (e2.trans e3) r1) d2⟩
    exact dn σ Hs3 _ G _ S4 ((e1.trans e2).trans e3) (slots_mono ((e1.trans e2).trans e3) L) q
/-- d.get(y, z) -/
theorem we_dget2 (h : WE K P0 td G M fun so M1 => ∃ a kvs0, so = .rf (.ref a) ∧ RK M1 a kvs0 ∧ WE K P0 ty G M1 fun sy M2 => WE K P0 tx G M2 fun sz M3 => ∃ kvs j, sy = .va (kS j) ∧ RK M3 a kvs ∧ k ((valS kvs j).getD sz) M3) :
    WE K P0 (tDGet2 td ty tx) G M k := fun σ Hs H S L Q c =>
  h σ Hs H S L _ fun x Hs1 H1 so M1 S1 e1 r1 ⟨a, kvs0, eo, hr0, h1⟩ => by
    subst eo
    have ex : x = .ref a := r1
    subst ex
    obtain ⟨ks0, d0, _⟩ := hr0.at S1
    refine ⟨a, rfl, .inl ⟨ks0, d0⟩, ?_⟩
    refine h1 σ Hs1 H1 S1 (slots_mono e1 L) _ fun y Hs2 H2 sy M2 S2 e2 r2 h2 => h2 σ Hs2 H2 S2 (slots_mono (e1.trans e2) L) _ fun z Hs3 H3 sz M3 S3 e3 r3 ⟨kvs, j, ey, hr, q⟩ => ?_
    subst ey
    have ey := kS_inv (show Dq K Hs2 y (kS j) from r2)
    subst ey
    obtain ⟨ks, d1, d2⟩ := hr.at S3
    have d3 := dp_val (k := j) d2
    refine ⟨valV ks j, .inl ⟨ks, j, d1, rfl, rfl⟩, ?_⟩
    have e13 := (e1.trans e2).trans e3
    cases e : valS kvs j with
    | none =>
      rw [e] at d3 q
      rw [d3]
      exact c z Hs3 H3 sz M3 S3 e13 r3 q
    | some u =>
      rw [e] at d3 q
      obtain ⟨v, g1, g2⟩ := d3
      rw [g1]
      exact c v Hs3 H3 u M3 S3 e13 g2 q
/-! a dict walked: it is locked -/
theorem ws_lock {a : Addr} {kvs : List (Key × Sv)} (hm : M a = some (.dK kvs)) (h : ∀ od ks, WS K P0 t G (mup M a (.kK od ks kvs)) (fun G' M' => M' a = some (.kK od ks kvs) ∧ nx G' (mup M' a (.dK kvs))) (fun s M' => M' a = some (.kK od ks kvs) ∧ rt s (mup M' a (.dK kvs)))
    (fun G' M' => M' a = some (.kK od ks kvs) ∧ bk G' (mup M' a (.dK kvs))) (fun G' M' => M' a = some (.kK od ks kvs) ∧ ct G' (mup M' a (.dK kvs)))) : WS K P0 (tLock t) G M nx rt bk ct := fun σ Hs H S L D dn dr db dc => by
  obtain ⟨ks, h1, h2⟩ := S.own.ob a _ hm
  refine ⟨a, .dK ks, h1, trivial, fun od => ?_⟩
  have S1 := S.write hm (o := .frz od (.dK ks)) (ob := .kK od ks kvs) ⟨upd_same, h2⟩
  have un : ∀ {M' : Mm} {Hs' H' : Hp}, St0 K P0 M' Hs' H' → Ex Hs Hs' → M' a = some (.kK od ks kvs) → H' a = some (.frz od (.dK ks)) ∧ St0 K P0 (mup M' a (.dK kvs)) Hs' (upd H' a (.dK ks)) := fun {M' Hs' H'} S' e' hk => by
    obtain ⟨g1, g2⟩ := S'.own.ob a _ hk
    exact ⟨g1, S'.write hk (o := .dK ks) (ob := .dK kvs) ⟨ks, upd_same, g2⟩⟩
  exact h od ks σ Hs _ S1 L _ (fun σ2 Hs2 H2 G2 M2 S2 e2 L2 ⟨q1, q2⟩ => let ⟨g1, g2⟩ := un S2 e2 q1; ⟨g1, dn σ2 Hs2 _ G2 _ g2 e2 L2 q2⟩) (fun v Hs2 H2 s M2 S2 e2 r ⟨q1, q2⟩ => let ⟨g1, g2⟩ := un S2 e2 q1; ⟨g1, dr v Hs2 _ s _ g2 e2 r q2⟩)
    (fun σ2 Hs2 H2 G2 M2 S2 e2 L2 ⟨q1, q2⟩ => let ⟨g1, g2⟩ := un S2 e2 q1; ⟨g1, db σ2 Hs2 _ G2 _ g2 e2 L2 q2⟩) (fun σ2 Hs2 H2 G2 M2 S2 e2 L2 ⟨q1, q2⟩ => let ⟨g1, g2⟩ := un S2 e2 q1; ⟨g1, dc σ2 Hs2 _ G2 _ g2 e2 L2 q2⟩)
theorem we_lockE {a : Addr} {kvs : List (Key × Sv)} (hm : M a = some (.dK kvs)) (h : ∀ od ks, WE K P0 te G (mup M a (.kK od ks kvs)) fun s M' => M' a = some (.kK od ks kvs) ∧ k s (mup M' a (.dK kvs))) : WE K P0 (tLockE te) G M k := fun σ Hs H S L Q c => by
  obtain ⟨ks, h1, h2⟩ := S.own.ob a _ hm
  refine ⟨a, .dK ks, h1, trivial, fun od => ?_⟩
  have S1 := S.write hm (o := .frz od (.dK ks)) (ob := .kK od ks kvs) ⟨upd_same, h2⟩
  exact h od ks σ Hs _ S1 L _ fun v Hs2 H2 s M2 S2 e2 r ⟨q1, q2⟩ => by
    obtain ⟨g1, g2⟩ := S2.own.ob a _ q1
    exact ⟨g1, c v Hs2 _ s _ (S2.write q1 (o := .dK ks) (ob := .dK kvs) ⟨ks, upd_same, g2⟩) e2 r q2⟩
theorem wi_keys {kk : Nat → (Nat → Sv) → (Mm → Prop) → Mm → Prop} (h : WE K P0 td G M fun s M1 => ∃ a od ks kvs, s = .rf (.ref a) ∧ M1 a = some (.kK od ks kvs) ∧ kk kvs.length (fun i => .va (kS (kvs.getD i (.inl 0, .va .none)).1)) (fun M' => M' a = some (.kK od ks kvs)) M1) : WI K P0 (iKeys td) G M kk := fun σ Hs H S L R c =>
  h σ Hs H S L _ fun x Hs1 H1 s M1 S1 e1 r1 ⟨a, od, ks, kvs, es, hm, q⟩ => by
    subst es
    have ex : x = .ref a := r1
    subst ex
    obtain ⟨g1, g2⟩ := S1.own.ob a _ hm
    refine ⟨a, od, rfl, .inl ⟨ks, g1, c (Itk a od ks) Hs1 H1 kvs.length _ _ M1 S1 e1 (fun Hs2 M2 H2 S2 e2 st => ?_) q⟩⟩
    obtain ⟨f1, f2⟩ := S2.own.ob a _ st
    have hl := dp_len f2
    refine ⟨fun i hi => ⟨⟨f1, by omega⟩, fun x H' ⟨eH, j, v, hj, ex⟩ => ?_⟩, f1, by omega⟩
    subst eH
    subst ex
    refine ⟨Hs2, S2, Ex.refl _, ?_⟩
    have hk : (kvs.getD i (.inl 0, .va .none)).1 = j := by
      rw [List.getD_eq_getElem?_getD, List.getElem?_eq_getElem hi]
      have : ∀ {ks : List (Key × V)} {kvs : List (Key × Sv)} {i : Nat}, DPr K Hs2 ks kvs → ∀ (hi : i < kvs.length) {p : Key × V}, ks[i]? = some p → kvs[i].1 = p.1 := by
        intro ks kvs i hd
        induction hd generalizing i with
        | nil => intro hi; simp at hi
        | cons r t ih =>
          intro hi p hp
          cases i with
          | zero =>
            simp at hp
            subst hp
            exact r.1.symm
          | succ i => exact ih (by simpa using hi) (by simpa using hp)
      exact this f2 hi hj
    rw [hk]
    exact dq_kS j
/-- list(d) -/
def rListK : List V → Hp → VK → Prop := fun xs H Q => ∃ (a : Addr) (kvs : List (Key × V)), xs = [.ref a] ∧ Rd H a (.dK kvs) ∧ ∀ p, H p = none → Q (.ref p) (upd H p (.lst (kvs.map fun kv => kV kv.1)))
theorem call_listK {X : Cx} (hc : X.calm = true) : CallR X (.type "list") rListK := call_listD hc
theorem dq_keys : ∀ {ks : List (Key × V)} {kvs : List (Key × Sv)}, DPr K Hs ks kvs → DqAll K Hs (ks.map fun kv => kV kv.1) (kvs.map fun kv => kS kv.1)
  | _, _, .nil => .nil
  | (g, u) :: gs, (g', u') :: fs, .cons r q => by
    have e : g = g' := r.1
    subst e
    exact .cons (dq_kS g) (dq_keys q)
theorem rc_listK {a : Addr} {kvs : List (Key × Sv)} (hr : RK M a kvs) (q : k (.va (.list (kvs.map fun kv => kS kv.1))) M) : RCD K P0 rListK [.rf (.ref a)] M k := fun Hs H xs S r Q c => by
  obtain ⟨x, rfl, r1⟩ := reps1 r
  have r1 : x = .ref a := r1
  subst r1
  obtain ⟨ks, d1, d2⟩ := hr.at S
  refine ⟨a, ks, rfl, d1, fun p hp => ?_⟩
  obtain ⟨S2, e2⟩ := S.share hp (.lst (ks.map fun kv => kV kv.1))
  exact c (.ref p) _ _ (.va (.list _)) M S2 e2 (Dq.lst upd_same (dpAll_mono e2 (dq_keys d2))) q
theorem rc_listKo {a : Addr} {kvs : List (Key × Sv)} (hr : RK M a kvs) (q : ∀ p, M p = none → k (.rf (.ref p)) (mup M p (.lst ((kvs.map fun kv => kS kv.1).map Sv.va)))) : RCD K P0 rListK [.rf (.ref a)] M k := fun Hs H xs S r Q c => by
  obtain ⟨x, rfl, r1⟩ := reps1 r
  have r1 : x = .ref a := r1
  subst r1
  obtain ⟨ks, d1, d2⟩ := hr.at S
  refine ⟨a, ks, rfl, d1, fun p hp => ?_⟩
  exact c (.ref p) Hs _ (.rf (.ref p)) _ (S.make hp (ob := .lst _) ⟨_, upd_same, reps_of_dpAll (dq_keys d2)⟩) (Ex.refl _) rfl (q p (S.own.free hp).1)
/-- len(d) -/
def rLenKD : List V → Hp → VK → Prop := fun xs H Q => ∃ a kvs, xs = [V.ref a] ∧ H a = some (.dK kvs) ∧ Q (.int kvs.length) H
theorem call_lenKD {X : Cx} : CallR X (.builtin "len") rLenKD := call_lenD
theorem rc_lenKD {a : Addr} {kvs : List (Key × Sv)} (hm : M a = some (.dK kvs)) (q : k (.va (.int kvs.length)) M) : RCD K P0 rLenKD [.rf (.ref a)] M k := fun Hs H xs S r Q c => by
  obtain ⟨x, rfl, r1⟩ := reps1 r
  have r1 : x = .ref a := r1
  subst r1
  obtain ⟨ks, d1, d2⟩ := S.own.ob _ _ hm
  refine ⟨a, ks, rfl, d1, ?_⟩
  rw [dp_len d2]
  exact c _ Hs H (.va (.int _)) M S (Ex.refl _) (Dq.int _) q
end
end G91
namespace G91
open PySem PySem.Spec PyProof.Rows L2
open Evl (Ex)
section
variable (K : PySem.W.Frag) (P0 : Ent)
def WO (to : TO) (G : Gm) (M : Mm) (k : Option Int → Mm → Prop) : Prop := ∀ σ Hs H, St0 K P0 M Hs H → Slots K Hs σ G → ∀ Q : Option Int → Hp → Prop,
  (∀ o Hs' H' M', St0 K P0 M' Hs' H' → Ex Hs Hs' → k o M' → Q o H') → to σ H Q
def RSD (r : V → Option Int → Option Int → Hp → VK → Prop) (s : Sv) (lo hi : Option Int) (M : Mm) (k : Sv → Mm → Prop) : Prop := ∀ Hs H x, St0 K P0 M Hs H → Rep K Hs x s → ∀ Q : VK,
  (∀ v Hs' H' t M', St0 K P0 M' Hs' H' → Ex Hs Hs' → Rep K Hs' v t → k t M' → Q v H') → r x lo hi H Q
end
def cutG {α : Type} (xs : List α) (lo hi : Option Int) : List α := (xs.drop (HT.sIx xs.length 0 lo)).take (HT.sIx xs.length xs.length hi - HT.sIx xs.length 0 lo)
/-- x[lo:hi] of a list, a tuple, a text -/
def rSlX (K : PySem.W.Frag) : V → Option Int → Option Int → Hp → VK → Prop := fun x lo hi H Q => rSlL K x lo hi H Q ∨ (rSlA K x lo hi H Q ∨ rSlS x lo hi H Q)
theorem sl_X {X : Cx} : SlR X (rSlX X.K) := SlR.or sl_list (SlR.or sl_tupA sl_str)
section
variable {K : PySem.W.Frag} {P0 : Ent} {M M0 : Mm} {Hs H : Hp} {G : Gm} {k : Sv → Mm → Prop} {te ta tb tc : TE} {s : Sv}
theorem wo_none {k : Option Int → Mm → Prop} (q : k none M) : WO K P0 tNoPart G M k := fun σ Hs H S L Q c => c none Hs H M S (Ex.refl _) q
theorem wo_part {k : Option Int → Mm → Prop} (h : WE K P0 te G M fun s M1 => ∃ i, s = .va (.int i) ∧ k (some i) M1) : WO K P0 (tPart te) G M k := fun σ Hs H S L Q c =>
  h σ Hs H S L _ fun x Hs1 H1 s M1 S1 e1 r1 ⟨i, es, q⟩ => by
    subst es
    cases (show Dq K Hs1 x (.int i) from r1)
    exact ⟨i, rfl, c (some i) Hs1 H1 M1 S1 e1 q⟩
theorem we_sl {r : V → Option Int → Option Int → Hp → VK → Prop} {tl th : TO} (h : WE K P0 te G M fun s M1 => WO K P0 tl G M1 fun lo M2 => WO K P0 th G M2 fun hi M3 => RSD K P0 r s lo hi M3 k) : WE K P0 (tSl r te tl th) G M k := fun σ Hs H S L Q c =>
  h σ Hs H S L _ fun x Hs1 H1 s M1 S1 e1 r1 h1 => h1 σ Hs1 H1 S1 (slots_mono e1 L) _ fun lo Hs2 H2 M2 S2 e2 h2 => h2 σ Hs2 H2 S2 (slots_mono (e1.trans e2) L) _ fun hi Hs3 H3 M3 S3 e3 h3 =>
    h3 Hs3 H3 x S3 (rep_mono (e2.trans e3) r1) Q fun v Hs4 H4 t M4 S4 e4 r4 q => c v Hs4 H4 t M4 S4 ((e1.trans e2).trans (e3.trans e4)) r4 q
theorem dqAll_cut {xs : List V} {ds : List PyData} (h : DqAll K Hs xs ds) (lo hi : Option Int) : DqAll K Hs (cutV xs lo hi) (cutG ds lo hi) := by
  unfold cutV cutG
  rw [dpAll_length h]
  exact dpAll_take _ (dpAll_drop _ h)
theorem rs_T {ds : List PyData} {lo hi : Option Int} (q : k (.va (.tuple (cutG ds lo hi))) M) : RSD K P0 (rSlX K) (.va (.tuple ds)) lo hi M k := fun Hs H x S r Q c => by
  obtain ⟨a, xs, rfl, h1, h2⟩ := dp_tup_inv r
  have hl := dpAll_length h2
  refine .inr (.inl ⟨a, xs, rfl, Evl.ex_t S.own.ex h1, fun ⟨z1, z2⟩ => ?_, fun _ p hp => ?_⟩)
  · have e : cutG ds lo hi = ds := by
      unfold cutG
      rw [← hl, z1, z2, List.drop_zero, Nat.sub_zero, hl, List.take_length]
    rw [e] at q
    exact c (.ref a) Hs H (.va (.tuple ds)) M S (Ex.refl _) (Dq.tup h1 h2) q
  · obtain ⟨S2, e2⟩ := S.share hp (.tup (cutV xs lo hi))
    exact c (.ref p) _ _ (.va (.tuple _)) M S2 e2 (Dq.tup (Evl.st_of upd_same) (dpAll_mono e2 (dqAll_cut h2 lo hi))) q
theorem rs_Lv {ds : List PyData} {lo hi : Option Int} (l : RL M s (ds.map Sv.va)) (q : k (.va (.list (cutG ds lo hi))) M) : RSD K P0 (rSlX K) s lo hi M k := fun Hs H x S r Q c => by
  obtain ⟨a, xs, rfl, h1, h2⟩ := l.at S r
  have d2 := dpAll_of_reps h2
  refine .inl ⟨a, xs, rfl, .inl (.inl h1), fun p hp => ?_⟩
  obtain ⟨S2, e2⟩ := S.share hp (.lst (cutV xs lo hi))
  exact c (.ref p) _ _ (.va (.list _)) M S2 e2 (Dq.lst upd_same (dpAll_mono e2 (dqAll_cut d2 lo hi))) q
theorem rs_L {ds : List PyData} {lo hi : Option Int} (l : RL M s (ds.map Sv.va)) (q : ∀ p, M p = none → k (.rf (.ref p)) (mup M p (.lst ((cutG ds lo hi).map Sv.va)))) : RSD K P0 (rSlX K) s lo hi M k := fun Hs H x S r Q c => by
  obtain ⟨a, xs, rfl, h1, h2⟩ := l.at S r
  have d2 := dpAll_of_reps h2
  refine .inl ⟨a, xs, rfl, .inl (.inl h1), fun p hp => ?_⟩
  exact c (.ref p) Hs _ (.rf (.ref p)) _ (S.make hp (ob := .lst _) ⟨_, upd_same, reps_of_dpAll (dqAll_cut d2 lo hi)⟩) (Ex.refl _) rfl (q p (S.own.free hp).1)
theorem rs_S {z : Str} {lo hi : Option Int} (hl : z.length ≤ 100000) (q : k (.va (.str (cutS z lo hi))) M) : RSD K P0 (rSlX K) (.va (.str z)) lo hi M k := fun Hs H x S r Q c => by
  cases (show Dq K Hs x (.str z) from r)
  exact .inr (.inr ⟨z, rfl, Evl.sz_of hl, c _ Hs H (.va (.str _)) M S (Ex.refl _) (Dq.str _) q⟩)
/-- a < b < c -/
theorem we_chain {r r' : R2} (h : WE K P0 ta G M fun s M1 => WE K P0 tb G M1 fun s' M2 => R2D K P0 r s s' M2 fun z M3 => ∃ b, z = .va (.bool b) ∧ (b = true → WE K P0 tc G M3 fun s'' M4 => R2D K P0 r' s' s'' M4 k) ∧ (b = false → k (.va (.bool false)) M3)) : WE K P0 (tChain r r' ta tb tc) G M k := fun σ Hs H S L Q c =>
  h σ Hs H S L _ fun x Hs1 H1 s M1 S1 e1 r1 h1 => h1 σ Hs1 H1 S1 (slots_mono e1 L) _ fun y Hs2 H2 s' M2 S2 e2 r2 h2 => h2 Hs2 H2 x y S2 (rep_mono e2 r1) r2 _ fun v Hs3 H3 z M3 S3 e3 r3 ⟨b, ez, q1, q2⟩ => by
    subst ez
    cases (show Dq K Hs3 v (.bool b) from r3)
    refine ⟨b, rfl, ?_⟩
    have e13 := (e1.trans e2).trans e3
    cases b with
    | true =>
      rw [if_pos rfl]
      exact q1 rfl σ Hs3 H3 S3 (slots_mono e13 L) _ fun w' Hs4 H4 s'' M4 S4 e4 r4 h4 => h4 Hs4 H4 y w' S4 (rep_mono (e3.trans e4) r2) r4 Q fun v Hs5 H5 t M5 S5 e5 r5 q => c v Hs5 H5 t M5 S5 (e13.trans (e4.trans e5)) r5 q
    | false =>
      rw [if_neg (by decide)]
      exact c (.bl false) Hs3 H3 (.va (.bool false)) M3 S3 e13 (Dq.bl false) (q2 rfl)
theorem r2_notInSg {c : Nat} {z : Str} (q : k (.va (.bool (!decide (c ∈ z.cps.toList)))) M) : R2D K P0 (rNotInB K) (.va (.str ⟨#[c]⟩)) (.va (.str z)) M k := r2_l fun Hs H x y S r1 r2 Q cc => by
  cases (show Dq K Hs x (.str ⟨#[c]⟩) from r1)
  cases (show Dq K Hs y (.str z) from r2)
  exact ⟨c, z, rfl, rfl, cc _ Hs H (.va (.bool _)) M S (Ex.refl _) (Dq.bl _) q⟩
theorem r2_inSg {c : Nat} {z : Str} (q : k (.va (.bool (decide (c ∈ z.cps.toList)))) M) : R2D K P0 (rInB K) (.va (.str ⟨#[c]⟩)) (.va (.str z)) M k := r2_l fun Hs H x y S r1 r2 Q cc => by
  cases (show Dq K Hs x (.str ⟨#[c]⟩) from r1)
  cases (show Dq K Hs y (.str z) from r2)
  exact ⟨c, z, rfl, rfl, cc _ Hs H (.va (.bool _)) M S (Ex.refl _) (Dq.bl _) q⟩
theorem r2_inB {s s' : Sv} {d : PyData} {ds : List PyData} (h1 : DR M s d) (h2 : DR M s' (.list ds)) (sd : SeqAt.shaped d = true) (se : SeqAt.shaped (.list ds) = true) (q : k (.va (.bool (ds.any fun z => PyData.eqv z d))) M) : R2D K P0 (rInB K) s s' M k := r2_r (r2_in h1 h2 sd se q)
theorem r2_notInB {s s' : Sv} {d : PyData} {ds : List PyData} (h1 : DR M s d) (h2 : DR M s' (.list ds)) (sd : SeqAt.shaped d = true) (se : SeqAt.shaped (.list ds) = true) (q : k (.va (.bool (!ds.any fun z => PyData.eqv z d))) M) : R2D K P0 (rNotInB K) s s' M k := r2_r (r2_notIn h1 h2 sd se q)
end
end G91
namespace G91
open PySem PySem.Spec PyProof.Rows L2
open Evl (Ex)
theorem r1_neg {K : PySem.W.Frag} {P0 : Ent} {M : Mm} {k : Sv → Mm → Prop} {i : Int} (q : k (.va (.int (-i))) M) : R1D K P0 (rU fun i => .int (-i)) (.va (.int i)) M k := fun Hs H x S r Q c => by
  cases (show Dq K Hs x (.int i) from r)
  exact ⟨i, rfl, c _ Hs H (.va (.int (-i))) M S (Ex.refl _) (Dq.int _) q⟩
end G91
namespace G91
open PySem PySem.Spec PyProof.Rows L2
open Evl (Ex)
theorem rc_isiO {K : PySem.W.Frag} {P0 : Ent} {M : Mm} {k : Sv → Mm → Prop} {a : Addr} {ss : List Sv} {n : String} (hm : M a = some (.lst ss)) (e : (kitB "list" n).isSome = true) (q : k (.va (.bool ((kitB "list" n).getD false))) M) : RCD K P0 (rIsi K) [.rf (.ref a), .rf (.ty n)] M k := fun Hs H xs S r Q c => by
  obtain ⟨b, hb⟩ := Option.isSome_iff_exists.mp e
  obtain ⟨x, y, rfl, r1, r2⟩ := reps2 r
  have ex : x = .ref a := r1
  have ey : y = .ty n := r2
  subst ex ey
  obtain ⟨ys, h1, h2⟩ := S.own.ob _ _ hm
  rw [hb] at q
  exact ⟨.ref a, .ty n, .type "list", .type n, b, rfl, .ty n, .base (.lst h1), kit_ty hb, c _ Hs H (.va (.bool b)) M S (Ex.refl _) (Dq.bl b) q⟩
/-- a new list, frozen at once -/
theorem we_frzN {K : PySem.W.Frag} {P0 : Ent} {M : Mm} {G : Gm} {k : Sv → Mm → Prop} {te : TE} (h : WE K P0 te G M fun s M1 => ∃ (p : Addr) (M0 : Mm) (ds : List PyData), s = .rf (.ref p) ∧ M0 p = none ∧ M1 = mup M0 p (.lst (ds.map Sv.va)) ∧ k (.va (.list ds)) M0) : WE K P0 te G M k :=
  we_frz (we_mono h fun s M1 ⟨p, M0, ds, es, hp, eM, q⟩ => by
    subst es eM
    exact ⟨M0, _, fun a o e => by rw [mup_ne (mne e hp)]; exact e, .lst mup_same hp (deepFs_va ds), q⟩)
end G91

/-! Fw10: a class made where its error is caught. -/
namespace G91
open PySem PySem.Spec PyProof.Rows L2
open Evl (Ex)
open He (ga ma fAd)
def tMakeS (C : Addr) (sp : Sp) (E : L2.St → XK) (t : TA) : TE := fun σ H Q => t σ H fun vs H1 => ∀ x dx, H1 x = none → H1 dx = none → dx ≠ x → sp (.ref x :: vs) (upd (upd H1 dx (.own x)) x (.ins C dx [])) (fun v H2 => v = .non ∧ Q (.ref x) H2) (E σ)
section
variable {X : Cx} {CX : CXT} {k j : Nat} {f C : Addr} {fd : FuncData} {ps : List Str} {sp : Sp} {E : L2.St → XK} {x : Str} {p pos : Pos} {e : Expr} {es : List Expr} {t : TA}
theorem makeS_run {pins : List (Addr × Obj)} {σ : L2.St} {H : Hp} {s : Shared} {Q : VK} {args : List Value} {avs : List V} (mk : Mk X.K C f) (fo : FnOk X.prog X.w X.K X.mg X.base CX k f fd ps sp) (room : Room (k + 1) X.A) (bi : Binds X.K fd ps [])
    (px : PassesAt CX X σ (E σ)) (iv : Inv X pins σ H s) (rel : Vals avs args)
    (hyp : ∀ x dx, H x = none → H dx = none → dx ≠ x → sp (.ref x :: avs) (upd (upd H dx (.own x)) x (.ins C dx [])) (fun v H2 => v = .non ∧ Q (.ref x) H2) (E σ)) :
    wpAny (model X.prog X.w) X.A (call (.ref C) args) (EP X pins σ Q) X.xe s := by
  generalize en : s.heap.objs.size = n at *
  have f0 : H n = none := iv.hok.fresh (by rw [en]; exact Nat.le_refl _)
  have f1 : H (n + 1) = none := iv.hok.fresh (by rw [en]; exact Nat.le_succ _)
  have pr := hyp (n + 1) n f1 f0 (Nat.ne_of_lt (Nat.lt_succ_self n))
  subst en
  have iv2 := Inv.made (C := C) iv
  have rel2 : Vals (V.ref (s.heap.objs.size + 1) :: avs) (Value.ref (s.heap.objs.size + 1) :: args) := .cons rfl rel
  have len2 : (Value.ref (s.heap.objs.size + 1) :: args).length = ps.length := rel2.length.symm.trans (fo.len _ _ _ _ pr)
  have bnd := bi _ (Value.ref (s.heap.objs.size + 1) :: args) iv2.kIn (by rw [List.append_nil]; exact len2)
  rw [List.append_nil] at bnd
  have body := fo.run _ X.stack _ _ ⟨Value.ref (s.heap.objs.size + 1) :: args, []⟩ _ _ _ (E σ) (room.make C args []) (iv2.env0.make C args []) bnd rel2 pr
  refine wpAny_call (make_map (f := f) iv.kIn mk.makes mk.init (beq_iff_eq.mp mk.fn) (codeAny_mono body fun out st2 res => ?_))
  cases out with
  | error er => exact px pins _ _ er st2 iv2 res
  | ok fl =>
    cases fl with
    | ret u =>
      obtain ⟨v, H', iv3, rv, ev, q3⟩ := iv2.after res
      subst ev
      exact ⟨rv, V.ref (s.heap.objs.size + 1), H', iv3, rfl, q3⟩
    | next => exact res.elim
    | brk => exact res.elim
    | cont => exact res.elim
theorem pmakeS (c : Mak X.prog X.w X.K X.mg X.base x C k sp) (hr : Room j X.A) (hk : k + 1 ≤ j) (hg : Gl X x) (hx : ∀ σ, PassesAt (L2.CX X.prog X.w) X σ (E σ)) (ha : PA X (e :: es) t)
    (hdb : (x == ("__debug__" : Str)) = false := by decide) (he : starEach (e :: es) X.env = (false, eval e X.env) :: starEach es X.env := by rfl) (hpl : (backTo pos (starEach es X.env)).any (·.1) = false := by rfl) :
    PE X (.Call (.Name x p) (e :: es) [] pos) (tMakeS C sp E t) := by
  obtain ⟨f, fd, ps, mk, fo, hm, bi⟩ := c.ex
  refine ⟨fun pins s σ H Q I h => wpAny_Call_Name_kw (ld_glob I hg hm ?_ hdb)⟩
  refine PySem.W.callWith_K (h₀ := X.base) I.ok.mod.kin mk.kp (thn (ha.run pos pins s σ H _ I h) fun us s1 q0 => ?_) he hpl
  obtain ⟨vs, H1, I1, r, q⟩ := q0
  exact ⟨I1.kIn, makeS_run mk fo (hr.mono hk) bi (hx σ) I1 r q⟩
end
section
variable {K : PySem.W.Frag} {P0 : Ent} {G : Gm} {M : Mm} {nx : Gm → Mm → Prop} {rt : Sv → Mm → Prop} {bk ct : Gm → Mm → Prop}
/-- try: C(..) except c as e -/
theorem ws_tryAsM {C : Addr} {sp : SpD} {tr : TA} {c : Value} {i : Nat} {ts : Addr → Value → Option Addr → TS} {Wout : WX}
    (h : WA K P0 tr G M fun as M1 => ∀ x, M1 x = none → sp (.rf (.ref x) :: as) (mup M1 x (.ins C [])) (fun s M' => s = .va .none ∧ nx G M') fun cls M2 => PySem.W.exmOne K cls c = some true ∧ ∀ a, WS K P0 (ts a cls none) (G.set i (some (.rf (.ref a)))) M2 (fun G' M' => nx (G'.set i none) M') rt (fun G' M' => bk (G'.set i none) M') (fun G' M' => ct (G'.set i none) M')) :
    WS K P0 (tTryAs K c i (fun W => tDrop (tMakeS C (lift K sp) (L2.WE W) tr)) ts Wout) G M nx rt bk ct := fun σ Hs H S L D dn dr db dc => by
  show tr σ H fun vs H1 => ∀ x dx, H1 x = none → H1 dx = none → dx ≠ x → lift K sp (.ref x :: vs) (upd (upd H1 dx (.own x)) x (.ins C dx [])) (fun v H2 => v = .non ∧ D.nx σ H2) (L2.WE (wAs K c i ts Wout D) σ)
  refine h σ Hs H S L _ fun vs Hs1 H1 ss M1 S1 e1 r1 h1 => fun x dx nx0 ndx nex => ?_
  obtain ⟨m0, s0⟩ := S1.own.free nx0
  obtain ⟨m1, s1⟩ := S1.own.free ndx
  have S2 : St0 K P0 M1 Hs1 (upd H1 dx (.own x)) := by
    refine ⟨S1.gr.trans ⟨Ex.refl _, fun a h n => absurd h n, fun a u h _ => by rw [upd_ne (ne_of_none h ndx)]; exact h, fun a n => .inl n⟩, ⟨fun a u h => by rw [upd_ne (ne_of_none h s1)]; exact S1.own.ex a u h, S1.own.sep, fun a ob h => ?_⟩⟩
    exact obIs_mono (Ex.refl _) (fun u z => by rw [upd_ne (mne h m1)]; exact z) (S1.own.ob a ob h)
  have S3 := S2.make (p := x) (by rw [upd_ne (Ne.symm nex)]; exact nx0) (o := .ins C dx []) (ob := .ins C []) ⟨dx, [], upd_same, .nil⟩
  refine ⟨Hs1, _, _, _, _, S3.own, .cons (show Rep K Hs1 (.ref x) (.rf (.ref x)) from rfl) r1, h1 x m0, fun v Hs' H' s M' g o r z => ?_, fun cls Hs' H' M' g o z => ?_⟩
  · obtain ⟨es, z⟩ := z
    subst es
    cases (show Dq K Hs' v .none from r)
    exact ⟨rfl, dn σ Hs' H' G M' ⟨S3.gr.trans g, o⟩ (e1.trans g.sh) (slots_mono (e1.trans g.sh) L) z⟩
  · obtain ⟨z1, z2⟩ := z
    refine ⟨true, z1, fun _ a ha => ?_, fun q => Bool.noConfusion q⟩
    have e2 := e1.trans g.sh
    have L2 : Slots K Hs' (σ.set i (some (.ref a))) (G.set i (some (.rf (.ref a)))) := slots_set (v := .ref a) (s := .rf (.ref a)) (slots_mono e2 L) (show Rep K Hs' (.ref a) (.rf (.ref a)) from rfl) i
    exact z2 a (σ.set i (some (.ref a))) Hs' H' ⟨S3.gr.trans g, o⟩ L2 _ (fun σ3 Hs3 H3 G3 M3 S3 e3 L3 q => dn _ Hs3 H3 _ M3 S3 (e2.trans e3) (slots_none L3 i) q) (fun v Hs3 H3 s M3 S3 e3 => dr v Hs3 H3 s M3 S3 (e2.trans e3))
      (fun σ3 Hs3 H3 G3 M3 S3 e3 L3 q => db _ Hs3 H3 _ M3 S3 (e2.trans e3) (slots_none L3 i) q) (fun σ3 Hs3 H3 G3 M3 S3 e3 L3 q => dc _ Hs3 H3 _ M3 S3 (e2.trans e3) (slots_none L3 i) q)
end
end G91
namespace G91
open PySem PySem.Spec PyProof.Rows L2
open Evl (Ex)
/-- a text many times -/
def rMulStr : R2 := fun x y H Q => ∃ z n, x = .str z ∧ y = .int n ∧ MulOk z n ∧ Q (.str (Txt.mul z n)) H
theorem op_mulStr {X : Cx} : OpR X (binaryOp .Mult) rMulStr := by
  intro pins s σ H x y v u Q I rx ry h
  obtain ⟨z, n, rfl, rfl, ok, q⟩ := h
  obtain ⟨t, rfl⟩ := rx
  obtain ⟨t', rfl⟩ := ry
  exact PySem.SB.mul ok fun t' k => ⟨.str (Txt.mul z n), H, I.tok _, ⟨_, rfl⟩, q⟩
end G91
namespace G91
open PySem PySem.Spec PyProof.Rows L2
open Evl (Ex)
theorem tup_once (l : Addr) (items : Array Value) (n : Nat) (dd : Option Addr) (sl : Array (Option Value)) (u : Tok) :
    Meets (Builtin.«tuple.__mul__» ⟨[.ref l, .int 1 u], []⟩) (fun _ R s => s.heap.get? l = some { cls := .type "tuple", dict := dd, data := .seq items n, slots := sl } ∧ R (.ok (.ret (Value.ref l))) s) :=
  .of_wp fun prog w A R s h => by
    obtain ⟨hp, g, d, tk, os⟩ := s
    obtain ⟨hl, h⟩ := h
    have f1 := AutoSeq1.idx_int
    wp_walk using wpAny_loadPart' hl
    exact ⟨_, rfl, h⟩
/-- a tuple once is itself -/
def rRepT1 (K : PySem.W.Frag) : R2 := fun x y H Q => ∃ l xs, x = .ref l ∧ y = .int 1 ∧ SqT K H l xs ∧ Q (.ref l) H
theorem op_repT1 {X : Cx} : OpR X (binaryOp .Mult) (rRepT1 X.K) := by
  intro pins s σ H x y v u Q I rx ry h
  obtain ⟨l, xs, rfl, rfl, hT, q⟩ := h
  cases rx
  obtain ⟨t, rfl⟩ := ry
  obtain ⟨its, r, ⟨⟨cls, dd, data, sl⟩, ho, hc, n, hd⟩, hs⟩ := I.tuple hT
  simp only at hc hd
  subst hc hd
  refine wpAny_binaryOp_repeat_ref (T := "tuple") (U := "int") (by decide) ⟨_, ho, rfl⟩ (fun s' => typeIs_int s' 1 t) noFill_tuple_mul F.fills_int_mul F.slot_int_rmul repeat_tuple F.slot_int_index.lookup ?_
  refine call_meets F.slot_int_rmul (typeIs_int s 1 t) F.entry_int_rmul (F.args_int_rmul_2 _ _) (int_rmul_tuple 1 t l its.toArray n dd sl) ⟨ho, rfl, ⟨_, ho, rfl⟩, ?_⟩
  exact call_meets F.slot_tuple_mul ⟨_, ho, rfl⟩ F.entry_tuple_mul (F.args_tuple_mul_2 _ _) (tup_once l its.toArray n dd sl t) ⟨ho, ⟨V.ref l, H, I, rfl, q⟩⟩
/-- times, of every kind -/
def rMulX (K : PySem.W.Frag) : R2 := rOr (rMulA K) (rOr rMulStr (rRepT1 K))
theorem op_mulX {X : Cx} : OpR X (binaryOp .Mult) (rMulX X.K) := OpR.or op_mulA (OpR.or op_mulStr op_repT1)
section
variable {K : PySem.W.Frag} {P0 : Ent} {M : Mm} {k : Sv → Mm → Prop}
theorem r2_mulXI {a b : Int} (hc : IntMulOk a b) (q : k (.va (.int (a * b))) M) : R2D K P0 (rMulX K) (.va (.int a)) (.va (.int b)) M k := r2_l (r2_mulI hc q)
theorem r2_mulXS {z : Str} {n : Int} (hc : MulOk z n) (q : k (.va (.str (Txt.mul z n))) M) : R2D K P0 (rMulX K) (.va (.str z)) (.va (.int n)) M k := r2_r (r2_l fun Hs H x y S r1 r2 Q c => by
  cases (show Dq K Hs x (.str z) from r1)
  cases (show Dq K Hs y (.int n) from r2)
  exact ⟨z, n, rfl, rfl, hc, c _ Hs H (.va (.str _)) M S (Ex.refl _) (Dq.str _) q⟩)
theorem r2_mulXT1 {ds : List PyData} (q : k (.va (.tuple ds)) M) : R2D K P0 (rMulX K) (.va (.tuple ds)) (.va (.int 1)) M k := r2_r (r2_r fun Hs H x y S r1 r2 Q c => by
  obtain ⟨a, xs, rfl, h1, h2⟩ := dp_tup_inv r1
  cases (show Dq K Hs y (.int 1) from r2)
  exact ⟨a, xs, rfl, rfl, Evl.ex_t S.own.ex h1, c (.ref a) Hs H (.va (.tuple ds)) M S (Ex.refl _) (Dq.tup h1 h2) q⟩)
theorem dpAll_rep {Hs : Hp} {xs : List V} {ds : List PyData} (h : DqAll K Hs xs ds) : ∀ n : Nat, DqAll K Hs (List.replicate n xs).flatten (List.replicate n ds).flatten
  | 0 => .nil
  | n + 1 => by
    rw [List.replicate_succ, List.replicate_succ, List.flatten_cons, List.flatten_cons]
    exact dpAll_append h (dpAll_rep h n)
theorem r2_mulXT {ds : List PyData} {n : Int} (hne : ds ≠ []) (h2 : 2 ≤ n) (h3 : n ≤ 1000) (hl : ds.length ≤ 1000) (q : k (.va (.tuple (List.replicate n.toNat ds).flatten)) M) : R2D K P0 (rMulX K) (.va (.tuple ds)) (.va (.int n)) M k := r2_l (r2_r (r2_l fun Hs H x y S r1 r2 Q c => by
  obtain ⟨a, xs, rfl, g1, g2⟩ := dp_tup_inv r1
  cases (show Dq K Hs y (.int n) from r2)
  have hl2 := dpAll_length g2
  refine ⟨a, n, xs, rfl, rfl, Evl.ex_t S.own.ex g1, fun z => ?_, h2, h3, by omega, fun p hp => ?_⟩
  · rw [z] at hl2
    exact hne (List.eq_nil_of_length_eq_zero hl2.symm)
  · obtain ⟨S2, e2⟩ := S.share hp (.tup (List.replicate n.toNat xs).flatten)
    exact c (.ref p) _ _ (.va (.tuple _)) M S2 e2 (Dq.tup (Evl.st_of upd_same) (dpAll_mono e2 (dpAll_rep g2 _))) q))
theorem r2_mulXL {s : Sv} {ds : List PyData} {n : Int} (l : RL M s (ds.map Sv.va)) (h0 : 0 ≤ n) (h1 : n ≤ 1000) (hl : ds.length ≤ 100) (q : k (.va (.list (List.replicate n.toNat ds).flatten)) M) : R2D K P0 (rMulX K) s (.va (.int n)) M k := r2_l (r2_r (r2_r fun Hs H x y S r1 r2 Q c => by
  obtain ⟨a, xs, rfl, g1, g2⟩ := l.at S r1
  cases (show Dq K Hs y (.int n) from r2)
  have d2 := dpAll_of_reps g2
  have hl2 := dpAll_length d2
  refine ⟨a, n, xs, rfl, rfl, g1, by omega, by omega, Evl.sz_of ?_, fun p hp => ?_⟩
  · have : xs.length * n.toNat ≤ 100 * 1000 := Nat.mul_le_mul (by omega) (by omega)
    omega
  · obtain ⟨S2, e2⟩ := S.share hp (.lst (List.replicate n.toNat xs).flatten)
    exact c (.ref p) _ _ (.va (.list _)) M S2 e2 (Dq.lst upd_same (dpAll_mono e2 (dpAll_rep d2 _))) q))
end
end G91

/-! Fw11: dicts whose keys are tuples of any depth. -/
namespace G91
open PySem PySem.Spec PyProof.Rows L2
open Evl (Ex)
open He (ga ma fAd)
/-! ### at the heap -/
abbrev NEnt := NestedKey × Addr × V
def NKey (K : PySem.W.Frag) (H : Hp) (b : Addr) (k : NestedKey) : Prop := k.depth ≤ 8 ∧ Dq K H (.ref b) k.data
def nvalV (xs : List NEnt) (k : NestedKey) : Option V := (xs.find? fun x => decide (x.1 = k)).map (·.2.2)
def nput (xs : List NEnt) (k : NestedKey) (b : Addr) (v : V) : List NEnt :=
  if (xs.any fun x => decide (x.1 = k)) = true then xs.map (fun x => if x.1 = k then (x.1, x.2.1, v) else x) else xs ++ [(k, b, v)]
/-- what the dict at a holds at the key y -/
def NGet (K : PySem.W.Frag) (w : World) (H : Hp) (a : Addr) (y : V) (r : Option V) : Prop :=
  ∃ xs k b, Rd H a (NDO w a xs) ∧ (∀ x ∈ xs, NKey K H x.2.1 x.1) ∧ y = .ref b ∧ NKey K H b k ∧ r = nvalV xs k
def NPut (K : PySem.W.Frag) (w : World) (H : Hp) (a : Addr) (y v : V) (H' : Hp) : Prop :=
  ∃ xs k b, H a = some (NDO w a xs) ∧ (∀ x ∈ xs, NKey K H x.2.1 x.1) ∧ y = .ref b ∧ NKey K H b k ∧ xs.length < sizeLine ∧ H' = upd H a (NDO w a (nput xs k b v))
section
variable {X : Cx} {pins : List (Addr × Obj)} {σ : L2.St} {H : Hp} {s : Shared} {a : Addr} {y v d : V} {u r : Value} {o : Option V} {A : Around} {E : Value → Shared → Prop}
mutual
theorem nk_is (I : Inv X pins σ H s) : ∀ (k : NestedKey) {v : V} {u : Value}, Dq X.K H v k.data → RelV v u → NestedIs s.heap k u
  | .none, v, u, h, r => by
    cases (show Dq X.K H v .none from h)
    cases r
    exact .none
  | .num i, v, u, h, r => by
    cases (show Dq X.K H v (.int i) from h)
    obtain ⟨t, rfl⟩ := r
    exact .int i t
  | .text x, v, u, h, r => by
    cases (show Dq X.K H v (.str x) from h)
    obtain ⟨t, rfl⟩ := r
    exact .text x t
  | .tup ks, v, u, h, r => by
    obtain ⟨a, xs, rfl, h1, h2⟩ := dp_tup_inv (show Dq X.K H v (.tuple (NestedKey.datas ks)) from h)
    cases r
    obtain ⟨its, r1, ⟨⟨o, g1, g2, n, g3⟩, _⟩⟩ := I.tuple h1
    exact .tup g1 g2 g3 (by simpa using nks_are I ks h2 r1)
theorem nks_are (I : Inv X pins σ H s) : ∀ (ks : List NestedKey) {vs : List V} {us : List Value}, DqAll X.K H vs (NestedKey.datas ks) → Vals vs us → NestedAll s.heap ks us
  | [], _, _, h, r => by
    cases (show DqAll X.K H _ [] from h)
    cases r
    exact .nil
  | k :: ks, _, _, h, r => by
    cases (show DqAll X.K H _ (k.data :: NestedKey.datas ks) from h) with
    | cons h1 h2 =>
      cases r with
      | cons r1 r2 => exact .cons (nk_is I k h1 r1) (nks_are I ks h2 r2)
end
theorem NKey.is (I : Inv X pins σ H s) {b : Addr} {k : NestedKey} (h : NKey X.K H b k) : (nestedKind X.prog X.w).is s.heap k b := ⟨nk_is I k h.2 rfl, h.1⟩
abbrev NPr : List NEnt → List (NestedKey × Addr × Value) → Prop := Paired (fun (p : NEnt) (q : NestedKey × Addr × Value) => p.1 = q.1 ∧ p.2.1 = q.2.1 ∧ RelV p.2.2 q.2.2)
theorem NPr.val : ∀ {xs : List NEnt} {ys : List (NestedKey × Addr × Value)}, NPr xs ys → ∀ k : NestedKey, RelO (nvalV xs k) ((atKey ys k).map (·.2))
  | _, _, .nil, k => True.intro
  | p :: ps, q :: qs, .cons h t, k => by
    obtain ⟨h1, h2, h3⟩ := h
    by_cases e : p.1 = k
    · have e' : q.1 = k := h1.symm.trans e
      have b : atKey (q :: qs) k = some q.2 := by simp [atKey, List.find?_cons, e']
      have c : nvalV (p :: ps) k = some p.2.2 := by simp [nvalV, List.find?_cons, e]
      rw [b, c]; exact h3
    · have e' : ¬ q.1 = k := fun z => e (h1.trans z)
      have b : atKey (q :: qs) k = atKey qs k := by simp [atKey, List.find?_cons, e']
      have c : nvalV (p :: ps) k = nvalV ps k := by simp [nvalV, List.find?_cons, e]
      rw [b, c]; exact NPr.val t k
theorem NPr.any : ∀ {xs : List NEnt} {ys : List (NestedKey × Addr × Value)}, NPr xs ys → ∀ k : NestedKey, (xs.any fun x => decide (x.1 = k)) = (atKey ys k).isSome
  | _, _, .nil, k => rfl
  | p :: ps, q :: qs, .cons h t, k => by
    have ih := NPr.any t k
    rw [List.any_cons, ih]
    by_cases e : p.1 = k
    · have e' : q.1 = k := h.1.symm.trans e
      have b : atKey (q :: qs) k = some q.2 := by simp [atKey, List.find?_cons, e']
      rw [b, decide_eq_true e] <;> rfl
    · have e' : ¬ q.1 = k := fun z => e (h.1.trans z)
      have b : atKey (q :: qs) k = atKey qs k := by simp [atKey, List.find?_cons, e']
      rw [b, decide_eq_false e] <;> rfl
theorem NPr.repl {k : NestedKey} {v : V} {u : Value} (rv : RelV v u) : ∀ {xs : List NEnt} {ys : List (NestedKey × Addr × Value)}, NPr xs ys → NPr (xs.map fun x => if x.1 = k then (x.1, x.2.1, v) else x) (ys.map (putAt k u))
  | _, _, .nil => .nil
  | p :: ps, q :: qs, .cons h t => by
    rw [List.map_cons, List.map_cons]
    refine .cons ?_ (NPr.repl rv t)
    obtain ⟨h1, h2, h3⟩ := h
    unfold putAt
    by_cases e : p.1 = k
    · rw [if_pos e, if_pos (h1.symm.trans e)]; exact ⟨h1, h2, rv⟩
    · rw [if_neg e, if_neg (fun z => e (h1.trans z))]; exact ⟨h1, h2, h3⟩
theorem NPr.put {xs : List NEnt} {ys : List (NestedKey × Addr × Value)} (h : NPr xs ys) (k : NestedKey) (b : Addr) {v : V} {u : Value} (rv : RelV v u) : NPr (nput xs k b v) (storedH ys k b u) := by
  unfold nput storedH
  rw [h.any]
  by_cases q : (atKey ys k).isSome = true
  · rw [if_pos q, if_pos q]; exact h.repl rv
  · rw [if_neg q, if_neg q]; exact Paired.snoc h ⟨rfl, rfl, rv⟩
theorem nput_keys {P : NestedKey → Addr → Prop} {xs : List NEnt} {k : NestedKey} {b : Addr} {v : V} (h : ∀ x ∈ xs, P x.1 x.2.1) (hk : P k b) : ∀ x ∈ nput xs k b v, P x.1 x.2.1 := by
  intro x hx
  unfold nput at hx
  split at hx
  · obtain ⟨z, hz, rfl⟩ := List.mem_map.mp hx
    have := h z hz
    split
    · exact this
    · exact this
  · rcases List.mem_append.mp hx with q | q
    · exact h x q
    · rw [List.mem_singleton.mp q]; exact hk
theorem nput_len {xs : List NEnt} {k : NestedKey} {b : Addr} {v : V} : (nput xs k b v).length ≤ xs.length + 1 := by
  unfold nput
  split
  · rw [List.length_map]; omega
  · rw [List.length_append]; simp
theorem ndo_at {w : World} {xs : List NEnt} (I : Inv X pins σ H s) (e : Rd H a (NDO w a xs)) : xs.length ≤ sizeLine ∧ (a == sysModules) = false ∧ ∃ ys : List (NestedKey × Addr × Value), NPr xs ys ∧
    ∃ o es ep, s.heap.get? a = some o ∧ o.ExactDict ∧ o.data = .dict es ep ∧ es.toList = ys.map (fun x => (⟨x.1.hash w, .ref x.2.1, x.2.2⟩ : DictEntry)) ∧ (ys.map (·.1)).Nodup := by
  obtain ⟨z, _, _⟩ := e.ok I.hok
  exact z
theorem ndo_dict {xs : List NEnt} (I : Inv X pins σ H s) (e : Rd H a (NDO X.w a xs)) (hk : ∀ x ∈ xs, NKey X.K H x.2.1 x.1) : xs.length ≤ sizeLine ∧ (a == sysModules) = false ∧
    ∃ ys, NPr xs ys ∧ s.heap.DictOfH (nestedKind X.prog X.w) a ys := by
  obtain ⟨z, hd, ys, hp, ob, es, ep, h1, h2, h3, h4, h5⟩ := ndo_at I e
  refine ⟨z, hd, ys, hp, ob, es, ep, h1, h2, h3, h4, fun x hx => ?_, h5⟩
  have all : ∀ {l : List NEnt} {m : List (NestedKey × Addr × Value)}, NPr l m → (∀ x ∈ l, NKey X.K H x.2.1 x.1) → ∀ x ∈ m, (nestedKind X.prog X.w).is s.heap x.1 x.2.1 := by
    intro l m q hl
    induction q with
    | nil => intro x hx; exact nomatch hx
    | @cons p q ps qs hq t ih =>
      intro x hx
      rcases List.mem_cons.mp hx with e | hx
      · subst e
        have := (hl p List.mem_cons_self).is I
        rw [hq.1, hq.2.1] at this
        exact this
      · exact ih (fun x hx => hl x (List.mem_cons_of_mem _ hx)) x hx
  exact all hp hk x hx
theorem ndo_new {w : World} {H' : Hp} {h' : Heap} {xs : List NEnt} {ys : List (NestedKey × Addr × Value)} (z : xs.length ≤ sizeLine) (hd : (a == sysModules) = false) (hp : NPr xs ys)
    (hq : ∃ o es ep, h'.get? a = some o ∧ o.ExactDict ∧ o.data = .dict es ep ∧ es.toList = ys.map (fun x => (⟨x.1.hash w, .ref x.2.1, x.2.2⟩ : DictEntry)) ∧ (ys.map (·.1)).Nodup) : ObjOk X.prog X.w H' h' a (NDO w a xs) := by
  refine ⟨⟨z, hd, ys, hp, hq⟩, ?_, ?_⟩
  · obtain ⟨o, _, _, e, _⟩ := hq
    exact ⟨o, e⟩
  · rintro h1 h2 ⟨z, hd, ys, hp, o, es, ep, e, r⟩ k
    exact ⟨z, hd, ys, hp, o, es, ep, k o e, r⟩
theorem nroom (hu : A.units + 65 < cLine) : (nestedKind X.prog X.w).room A.in1 := by
  show A.in1.units + 8 < cLine
  simp only [Around.in1_units]
  omega
theorem nd_getItem {Q : Value → Shared → Prop} (hu : A.units + 65 < cLine) (I : Inv X pins σ H s) (g : NGet X.K X.w H a y (some v)) (ry : RelV y u) (h : ∀ w' s', Inv X pins σ H s' → RelV v w' → Q w' s') :
    wpAny (model X.prog X.w) A (getItem (.ref a) u) Q E s := by
  obtain ⟨xs, k, b, e, hk, ey, eb, l⟩ := g
  subst ey
  cases (show u = Value.ref b from ry)
  obtain ⟨z, hd, ys, rel, dd⟩ := ndo_dict I e hk
  obtain ⟨w', hw, rw'⟩ := RelO.some_of (v := v) (o := (atKey ys k).map (·.2)) (by rw [l]; exact rel.val k)
  obtain ⟨p, hp, hp2⟩ := Option.map_eq_some_iff.mp hw
  refine wpAny_getItem_heap (nroom hu) (eb.is I) dd hp ?_
  rw [hp2]
  exact h w' _ (I.tok _) rw'
theorem nd_in {Q : Value → Shared → Prop} (hu : A.units + 65 < cLine) (I : Inv X pins σ H s) (g : NGet X.K X.w H a y o) (ry : RelV y u) (h : ∀ s', Inv X pins σ H s' → Q (.bool o.isSome) s') :
    wpAny (model X.prog X.w) A (compareOp .In u (.ref a)) Q E s := by
  obtain ⟨xs, k, b, e, hk, ey, eb, l⟩ := g
  subst ey
  cases (show u = Value.ref b from ry)
  obtain ⟨z, hd, ys, rel, dd⟩ := ndo_dict I e hk
  refine wpAny_in_heap (nroom hu) (eb.is I) hd dd ?_
  have q := (rel.val k).isSome_eq
  rw [Option.isSome_map] at q
  rw [← q, ← l]
  exact h _ (I.tok _)
theorem nd_notIn {Q : Value → Shared → Prop} (hu : A.units + 65 < cLine) (I : Inv X pins σ H s) (g : NGet X.K X.w H a y o) (ry : RelV y u) (h : ∀ s', Inv X pins σ H s' → Q (.bool (!o.isSome)) s') :
    wpAny (model X.prog X.w) A (compareOp .NotIn u (.ref a)) Q E s := by
  obtain ⟨xs, k, b, e, hk, ey, eb, l⟩ := g
  subst ey
  cases (show u = Value.ref b from ry)
  obtain ⟨z, hd, ys, rel, dd⟩ := ndo_dict I e hk
  refine wpAny_notIn_heap (nroom hu) (eb.is I) hd dd ?_
  have q := (rel.val k).isSome_eq
  rw [Option.isSome_map] at q
  rw [← q, ← l]
  exact h _ (I.tok _)
theorem nd_get2 {Q : Value → Shared → Prop} (hu : A.units + 65 < cLine) (I : Inv X pins σ H s) (g : NGet X.K X.w H a y o) (ry : RelV y u) (rd : RelV d r) (h : ∀ w' s', Inv X pins σ H s' → RelV (o.getD d) w' → Q w' s') :
    wpAny (model X.prog X.w) A (call (.builtin "dict.get") [.ref a, u, r]) Q E s := by
  obtain ⟨xs, k, b, e, hk, ey, eb, l⟩ := g
  subst ey
  cases (show u = Value.ref b from ry)
  obtain ⟨z, hd, ys, rel, dd⟩ := ndo_dict I e hk
  refine call_meetsIn PySem.F.slot_dict_get dd.typeIs PySem.F.entry_dict_get (PySem.F.args_dict_get_3 _ _ _) (meetsH_dict_get_default (nestedKind X.prog X.w) a b hd r) ⟨nroom hu, k, ys, eb.is I, dd, h _ _ (I.tok _) ?_⟩
  rw [l]
  exact (rel.val k).getD rd
theorem nd_setItem {H' : Hp} {Q : Unit → Shared → Prop} (hu : A.units + 65 < cLine) (I : Inv X pins σ H s) (g : NPut X.K X.w H a y v H') (ry : RelV y u) (rv : RelV v r) (h : ∀ s', Inv X pins σ H' s' → Q () s') :
    wpAny (model X.prog X.w) A (setItem (.ref a) u r) Q E s := by
  obtain ⟨xs, k, b, e, hk, ey, eb, l, eH⟩ := g
  subst ey eH
  cases (show u = Value.ref b from ry)
  obtain ⟨z, hd, ys, rel, dd⟩ := ndo_dict I (.inl e) hk
  have hz : ys.length ≤ sizeLine := by rw [← Paired.length rel]; exact z
  have hl : (nput xs k b v).length ≤ sizeLine := by have := nput_len (xs := xs) (k := k) (b := b) (v := v); omega
  refine wpAny_setItem_heap (hsz := hz) (nroom hu) (eb.is I) dd fun h' dd' hs => h _ ?_
  obtain ⟨q, es, ep, hq, h2, h3, h4, _, h5⟩ := dd'
  exact d_write I (by rw [e]; exact True.intro) hs ⟨q, hq⟩ (ndo_new hl hd (rel.put k b rv) ⟨q, es, ep, hq, h2, h3, h4, h5⟩)
theorem ndo_typeIs {w : World} {xs : List NEnt} (I : Inv X pins σ H s) (e : Rd H a (NDO w a xs)) : s.TypeIs (.ref a) "dict" ∧ ∀ b, Value.ref a = .ref b → ∃ ob, s.heap.get? b = some ob ∧ ob.dict = none := by
  obtain ⟨z, hd, ys, hp, ob, es, ep, h1, h2, h3, h4, h5⟩ := ndo_at I e
  refine ⟨⟨ob, h1, h2.1⟩, fun b q => ?_⟩
  cases q
  exact ⟨ob, h1, h2.2.1⟩
end
/-! ### readings -/
def tNNew (w : World) : TE := fun _ H Q => ∀ p, H p = none → Q (.ref p) (upd H p (NDO w p []))
def tNGet (K : PySem.W.Frag) (w : World) (td ty : TE) : TE := fun σ H Q => td σ H fun x H1 => ty σ H1 fun y H2 => ∃ a v, x = .ref a ∧ NGet K w H2 a y (some v) ∧ Q v H2
def tNIn (K : PySem.W.Frag) (w : World) (ty td : TE) : TE := fun σ H Q => ty σ H fun y H1 => td σ H1 fun x H2 => ∃ a o, x = .ref a ∧ NGet K w H2 a y o ∧ Q (.bl o.isSome) H2
def tNNotIn (K : PySem.W.Frag) (w : World) (ty td : TE) : TE := fun σ H Q => ty σ H fun y H1 => td σ H1 fun x H2 => ∃ a o, x = .ref a ∧ NGet K w H2 a y o ∧ Q (.bl (!o.isSome)) H2
def sNPut (K : PySem.W.Frag) (w : World) (td ty tv : TE) : TS := fun D σ H => tv σ H fun v H1 => td σ H1 fun x H2 => ty σ H2 fun y H3 => ∃ a H4, x = .ref a ∧ NPut K w H3 a y v H4 ∧ D.nx σ H4
def tNGet2 (K : PySem.W.Frag) (w : World) (td ty tx : TE) : TE := fun σ H Q => td σ H fun x H1 => ∃ a xs, x = .ref a ∧ H1 a = some (NDO w a xs) ∧ ty σ H1 fun y H2 => tx σ H2 fun z H3 => ∃ o, NGet K w H3 a y o ∧ Q (o.getD z) H3
section
variable {X : Cx} {o i e f value : Expr} {pos pos' tpos apos cpos : Pos} {td ty tv tx : TE}
theorem pe_nnew : PE X (.Dict [] [] pos) (tNNew X.w) := ⟨fun pins s σ H Q I h => by
  refine wpAny_Dict_empty ⟨.ref s.heap.objs.size, _, I.laid (a := s.heap.objs.size) (o := NDO X.w s.heap.objs.size []) (t' := s.toks) (fun _ _ q => Heap.get?_push_of_some _ q) (Nat.le_refl _) ?_, rfl, h _ (I.hok.fresh (Nat.le_refl _))⟩
  exact ndo_new (Nat.zero_le _) (beq_eq_false_iff_ne.mpr (Ne.symm (Nat.ne_of_lt I.big))) .nil ⟨_, #[], 0, Heap.get?_push_size _ rfl, ⟨rfl, rfl, rfl⟩, rfl, rfl, List.nodup_nil⟩⟩
theorem pe_nget (hu : X.A.units + 65 < cLine) (ho : PE X o td) (hi : PE X i ty) (hs : NoSl i) : PE X (.Subscript o i pos) (tNGet X.K X.w td ty) := by
  refine ⟨fun pins s σ H Q I h => ?_⟩
  refine subD_of PySem.F.slot_dict_getitem.lookup hs (thn (ho.run pins s σ H _ I h) fun u s1 ⟨x, H1, I1, rx, q1⟩ => thn (hi.run pins s1 σ H1 _ I1 q1) fun iv s2 ⟨y, H2, I2, ry, a, v, ex, g, q2⟩ => ?_)
  subst ex
  obtain rfl : u = Value.ref a := rx
  obtain ⟨xs, k, b, e, hk, ey, eb, l⟩ := id g
  exact ⟨(ndo_typeIs I2 e).1, nd_getItem hu I2 g ry fun w' s3 I3 rw' => ⟨v, H2, I3, rw', q2⟩⟩
theorem pc_nin (hu : X.A.units + 65 < cLine) (hi : PE X i ty) (ho : PE X o td) : PC X .In i o (tNIn X.K X.w ty td) := by
  refine ⟨fun pins s σ H Q I h => ?_⟩
  refine thn (hi.run pins s σ H _ I h) fun iv s1 ⟨y, H1, I1, ry, q1⟩ => thn (ho.run pins s1 σ H1 _ I1 q1) fun u s2 ⟨x, H2, I2, rx, a, ov, ex, g, q2⟩ => ?_
  subst ex
  obtain rfl : u = Value.ref a := rx
  exact nd_in hu I2 g ry fun s3 I3 => ⟨.bl ov.isSome, H2, I3, rfl, q2⟩
theorem pc_nnotin (hu : X.A.units + 65 < cLine) (hi : PE X i ty) (ho : PE X o td) : PC X .NotIn i o (tNNotIn X.K X.w ty td) := by
  refine ⟨fun pins s σ H Q I h => ?_⟩
  refine thn (hi.run pins s σ H _ I h) fun iv s1 ⟨y, H1, I1, ry, q1⟩ => thn (ho.run pins s1 σ H1 _ I1 q1) fun u s2 ⟨x, H2, I2, rx, a, ov, ex, g, q2⟩ => ?_
  subst ex
  obtain rfl : u = Value.ref a := rx
  exact nd_notIn hu I2 g ry fun s3 I3 => ⟨.bl (!ov.isSome), H2, I3, rfl, q2⟩
theorem ps_nput (hu : X.A.units + 65 < cLine) (ho : PE X o td) (hi : PE X i ty) (hv : PE X value tv) (hs : swapsWith value (some (.Subscript o i pos')) pos.line X.env = pure false) :
    PS X (.Assign [.Subscript o i pos'] value pos) (sNPut X.K X.w td ty tv) := by
  refine ⟨fun pins s σ H D I h => ?_⟩
  refine wpAny_Assign_Subscript (thn (hv.run pins s σ H _ I h) fun r s1 ⟨v, H1, I1, rv, q1⟩ => thn (ho.run pins s1 σ H1 _ I1 q1) fun u s2 ⟨x, H2, I2, rx, q2⟩ => thn (hi.run pins s2 σ H2 _ I2 q2) fun iv s3 ⟨y, H3, I3, ry, a, H4, ex, g, q3⟩ => ?_) hs
  subst ex
  obtain rfl : u = Value.ref a := rx
  exact nd_setItem hu I3 g ry rv fun s4 I4 => ⟨σ, H4, I4, q3⟩
theorem pe_nget2 (hu : X.A.units + 65 < cLine) (ho : PE X o td) (he : PE X e ty) (hf : PE X f tx) (m : M2 X o "get" apos e f cpos) : PE X (.Call (.Attribute o "get" apos) [e, f] [] cpos) (tNGet2 X.K X.w td ty tx) := by
  refine ⟨fun pins s σ H Q I h => ?_⟩
  refine wpAny_Call_method m.base m.few m.line PySem.F.plainAttrs_dict PySem.F.slot_dict_get PySem.F.type_dict_get (thn (ho.run pins s σ H _ I h) fun u s1 ⟨x, H1, I1, rx, a, xs, ex, d, q1⟩ => ?_)
  subst ex
  obtain rfl : u = Value.ref a := rx
  obtain ⟨t1, t2⟩ := ndo_typeIs I1 (.inl d)
  refine ⟨t1, t2, ?_⟩
  rw [m.trees]
  refine Calls.callWith_builtin rfl (Calls.evalArgs_plain (Calls.spliced_cons (thn (he.run pins s1 σ H1 _ I1 q1) fun iv s2 ⟨y, H2, I2, ry, q2⟩ =>
    Calls.spliced_cons (thn (hf.run pins s2 σ H2 _ I2 q2) fun fv s3 ⟨z, H3, I3, rz, ov, g, q3⟩ => Calls.spliced_nil ?_))))
  exact nd_get2 hu I3 g ry rz fun w' s4 I4 rw' => ⟨_, H3, I4, rw', q3⟩
end
/-! ### at data -/
abbrev NDPr (K : PySem.W.Frag) (Hs : Hp) : List NEnt → List (NestedKey × Sv) → Prop := Paired fun (p : NEnt) (q : NestedKey × Sv) => p.1 = q.1 ∧ p.1.depth ≤ 8 ∧ Dq K Hs (.ref p.2.1) p.1.data ∧ Rep K Hs p.2.2 q.2
section
variable {K : PySem.W.Frag} {Hs : Hp}
theorem nd_keys : ∀ {xs : List NEnt} {kvs : List (NestedKey × Sv)}, NDPr K Hs xs kvs → ∀ x ∈ xs, NKey K Hs x.2.1 x.1
  | _, _, .nil, _, hx => nomatch hx
  | p :: ps, q :: qs, .cons h t, x, hx => by
    rcases List.mem_cons.mp hx with e | hx
    · subst e; exact ⟨h.2.1, h.2.2.1⟩
    · exact nd_keys t x hx
theorem nd_val {k : NestedKey} : ∀ {xs : List NEnt} {kvs : List (NestedKey × Sv)}, NDPr K Hs xs kvs → match valS kvs k with
    | some t => ∃ v, nvalV xs k = some v ∧ Rep K Hs v t
    | none => nvalV xs k = none
  | _, _, .nil => rfl
  | (g, b, u) :: gs, (g', u') :: fs, .cons r q => by
    obtain ⟨e, _, _, r⟩ := r
    have e : g = g' := e
    subst e
    have ih := nd_val (k := k) q
    unfold valS nvalV at ih ⊢
    rw [List.find?_cons, List.find?_cons]
    by_cases c : g = k
    · have c2 : decide ((g, u').1 = k) = true := decide_eq_true c
      have c3 : decide ((g, b, u).1 = k) = true := decide_eq_true c
      rw [c2]
      exact ⟨u, rfl, r⟩
    · have c2 : decide ((g, u').1 = k) = false := decide_eq_false c
      have c3 : decide ((g, b, u).1 = k) = false := decide_eq_false c
      rw [c2]
      exact ih
theorem nd_any {k : NestedKey} : ∀ {xs : List NEnt} {kvs : List (NestedKey × Sv)}, NDPr K Hs xs kvs → (xs.any fun kv => decide (kv.1 = k)) = kvs.any fun kv => decide (kv.1 = k)
  | _, _, .nil => rfl
  | (g, b, u) :: gs, (g', u') :: fs, .cons r q => by
    have e : g = g' := r.1
    subst e
    rw [List.any_cons, List.any_cons, nd_any q]
theorem nd_map {k : NestedKey} {v : V} {t : Sv} (rv : Rep K Hs v t) : ∀ {xs : List NEnt} {kvs : List (NestedKey × Sv)}, NDPr K Hs xs kvs → NDPr K Hs (xs.map fun kv => if kv.1 = k then (kv.1, kv.2.1, v) else kv) (kvs.map fun kv => if kv.1 = k then (kv.1, t) else kv)
  | _, _, .nil => .nil
  | p :: ps, q :: qs, .cons r t' => by
    rw [List.map_cons, List.map_cons]
    refine .cons ?_ (nd_map rv t')
    obtain ⟨h1, h2, h3, h4⟩ := r
    by_cases c : p.1 = k
    · rw [if_pos c, if_pos (h1.symm.trans c)]; exact ⟨h1, h2, h3, rv⟩
    · rw [if_neg c, if_neg (fun z => c (h1.trans z))]; exact ⟨h1, h2, h3, h4⟩
theorem nd_put {k : NestedKey} {b : Addr} {v : V} {t : Sv} (hb : NKey K Hs b k) (rv : Rep K Hs v t) {xs : List NEnt} {kvs : List (NestedKey × Sv)} (h : NDPr K Hs xs kvs) : NDPr K Hs (nput xs k b v) (putSK kvs k t) := by
  unfold nput putSK
  rw [nd_any h]
  split
  · exact nd_map rv h
  · exact Paired.snoc h ⟨rfl, hb.1, hb.2, rv⟩
theorem NKey.up {H : Hp} {b : Addr} {k : NestedKey} (h : NKey K Hs b k) (e : Ex Hs H) : NKey K H b k := ⟨h.1, dp_mono e h.2⟩
end
section
variable {K : PySem.W.Frag} {P0 : Ent} {M : Mm} {G : Gm} {k : Sv → Mm → Prop} {td ty tv tx te : TE} {nx : Gm → Mm → Prop} {rt : Sv → Mm → Prop} {bk ct : Gm → Mm → Prop} {w : World}
theorem we_nnew (h : ∀ p, M p = none → k (.rf (.ref p)) (mup M p (.dN w []))) : WE K P0 (tNNew w) G M k := fun σ Hs H S L Q c => fun p hp =>
  c (.ref p) Hs _ (.rf (.ref p)) _ (S.make hp (ob := .dN w []) ⟨[], upd_same, .nil⟩) (Ex.refl _) rfl (h p (S.own.free hp).1)
theorem NGet.of {Hs H : Hp} {a : Addr} {kvs : List (NestedKey × Sv)} {j : List NestedKey} {y : V} (S : St0 K P0 M Hs H) (hm : M a = some (.dN w kvs)) (hj : (NestedKey.tup j).depth ≤ 8) (r : Dq K Hs y (NestedKey.tup j).data) :
    ∃ xs b, y = .ref b ∧ H a = some (NDO w a xs) ∧ (∀ x ∈ xs, NKey K H x.2.1 x.1) ∧ NDPr K Hs xs kvs ∧ NKey K Hs b (.tup j) := by
  obtain ⟨xs, h1, h2⟩ := S.own.ob _ _ hm
  obtain ⟨b, _, eb, _, _⟩ := dp_tup_inv (show Dq K Hs y (.tuple (NestedKey.datas j)) from r)
  subst eb
  exact ⟨xs, b, rfl, h1, fun x hx => (nd_keys h2 x hx).up S.own.ex, h2, hj, r⟩
/-- to read: as it is, or locked -/
inductive RN (M : Mm) (a : Addr) (w : World) (kvs : List (NestedKey × Sv)) : Prop
  | d : M a = some (.dN w kvs) → RN M a w kvs
  | k {od : Obj} {ks : List NEnt} : M a = some (.kN w od ks kvs) → RN M a w kvs
theorem NGet.ofR {Hs H : Hp} {a : Addr} {kvs : List (NestedKey × Sv)} {j : List NestedKey} {y : V} (S : St0 K P0 M Hs H) (hm : RN M a w kvs) (hj : (NestedKey.tup j).depth ≤ 8) (r : Dq K Hs y (NestedKey.tup j).data) :
    ∃ xs b, y = .ref b ∧ Rd H a (NDO w a xs) ∧ (∀ x ∈ xs, NKey K H x.2.1 x.1) ∧ NDPr K Hs xs kvs ∧ NKey K Hs b (.tup j) := by
  obtain ⟨b, _, eb, _, _⟩ := dp_tup_inv (show Dq K Hs y (.tuple (NestedKey.datas j)) from r)
  subst eb
  cases hm with
  | d hm =>
    obtain ⟨xs, h1, h2⟩ := S.own.ob _ _ hm
    exact ⟨xs, b, rfl, .inl h1, fun x hx => (nd_keys h2 x hx).up S.own.ex, h2, hj, r⟩
  | k hm =>
    obtain ⟨h1, h2⟩ := S.own.ob _ _ hm
    exact ⟨_, b, rfl, .inr ⟨_, h1⟩, fun x hx => (nd_keys h2 x hx).up S.own.ex, h2, hj, r⟩
theorem we_ngetR (h : WE K P0 td G M fun so M1 => WE K P0 ty G M1 fun sy M2 => ∃ a kvs j u, so = .rf (.ref a) ∧ sy = .va (NestedKey.tup j).data ∧ (NestedKey.tup j).depth ≤ 8 ∧ RN M2 a w kvs ∧ valS kvs (.tup j) = some u ∧ k u M2) : WE K P0 (tNGet K w td ty) G M k := fun σ Hs H S L Q c =>
  h σ Hs H S L _ fun x Hs1 H1 so M1 S1 e1 r1 h1 => h1 σ Hs1 H1 S1 (slots_mono e1 L) _ fun y Hs2 H2 sy M2 S2 e2 r2 ⟨a, kvs, j, u, eo, ey, hj, hm, hv, q⟩ => by
    subst eo ey
    have ex : x = .ref a := r1
    subst ex
    obtain ⟨xs, b, eb, g1, g2, g3, g4⟩ := NGet.ofR S2 hm hj r2
    have d3 := nd_val (k := .tup j) g3
    rw [hv] at d3
    obtain ⟨v, v1, v2⟩ := d3
    exact ⟨a, v, rfl, ⟨xs, .tup j, b, g1, g2, eb, g4.up S2.own.ex, v1.symm⟩, c v Hs2 H2 u M2 S2 (e1.trans e2) v2 q⟩
theorem we_nget (h : WE K P0 td G M fun so M1 => WE K P0 ty G M1 fun sy M2 => ∃ a kvs j u, so = .rf (.ref a) ∧ sy = .va (NestedKey.tup j).data ∧ (NestedKey.tup j).depth ≤ 8 ∧ M2 a = some (.dN w kvs) ∧ valS kvs (.tup j) = some u ∧ k u M2) : WE K P0 (tNGet K w td ty) G M k :=
  we_ngetR (we_mono h fun so M1 h => we_mono h fun sy M2 ⟨a, kvs, j, u, eo, ey, hj, hm, hv, q⟩ => ⟨a, kvs, j, u, eo, ey, hj, .d hm, hv, q⟩)
theorem nd_some {Hs : Hp} {j : NestedKey} {xs : List NEnt} {kvs : List (NestedKey × Sv)} (h : NDPr K Hs xs kvs) : (nvalV xs j).isSome = (valS kvs j).isSome := by
  have d3 := nd_val (k := j) h
  cases e : valS kvs j with
  | none => rw [e] at d3; rw [d3] <;> rfl
  | some u => rw [e] at d3; obtain ⟨v, g1, _⟩ := d3; rw [g1] <;> rfl
theorem we_nin (h : WE K P0 ty G M fun sy M1 => WE K P0 td G M1 fun so M2 => ∃ a kvs j, so = .rf (.ref a) ∧ sy = .va (NestedKey.tup j).data ∧ (NestedKey.tup j).depth ≤ 8 ∧ M2 a = some (.dN w kvs) ∧ k (.va (.bool (valS kvs (.tup j)).isSome)) M2) : WE K P0 (tNIn K w ty td) G M k := fun σ Hs H S L Q c =>
  h σ Hs H S L _ fun y Hs1 H1 sy M1 S1 e1 r1 h1 => h1 σ Hs1 H1 S1 (slots_mono e1 L) _ fun x Hs2 H2 so M2 S2 e2 r2 ⟨a, kvs, j, eo, ey, hj, hm, q⟩ => by
    subst eo ey
    have ex : x = .ref a := r2
    subst ex
    obtain ⟨xs, b, eb, g1, g2, g3, g4⟩ := NGet.of S2 hm hj (rep_mono e2 r1)
    refine ⟨a, _, rfl, ⟨xs, .tup j, b, .inl g1, g2, eb, g4.up S2.own.ex, rfl⟩, ?_⟩
    rw [nd_some g3]
    exact c _ Hs2 H2 (.va (.bool _)) M2 S2 (e1.trans e2) (Dq.bl _) q
theorem we_nnotin (h : WE K P0 ty G M fun sy M1 => WE K P0 td G M1 fun so M2 => ∃ a kvs j, so = .rf (.ref a) ∧ sy = .va (NestedKey.tup j).data ∧ (NestedKey.tup j).depth ≤ 8 ∧ M2 a = some (.dN w kvs) ∧ k (.va (.bool (!(valS kvs (.tup j)).isSome))) M2) : WE K P0 (tNNotIn K w ty td) G M k := fun σ Hs H S L Q c =>
  h σ Hs H S L _ fun y Hs1 H1 sy M1 S1 e1 r1 h1 => h1 σ Hs1 H1 S1 (slots_mono e1 L) _ fun x Hs2 H2 so M2 S2 e2 r2 ⟨a, kvs, j, eo, ey, hj, hm, q⟩ => by
    subst eo ey
    have ex : x = .ref a := r2
    subst ex
    obtain ⟨xs, b, eb, g1, g2, g3, g4⟩ := NGet.of S2 hm hj (rep_mono e2 r1)
    refine ⟨a, _, rfl, ⟨xs, .tup j, b, .inl g1, g2, eb, g4.up S2.own.ex, rfl⟩, ?_⟩
    rw [nd_some g3]
    exact c _ Hs2 H2 (.va (.bool _)) M2 S2 (e1.trans e2) (Dq.bl _) q
theorem ws_nput (h : WE K P0 tv G M fun s M1 => WE K P0 td G M1 fun so M2 => WE K P0 ty G M2 fun sy M3 => ∃ a kvs j, so = .rf (.ref a) ∧ sy = .va (NestedKey.tup j).data ∧ (NestedKey.tup j).depth ≤ 8 ∧ M3 a = some (.dN w kvs) ∧ kvs.length < 100000 ∧ nx G (mup M3 a (.dN w (putSK kvs (.tup j) s)))) :
    WS K P0 (sNPut K w td ty tv) G M nx rt bk ct := fun σ Hs H S L D dn dr db dc =>
  h σ Hs H S L _ fun v Hs1 H1 s M1 S1 e1 r1 h1 => h1 σ Hs1 H1 S1 (slots_mono e1 L) _ fun x Hs2 H2 so M2 S2 e2 r2 h2 => h2 σ Hs2 H2 S2 (slots_mono (e1.trans e2) L) _ fun y Hs3 H3 sy M3 S3 e3 r3 ⟨a, kvs, j, eo, ey, hj, hm, hl, q⟩ => by
    subst eo ey
    have ex : x = .ref a := r2
    subst ex
    obtain ⟨xs, b, eb, g1, g2, g3, g4⟩ := NGet.of S3 hm hj r3
    have hl2 : xs.length = kvs.length := Paired.length g3
    refine ⟨a, _, rfl, ⟨xs, .tup j, b, g1, g2, eb, g4.up S3.own.ex, Evl.sz_lt (by omega), rfl⟩, ?_⟩
    have S4 := S3.write hm (o := NDO w a (nput xs (.tup j) b v)) (ob := .dN w (putSK kvs (.tup j) s)) ⟨_, upd_same, nd_put g4 (rep_mono (e2.trans e3) r1) g3⟩
    exact dn σ Hs3 _ G _ S4 ((e1.trans e2).trans e3) (slots_mono ((e1.trans e2).trans e3) L) q
theorem we_nget2 (h : WE K P0 td G M fun so M1 => ∃ a kvs0, so = .rf (.ref a) ∧ M1 a = some (.dN w kvs0) ∧ WE K P0 ty G M1 fun sy M2 => WE K P0 tx G M2 fun sz M3 => ∃ kvs j, sy = .va (NestedKey.tup j).data ∧ (NestedKey.tup j).depth ≤ 8 ∧ M3 a = some (.dN w kvs) ∧ k ((valS kvs (.tup j)).getD sz) M3) :
    WE K P0 (tNGet2 K w td ty tx) G M k := fun σ Hs H S L Q c =>
  h σ Hs H S L _ fun x Hs1 H1 so M1 S1 e1 r1 ⟨a, kvs0, eo, hr0, h1⟩ => by
    subst eo
    have ex : x = .ref a := r1
    subst ex
    obtain ⟨xs0, d0, _⟩ := S1.own.ob _ _ hr0
    refine ⟨a, xs0, rfl, d0, ?_⟩
    refine h1 σ Hs1 H1 S1 (slots_mono e1 L) _ fun y Hs2 H2 sy M2 S2 e2 r2 h2 => h2 σ Hs2 H2 S2 (slots_mono (e1.trans e2) L) _ fun z Hs3 H3 sz M3 S3 e3 r3 ⟨kvs, j, ey, hj, hm, q⟩ => ?_
    subst ey
    obtain ⟨xs, b, eb, g1, g2, g3, g4⟩ := NGet.of S3 hm hj (rep_mono e3 r2)
    refine ⟨_, ⟨xs, .tup j, b, .inl g1, g2, eb, g4.up S3.own.ex, rfl⟩, ?_⟩
    have e13 := (e1.trans e2).trans e3
    have d3 := nd_val (k := .tup j) g3
    cases e : valS kvs (.tup j) with
    | none =>
      rw [e] at d3 q
      rw [d3]
      exact c z Hs3 H3 sz M3 S3 e13 r3 q
    | some u =>
      rw [e] at d3 q
      obtain ⟨v, v1, v2⟩ := d3
      rw [v1]
      exact c v Hs3 H3 u M3 S3 e13 v2 q
end
/-! ### what a dict holds -/
section
variable {κ : Type} [DecidableEq κ]
theorem valS_map {kvs : List (κ × Sv)} {j : κ} {v : Sv} (l : κ) : valS (kvs.map fun kv => if kv.1 = j then (kv.1, v) else kv) l = if l = j then (if (kvs.any fun kv => decide (kv.1 = j)) = true then some v else none) else valS kvs l := by
  induction kvs with
  | nil => by_cases e : l = j <;> simp [valS, e]
  | cons p ps ih =>
    rw [List.map_cons, List.any_cons]
    unfold valS at ih ⊢
    rw [List.find?_cons, List.find?_cons]
    by_cases c : p.1 = j
    · rw [if_pos c]
      by_cases e : l = j
      · subst e
        simp [c]
      · have c2 : ¬ p.1 = l := fun z => e (z.symm.trans c)
        have c3 : decide ((p.1, v).1 = l) = false := decide_eq_false c2
        rw [c3]
        show Option.map _ (List.find? _ _) = _
        rw [ih, if_neg e, if_neg e]
    · rw [if_neg c]
      by_cases e : p.1 = l
      · have e2 : ¬ l = j := fun z => c (e.trans z)
        simp [e, e2]
      · have e0 : decide (p.1 = l) = false := decide_eq_false e
        rw [e0]
        show Option.map _ (List.find? _ _) = if l = j then _ else Option.map _ (List.find? _ _)
        rw [ih]
        by_cases e3 : l = j
        · rw [if_pos e3, if_pos e3, decide_eq_false c, Bool.false_or]
        · rw [if_neg e3, if_neg e3]
theorem valS_none {kvs : List (κ × Sv)} {j : κ} : ¬ (kvs.any fun kv => decide (kv.1 = j)) = true ↔ valS kvs j = none := by
  unfold valS
  rw [Option.map_eq_none_iff, List.find?_eq_none, List.any_eq_true]
  constructor
  · intro h x hx q
    exact h ⟨x, hx, q⟩
  · rintro h ⟨x, hx, q⟩
    exact h x hx q
theorem valS_app {kvs : List (κ × Sv)} {j : κ} {v : Sv} (l : κ) (h : valS kvs j = none) : valS (kvs ++ [(j, v)]) l = if l = j then some v else valS kvs l := by
  unfold valS at *
  rw [List.find?_append]
  by_cases e : l = j
  · subst e
    have : kvs.find? (fun kv => decide (kv.1 = l)) = none := Option.map_eq_none_iff.mp h
    rw [this]
    simp
  · have e2 : ¬ j = l := fun z => e z.symm
    rw [if_neg e]
    cases kvs.find? (fun kv => decide (kv.1 = l)) with
    | none => simp [e2]
    | some x => simp
theorem valS_put (kvs : List (κ × Sv)) (j : κ) (v : Sv) (l : κ) : valS (putSK kvs j v) l = if l = j then some v else valS kvs l := by
  unfold putSK
  by_cases q : (kvs.any fun kv => decide (kv.1 = j)) = true
  · rw [if_pos q, valS_map, if_pos q]
  · rw [if_neg q]
    exact valS_app l (valS_none.mp q)
theorem keys_put (kvs : List (κ × Sv)) (j : κ) (v : Sv) : (putSK kvs j v).map (·.1) = if (valS kvs j).isSome then kvs.map (·.1) else kvs.map (·.1) ++ [j] := by
  unfold putSK
  by_cases q : (kvs.any fun kv => decide (kv.1 = j)) = true
  · rw [if_pos q]
    have h : valS kvs j ≠ none := fun z => valS_none.mpr z q
    have h2 : (valS kvs j).isSome = true := Option.isSome_iff_ne_none.mpr h
    rw [if_pos h2, List.map_map]
    apply List.map_congr_left
    intro x _
    show (if x.1 = j then (x.1, v) else x).1 = x.1
    split <;> rfl
  · rw [if_neg q, valS_none.mp q]
    simp
theorem valS_mem {kvs : List (κ × Sv)} {j : κ} : (valS kvs j).isSome = true ↔ j ∈ kvs.map (·.1) := by
  rw [Option.isSome_iff_ne_none, ne_eq, ← valS_none, Classical.not_not, List.any_eq_true, List.mem_map]
  constructor
  · rintro ⟨x, hx, q⟩; exact ⟨x, hx, of_decide_eq_true q⟩
  · rintro ⟨x, hx, q⟩; exact ⟨x, hx, decide_eq_true q⟩
theorem nodup_put {kvs : List (κ × Sv)} {j : κ} {v : Sv} (h : (kvs.map (·.1)).Nodup) : ((putSK kvs j v).map (·.1)).Nodup := by
  rw [keys_put]
  split
  · exact h
  · rename_i q
    refine List.nodup_append.mpr ⟨h, by simp, fun a ha b hb => ?_⟩
    rw [List.mem_singleton.mp hb]
    intro z
    subst z
    exact q (valS_mem.mpr ha)
theorem mem_keys_put {kvs : List (κ × Sv)} {j : κ} {v : Sv} {l : κ} : l ∈ (putSK kvs j v).map (·.1) ↔ l = j ∨ l ∈ kvs.map (·.1) := by
  rw [← valS_mem, valS_put]
  by_cases e : l = j
  · simp [e]
  · rw [if_neg e, valS_mem]
    simp [e]
end
end G91

/-! Fw12: defs that call themselves; enumerate, index, int. -/
namespace G91
open PySem PySem.Spec PyProof.Rows L2
open Evl (Ex)
open He (ga ma fAd)
section
variable {P : Program} {w : World} {K : PySem.W.Frag} {mg : Str → Option Value} {base : Heap} {x qual : Str} {st : Stmt} {f C : Addr} {ps : List Str} {k : Nat}
theorem fn_zero (F : Df K x qual st f) (hb : BindsTxt ps x qual st) : ∃ fd, FnOk P w K mg base (L2.CX P w) k f fd ps (lift K fun _ _ _ _ => False) ∧ PySem.W.keepIn K (.ref f) = true ∧ Binds K fd ps [] := by
  obtain ⟨fd, F⟩ := F.ex
  refine ⟨fd, ⟨fun vs H Q E h => ?_, fun A outer s H args us vs Q E hr he hbd hv h => ?_⟩, F.kp, F.bindsN hb⟩
  · obtain ⟨_, _, _, _, _, _, _, h, _⟩ := h; exact h.elim
  · obtain ⟨_, _, _, _, _, _, _, h, _⟩ := h; exact h.elim
theorem cal_zero (F : Df K x x st f) (hm : mg x = some (.ref f)) (hb : BindsTxt ps x x st) : Cal P w K mg base x k (lift K fun _ _ _ _ => False) := by
  obtain ⟨fd, h1, h2, h3⟩ := fn_zero F hb
  exact ⟨f, fd, ps, h1, hm, h2, h3⟩
theorem met_zero {m : Str} (F : Df K m qual st f) (hc : Cls K C) (hm : Meth K C m f) (hb : BindsTxt ps m qual st) : Met P w K mg base C m k (lift K fun _ _ _ _ => False) := by
  obtain ⟨fd, h1, h2, h3⟩ := fn_zero F hb
  exact ⟨f, fd, ps, hc, hm, h1, h3⟩
end
/-- int(x) of a bool, of a number, of figures -/
def rIntC : List V → Hp → VK → Prop := fun xs H Q => ((∃ i, xs = [V.int i] ∧ Q (.int i) H) ∨ ∃ k, xs = [V.bl k] ∧ Q (.int (if k then 1 else 0)) H) ∨ ∃ a n, xs = [V.str a] ∧ PySem.intText? a = some n ∧ a.length ≤ 640 ∧ Q (.int n) H
theorem call_intA {X : Cx} : CallR X (.type "int") rIntC := by
  intro pins s σ H xs us Q I rs h
  rcases h with h | h
  · exact call_int1 pins s σ H xs us Q I rs h
  · exact call_int_str pins s σ H xs us Q I rs h
section
variable {K : PySem.W.Frag} {P0 : Ent} {M : Mm} {G : Gm} {k : Sv → Mm → Prop} {te : TE} {s : Sv}
theorem rc_intB {b : Bool} (q : k (.va (.int (if b then 1 else 0))) M) : RCD K P0 rIntC [.va (.bool b)] M k := fun Hs H xs S r Q c => by
  obtain ⟨x, rfl, r1⟩ := reps1 r
  cases (show Dq K Hs x (.bool b) from r1)
  exact .inl (.inr ⟨b, rfl, c _ Hs H (.va (.int (if b then 1 else 0))) M S (Ex.refl _) (Dq.int _) q⟩)
/-- enumerate(xs): new pairs of data -/
theorem wi_enum {tr : TA} {kk : Nat → (Nat → Sv) → (Mm → Prop) → Mm → Prop} (h : WA K P0 tr G M fun ss M1 => ∃ (s : Sv) (ds : List PyData), ss = [s] ∧ RL M1 s (ds.map Sv.va) ∧ kk ds.length (fun i => .va (.tuple [.int (i : Int), ds.getD i .none])) (fun M' => RL M' s (ds.map Sv.va)) M1) :
    WI K P0 (iEnum K tr) G M kk := fun σ Hs H S L R c =>
  h σ Hs H S L _ fun xs Hs1 H1 ss M1 S1 e1 r1 ⟨s, ds, l, l1, q⟩ => by
    subst l
    obtain ⟨x, rfl, r⟩ := reps1 r1
    obtain ⟨a, us, ex, h1, h2⟩ := l1.at S1 r
    subst ex
    refine ⟨a, us, rfl, .inl (.inl h1), c (Ite K a) Hs1 H1 _ _ _ M1 S1 e1 (fun Hs2 M2 H2 S2 e2 st => ?_) q⟩
    obtain ⟨a2, us2, ea, g1, g2⟩ := st.at S2 (rep_mono e2 r)
    cases ea
    have hl := reps_length g2
    rw [List.length_map] at hl
    have q1 : SqL K H2 a us2 := .inl (.inl g1)
    refine ⟨fun i hi => ?_, us2, q1, by omega⟩
    have hi1 : i < us2.length := by omega
    refine ⟨⟨us2, us2[i], q1, List.getElem?_eq_getElem hi1⟩, fun x H' hy => ?_⟩
    obtain ⟨T, x1, rfl, nT, rfl, f1⟩ := hy
    obtain ⟨S3, e3⟩ := S2.share nT (.tup [.int (i : Nat), x1])
    have d1 := dpAll_of_reps g2
    obtain ⟨v1, p1, p2⟩ := dpAll_get d1 (i := i) (d := ds.getD i .none) (by rw [List.getD_eq_getElem?_getD, List.getElem?_eq_getElem (by omega)] <;> rfl)
    have z1 := f1 _ q1
    rw [p1] at z1
    cases z1
    exact ⟨_, S3, e3, Dq.tup (Evl.st_of upd_same) (.cons (Dq.int _) (.cons (dp_mono e3 p2) .nil))⟩
/-- xs.index(x) -/
theorem we_index {tr : TA} (h : WE K P0 te G M fun so M1 => ∃ ds, RL M1 so (ds.map Sv.va) ∧ WA K P0 tr G M1 fun as M2 => ∃ (sx : Sv) (d z : PyData) (j : Nat), as = [sx] ∧ DR M2 sx d ∧ DR M2 so (.list ds) ∧ SeqAt.shaped (.list ds) = true ∧ SeqAt.shaped d = true ∧
    ds[j]? = some z ∧ PyData.eqv z d = true ∧ (∀ (m : Nat) (z' : PyData), m < j → ds[m]? = some z' → PyData.eqv z' d = false) ∧ k (.va (.int (j : Int))) M2) :
    WE K P0 (tBM K "list" (rIndexD K) te tr) G M k := fun σ Hs H S L Q c =>
  h σ Hs H S L _ fun x Hs1 H1 so M1 S1 e1 r1 ⟨ds, l, h1⟩ => by
    obtain ⟨a, xs0, ex, g0, _⟩ := l.at S1 r1
    subst ex
    refine ⟨.inl ⟨rfl, xs0, .inl (.inl g0)⟩, ?_⟩
    refine h1 σ Hs1 H1 S1 (slots_mono e1 L) _ fun ys Hs2 H2 as M2 S2 e2 r2 ⟨sx, d, z, j, ea, hd, hl, sl, sd, hz, hzj, hno, q⟩ => ?_
    subst ea
    obtain ⟨y, rfl, ry⟩ := reps1 r2
    exact ⟨a, y, d, ds, j, z, rfl, rfl, dq_dp (hl.at S2 (rep_mono e2 r1)) (shaped_lay sl), dq_dp (hd.at S2 ry) (shaped_lay sd), sl, sd, hz, hzj, hno, c _ Hs2 H2 (.va (.int (j : Int))) M2 S2 (e1.trans e2) (Dq.int _) q⟩
end
end G91

/-! Fw13: displays of dicts; tuple(xs). -/
namespace G91
open PySem PySem.Spec PyProof.Rows L2
open Evl (Ex)
open He (ga ma fAd)
/-- tuple(x) of a list, of a tuple -/
def rTupleC (K : PySem.W.Frag) : List V → Hp → VK → Prop := fun xs H Q => ∃ p ys, xs = [.ref p] ∧ ((SqL K H p ys ∧ ∀ l, H l = none → Q (.ref l) (upd H l (.tup ys))) ∨ (SqT K H p ys ∧ Q (.ref p) H))
theorem call_tupleA {X : Cx} : CallR X (.type "tuple") (rTupleC X.K) := call_tuple_of
def mergeS (kvs more : List (Key × Sv)) : List (Key × Sv) := more.foldl (fun acc kv => putSK acc kv.1 kv.2) kvs
section
variable {K : PySem.W.Frag} {P0 : Ent} {M : Mm} {G : Gm} {k : Sv → Mm → Prop} {s : Sv} {tk tv : TE}
theorem rc_tupleL {ds : List PyData} (l : RL M s (ds.map Sv.va)) (q : k (.va (.tuple ds)) M) : RCD K P0 (rTupleC K) [s] M k := fun Hs H xs S r Q c => by
  obtain ⟨x, rfl, r1⟩ := reps1 r
  obtain ⟨a, ys, rfl, h1, h2⟩ := l.at S r1
  refine ⟨a, ys, rfl, .inl ⟨.inl (.inl h1), fun p hp => ?_⟩⟩
  obtain ⟨S2, e2⟩ := S.share hp (.tup ys)
  exact c (.ref p) _ _ (.va (.tuple ds)) M S2 e2 (Dq.tup (Evl.st_of upd_same) (dpAll_mono e2 (dpAll_of_reps h2))) q
/-- the pairs of a display -/
def WPs (K : PySem.W.Frag) (P0 : Ent) (trs : List (TE × TE)) (G : Gm) (M : Mm) (k : List (Key × Sv) → Mm → Prop) : Prop := ∀ σ Hs H, St0 K P0 M Hs H → Slots K Hs σ G → ∀ Q : List (V × V) → Hp → Prop,
  (∀ kvs Hs' H' ss M', St0 K P0 M' Hs' H' → Ex Hs Hs' → DPr K Hs' kvs ss → k ss M' → Q (kvs.map fun kv => (kV kv.1, kv.2)) H') → tPairs trs σ H Q
theorem wps_nil {k : List (Key × Sv) → Mm → Prop} (q : k [] M) : WPs K P0 [] G M k := fun σ Hs H S L Q c => c [] Hs H [] M S (Ex.refl _) .nil q
theorem wps_cons {trs : List (TE × TE)} {k : List (Key × Sv) → Mm → Prop} (h : WE K P0 tk G M fun sk M1 => ∃ j, sk = .va (kS j) ∧ WE K P0 tv G M1 fun s M2 => WPs K P0 trs G M2 fun ss M3 => k ((j, s) :: ss) M3) : WPs K P0 ((tk, tv) :: trs) G M k := fun σ Hs H S L Q c =>
  h σ Hs H S L _ fun x Hs1 H1 sk M1 S1 e1 r1 ⟨j, ej, h1⟩ => h1 σ Hs1 H1 S1 (slots_mono e1 L) _ fun y Hs2 H2 s M2 S2 e2 r2 h2 => h2 σ Hs2 H2 S2 (slots_mono (e1.trans e2) L) _ fun kvs Hs3 H3 ss M3 S3 e3 r3 q => by
    subst ej
    have ex := kS_inv (show Dq K Hs1 x (kS j) from r1)
    subst ex
    exact c ((j, y) :: kvs) Hs3 H3 ((j, s) :: ss) M3 S3 ((e1.trans e2).trans e3) (.cons ⟨rfl, rep_mono e3 r2⟩ r3) q
theorem dp_merge {Hs : Hp} : ∀ {more : List (Key × V)} {ms : List (Key × Sv)} {kvs : List (Key × V)} {ss : List (Key × Sv)}, DPr K Hs more ms → DPr K Hs kvs ss → DPr K Hs (mergeK kvs more) (mergeS ss ms)
  | _, _, _, _, .nil, h => h
  | (a, x) :: as, (b, t) :: bs, kvs, ss, .cons r q, h => by
    obtain ⟨e, r⟩ := r
    have e : a = b := e
    subst e
    exact (show DPr K Hs (mergeK (putK kvs a x) as) (mergeS (putSK ss a t) bs) from dp_merge q (dp_put r h))
/-- {k: v, ..} -/
theorem we_disp {trs : List (TE × TE)} (h : ∀ p, M p = none → WPs K P0 trs G (mup M p (.dK [])) fun ss M2 => M2 p = some (.dK []) ∧ ss.length ≤ 15 ∧ k (.rf (.ref p)) (mup M2 p (.dK (mergeS [] ss)))) : WE K P0 (tDisp trs) G M k := fun σ Hs H S L Q c => fun p hp => by
  have S1 := S.make hp (o := .dK []) (ob := .dK []) ⟨[], upd_same, .nil⟩
  refine h p (S.own.free hp).1 σ Hs _ S1 L _ fun kvs Hs' H' ss M' S' e' r' ⟨hm, hl, q⟩ => ?_
  obtain ⟨ks, g1, g2⟩ := S'.own.ob _ _ hm
  cases g2
  refine ⟨g1, kvs, rfl, by rw [Paired.length r']; exact hl, ?_⟩
  have S2 := S'.write hm (o := .dK (mergeK [] kvs)) (ob := .dK (mergeS [] ss)) ⟨_, upd_same, dp_merge r' .nil⟩
  exact c (.ref p) Hs' _ (.rf (.ref p)) _ S2 e' rfl q
end
end G91

/-! Fw14: for i in reversed(range(a, b)). -/
namespace G91
open PySem PySem.Spec PyProof.Rows L2
open Evl (Ex)
section
variable {K : PySem.W.Frag} {P0 : Ent} {M : Mm} {G : Gm} {kk : Nat → (Nat → Sv) → (Mm → Prop) → Mm → Prop}
theorem wi_revR2 {ta tb : TE} (h : WE K P0 ta G M fun s1 M1 => WE K P0 tb G M1 fun s2 M2 => ∃ a b : Int, s1 = .va (.int a) ∧ s2 = .va (.int b) ∧ a ≤ 100000 ∧ -100000 ≤ a ∧ b ≤ 100000 ∧ -100000 ≤ b ∧ kk (b - a).toNat (fun i => .va (.int (a + ((b - a).toNat : Int) - 1 - (i : Int)))) (fun _ => True) M2) : WI K P0 (iRevR (tRg2 ta tb)) G M kk := fun σ Hs H S L R c =>
  h σ Hs H S L _ fun x Hs1 H1 s1 M1 S1 e1 r1 h1 => h1 σ Hs1 H1 S1 (slots_mono e1 L) _ fun y Hs2 H2 s2 M2 S2 e2 r2 ⟨a, b, l1, l2, n1, n2, n3, n4, q⟩ => by
    subst l1 l2
    cases (show Dq K Hs1 x (.int a) from r1)
    cases (show Dq K Hs2 y (.int b) from r2)
    refine ⟨a, b, rfl, rfl, by omega, by omega, by omega, by omega, c (Itc (a + (((b - a).toNat : Nat) : Int) - 1) (-1) (b - a).toNat) Hs2 H2 _ _ _ M2 S2 (e1.trans e2) (fun Hs3 M3 H3 S3 e3 _ => ⟨fun i hi => ⟨hi, fun x H' ⟨eH, e4⟩ => ?_⟩, Nat.le_refl _⟩) q⟩
    subst eH
    subst e4
    refine ⟨Hs3, S3, Ex.refl _, ?_⟩
    have e5 : a + (((b - a).toNat : Nat) : Int) - 1 + (i : Int) * -1 = a + (((b - a).toNat : Nat) : Int) - 1 - (i : Int) := by omega
    rw [e5]
    exact Dq.int _
end
end G91

/-! Fw15: the keys of a dict whose keys are tuples of any depth, walked while it is locked. -/
namespace G91
open PySem PySem.Spec PyProof.Rows L2
open Evl (Ex)
open He (ga ma fAd)
section
variable {X : Cx} {pins : List (Addr × Obj)} {σ : L2.St} {H : Hp} {s : Shared} {d : Addr} {o : Obj}
theorem pr_get {α β : Type} {R : α → β → Prop} : ∀ {xs : List α} {ys : List β}, Paired R xs ys → ∀ {i : Nat} {x : α}, xs[i]? = some x → ∃ y, ys[i]? = some y ∧ R x y
  | _, _, .nil, i, x, h => by simp at h
  | _, _, .cons r t, 0, x, h => by simp at h; subst h; exact ⟨_, rfl, r⟩
  | _, _, .cons r t, i + 1, x, h => by
    obtain ⟨y, h1, h2⟩ := pr_get t (i := i) (by simpa using h)
    exact ⟨y, by simpa using h1, h2⟩
theorem frzN {xs : List NEnt} (I : Inv X pins σ H s) (h : H d = some (.frz o (NDO X.w d xs))) :
    (d == sysModules) = false ∧ s.heap.get? d = some o ∧ o.ExactDict ∧ ∃ (es : Array DictEntry) (ep : Nat), o.data = .dict es ep ∧ es.size = xs.length ∧
      ∀ (i : Nat) (x : NEnt), xs[i]? = some x → ∃ en : DictEntry, es[i]? = some en ∧ en.key = .ref x.2.1 := by
  obtain ⟨hd, ⟨z, hs, ys, hp, o', es, ep, ho, hx, hdt, he, _⟩, _⟩ := I.hok d _ h
  rw [hd] at ho
  cases ho
  have hl : xs.length = ys.length := Paired.length hp
  refine ⟨hs, hd, hx, es, ep, hdt, ?_, fun i x e => ?_⟩
  · have : es.toList.length = ys.length := by rw [he, List.length_map]
    rw [Array.length_toList] at this
    omega
  · obtain ⟨y, h1, h2⟩ := pr_get hp e
    refine ⟨⟨y.1.hash X.w, .ref y.2.1, y.2.2⟩, ?_, ?_⟩
    · rw [← Array.getElem?_toList, he, List.getElem?_map, h1]; rfl
    · show Value.ref y.2.1 = _
      rw [h2.2.1]
/-- the keys of the locked dict at d, in their order -/
def Itkn (w : World) (d : Addr) (o : Obj) (xs : List NEnt) : It :=
  ⟨fun i H => H d = some (.frz o (NDO w d xs)) ∧ i < xs.length, fun i H x H' => H' = H ∧ ∃ y : NEnt, xs[i]? = some y ∧ x = .ref y.2.1, fun i H => H d = some (.frz o (NDO w d xs)) ∧ xs.length ≤ i⟩
theorem turn_keysN {P : Program} {w : World} {K : PySem.W.Frag} {tg : Expr} {es : Array DictEntry} {ep : Nat} {xs : List NEnt} (it : Addr) (hod : o.data = .dict es ep) : Turn P w K tg (Itkn w d o xs) [it] it (fun i h => h.IsKeyIter it d i xs.length ep) where
  mem := by simp
  obj := fun i h st b hb => by
    have e : b = it := by simpa using hb
    subst e
    obtain ⟨oi, e, c, dd⟩ := st
    exact ⟨oi, e, fun v z => by rw [dd] at z; cases z⟩
  keep := fun i h h' st k => st.at fun oi e => k it (by simp) oi e
  item := by
    intro X hP hw hK hc i pins s σ H E I hf st hg
    subst hP hw hK
    obtain ⟨hd, hi⟩ := hg
    obtain ⟨f0, f1, f2, f3, f4, f5⟩ := hf it (by simp)
    obtain ⟨hs, hgd, hx, es', ep', hdt, hsz, ent⟩ := frzN I hd
    obtain ⟨rfl, rfl⟩ := dict_ep hod hdt
    obtain ⟨y, hkv⟩ : ∃ p, xs[i]? = some p := ⟨xs[i], List.getElem?_eq_getElem hi⟩
    obtain ⟨en, hen, hkey⟩ := ent i y hkv
    refine next_key_item st hgd hdt hsz hen fun h' st' sb => ?_
    have I1 : Inv X pins σ H { s with heap := h' } := I.turned (t' := s.toks) (fun b ob hb e => (sb.2 b hb).trans e) f0 f1 f3 f4 f5
    obtain ⟨oi, e, c, dd⟩ := id st'
    exact ⟨en.key, rfl, go_of (s := { s with heap := h' }) e c dd (by decide) ⟨.ref y.2.1, H, I1, hkey, ⟨rfl, y, hkv, rfl⟩, st', fun b hb => (hf b hb).1⟩⟩
  done := by
    intro X hP hw hK hc i pins s σ H E I hf st hg
    subst hP hw hK
    obtain ⟨hd, hi⟩ := hg
    obtain ⟨f0, f1, f2, f3, f4, f5⟩ := hf it (by simp)
    obtain ⟨hs, hgd, hx, es', ep', hdt, hsz, ent⟩ := frzN I hd
    obtain ⟨rfl, rfl⟩ := dict_ep hod hdt
    exact next_key_end (I.ok.hd hc) st hgd hdt hsz hi fun h' eb => ⟨rfl, I.turned (t' := s.toks) (fun b ob hb e => eb b ob hb e) f0 f1 f3 f4 f5⟩
  self := fun A i s Q E st h => wpAny_pyIter_keyiter st h
def iKeysN (w : World) (td : TE) : TI := fun σ H R => td σ H fun x H1 => ∃ d o xs, x = .ref d ∧ H1 d = some (.frz o (NDO w d xs)) ∧ R (Itkn w d o xs) H1
theorem pi_keysN {X : Cx} {tg e : Expr} {td : TE} (he : PE X e td) : PI X tg e (iKeysN X.w td) := by
  refine ⟨fun pins s σ H R I h => ?_⟩
  refine thn (he.run pins s σ H _ I h) fun u s1 ⟨x, H1, I1, rx, d, o, xs, ex, hd, q⟩ => ?_
  subst ex
  obtain rfl : u = Value.ref d := rx
  obtain ⟨hs, hgd, hx, es, ep, hdt, hsz, ent⟩ := frzN I1 hd
  refine iter_keys hs hgd hx hdt (pi_one (tk := s1.toks) I1 _ (turn_keysN _ hdt) ⟨_, Heap.get?_push_size _ rfl, rfl, ?_⟩ q)
  rw [hsz] <;> rfl
end
section
variable {K : PySem.W.Frag} {P0 : Ent} {M : Mm} {G : Gm} {k : Sv → Mm → Prop} {td te : TE} {t : TS} {nx : Gm → Mm → Prop} {rt : Sv → Mm → Prop} {bk ct : Gm → Mm → Prop} {w : World}
theorem ws_lockN {a : Addr} {kvs : List (NestedKey × Sv)} (hm : M a = some (.dN w kvs)) (h : ∀ od ks, WS K P0 t G (mup M a (.kN w od ks kvs)) (fun G' M' => M' a = some (.kN w od ks kvs) ∧ nx G' (mup M' a (.dN w kvs))) (fun s M' => M' a = some (.kN w od ks kvs) ∧ rt s (mup M' a (.dN w kvs)))
    (fun G' M' => M' a = some (.kN w od ks kvs) ∧ bk G' (mup M' a (.dN w kvs))) (fun G' M' => M' a = some (.kN w od ks kvs) ∧ ct G' (mup M' a (.dN w kvs)))) : WS K P0 (tLock t) G M nx rt bk ct := fun σ Hs H S L D dn dr db dc => by
  obtain ⟨ks, h1, h2⟩ := S.own.ob a _ hm
  refine ⟨a, NDO w a ks, h1, trivial, fun od => ?_⟩
  have S1 := S.write hm (o := .frz od (NDO w a ks)) (ob := .kN w od ks kvs) ⟨upd_same, h2⟩
  have un : ∀ {M' : Mm} {Hs' H' : Hp}, St0 K P0 M' Hs' H' → Ex Hs Hs' → M' a = some (.kN w od ks kvs) → H' a = some (.frz od (NDO w a ks)) ∧ St0 K P0 (mup M' a (.dN w kvs)) Hs' (upd H' a (NDO w a ks)) := fun {M' Hs' H'} S' e' hk => by
    obtain ⟨g1, g2⟩ := S'.own.ob a _ hk
    exact ⟨g1, S'.write hk (o := NDO w a ks) (ob := .dN w kvs) ⟨ks, upd_same, g2⟩⟩
  exact h od ks σ Hs _ S1 L _ (fun σ2 Hs2 H2 G2 M2 S2 e2 L2 ⟨q1, q2⟩ => let ⟨g1, g2⟩ := un S2 e2 q1; ⟨g1, dn σ2 Hs2 _ G2 _ g2 e2 L2 q2⟩) (fun v Hs2 H2 s M2 S2 e2 r ⟨q1, q2⟩ => let ⟨g1, g2⟩ := un S2 e2 q1; ⟨g1, dr v Hs2 _ s _ g2 e2 r q2⟩)
    (fun σ2 Hs2 H2 G2 M2 S2 e2 L2 ⟨q1, q2⟩ => let ⟨g1, g2⟩ := un S2 e2 q1; ⟨g1, db σ2 Hs2 _ G2 _ g2 e2 L2 q2⟩) (fun σ2 Hs2 H2 G2 M2 S2 e2 L2 ⟨q1, q2⟩ => let ⟨g1, g2⟩ := un S2 e2 q1; ⟨g1, dc σ2 Hs2 _ G2 _ g2 e2 L2 q2⟩)
theorem wi_keysN {kk : Nat → (Nat → Sv) → (Mm → Prop) → Mm → Prop} (h : WE K P0 td G M fun s M1 => ∃ a od ks kvs, s = .rf (.ref a) ∧ M1 a = some (.kN w od ks kvs) ∧ kk kvs.length (fun i => .va (kvs.getD i (.none, .va .none)).1.data) (fun M' => M' a = some (.kN w od ks kvs)) M1) : WI K P0 (iKeysN w td) G M kk := fun σ Hs H S L R c =>
  h σ Hs H S L _ fun x Hs1 H1 s M1 S1 e1 r1 ⟨a, od, ks, kvs, es, hm, q⟩ => by
    subst es
    have ex : x = .ref a := r1
    subst ex
    obtain ⟨g1, g2⟩ := S1.own.ob a _ hm
    refine ⟨a, od, ks, rfl, g1, c (Itkn w a od ks) Hs1 H1 kvs.length _ _ M1 S1 e1 (fun Hs2 M2 H2 S2 e2 st => ?_) q⟩
    obtain ⟨f1, f2⟩ := S2.own.ob a _ st
    have hl : ks.length = kvs.length := Paired.length f2
    refine ⟨fun i hi => ⟨⟨f1, by omega⟩, fun x H' ⟨eH, y, hy, ex⟩ => ?_⟩, f1, by omega⟩
    subst eH
    subst ex
    refine ⟨Hs2, S2, Ex.refl _, ?_⟩
    obtain ⟨z, h1, h2⟩ := pr_get f2 hy
    have e0 : (kvs.getD i (.none, .va .none)).1 = y.1 := by
      rw [List.getD_eq_getElem?_getD, h1]
      exact h2.1.symm
    rw [e0]
    exact h2.2.2.1
end
end G91

/-! Ma2: how great shares are; elimination. -/
namespace G91
open PySem PySem.Spec PyProof.Rows L2
open Builtin.Int (intBits)

/-- a share of at most m bits, above and below -/
def Bt (m : Nat) (r : Rat) : Prop := intBits r.num ≤ m ∧ intBits (r.den : Int) ≤ m
theorem Bt.mono {m n : Nat} {r : Rat} (h : Bt m r) (e : m ≤ n) : Bt n r := ⟨Nat.le_trans h.1 e, Nat.le_trans h.2 e⟩
theorem Bt.fit {m : Nat} {r : Rat} (h : Bt m r) (e : m ≤ 60000000) : Fit r := h.mono e
theorem bt_shr {t b : Int} {m : Nat} (hb : 0 < b) (h1 : intBits t ≤ m) (h2 : intBits b ≤ m) : Bt m (shr t b) := by
  have hg : (0 : Int) < (Int.gcd t b : Int) := by
    have : Int.gcd t b ≠ 0 := fun z => by rw [Int.gcd_eq_zero_iff] at z; omega
    omega
  refine ⟨intBits_le_of_natAbs ?_ h1, intBits_le_of_natAbs ?_ h2⟩
  · rw [shr_num hb, Int.natAbs_ediv_of_dvd (Int.gcd_dvd_left ..)]
    exact Nat.div_le_self _ _
  · rw [shr_den hb, Int.natAbs_ediv_of_dvd (Int.gcd_dvd_right ..)]
    exact Nat.div_le_self _ _
theorem Bt.add {m n : Nat} {r s : Rat} (h : Bt m r) (g : Bt n s) : Bt (m + n + 1) (r + s) := by
  rw [← shr_add]
  refine bt_shr (Int.mul_pos (den_pos r) (den_pos s)) (Nat.le_trans (intBits_add_le (intBits_mul_le h.1 g.2) (intBits_mul_le g.1 h.2)) (by omega)) (Nat.le_trans (intBits_mul_le h.2 g.2) (by omega))
theorem Bt.sub {m n : Nat} {r s : Rat} (h : Bt m r) (g : Bt n s) : Bt (m + n + 1) (r - s) := by
  rw [← shr_sub]
  refine bt_shr (Int.mul_pos (den_pos r) (den_pos s)) (Nat.le_trans (intBits_sub_le (intBits_mul_le h.1 g.2) (intBits_mul_le g.1 h.2)) (by omega)) (Nat.le_trans (intBits_mul_le h.2 g.2) (by omega))
theorem Bt.mul {m n : Nat} {r s : Rat} (h : Bt m r) (g : Bt n s) : Bt (m + n) (r * s) := by
  rw [← shr_mul]
  exact bt_shr (Int.mul_pos (den_pos r) (den_pos s)) (intBits_mul_le h.1 g.1) (intBits_mul_le h.2 g.2)
theorem Bt.div {m n : Nat} {r s : Rat} (h : Bt m r) (g : Bt n s) (hs : 0 < s) : Bt (m + n) (r / s) := by
  rw [← shr_div r s hs]
  exact bt_shr (Int.mul_pos (den_pos r) (num_pos_of hs)) (intBits_mul_le h.1 g.2) (Nat.le_trans (intBits_mul_le h.2 g.1) (by omega))
theorem bt0 : Bt 1 0 := ⟨by decide, by decide⟩
theorem bt1 : Bt 1 1 := ⟨by decide, by decide⟩
theorem nn0 : (0 : Rat) ≤ 0 := Rat.le_refl
theorem nn1 : (0 : Rat) ≤ 1 := by decide
theorem fit0 : Fit 0 := bt0.fit (by decide)
theorem fit1 : Fit 1 := bt1.fit (by decide)
theorem nn_div {r s : Rat} (h : 0 ≤ r) (g : 0 < s) : 0 ≤ r / s := by
  rw [Rat.div_def]
  exact Rat.mul_nonneg h (Rat.le_of_lt (Rat.inv_pos.mpr g))
/-! elimination -/
structure Sy where
  R : Nat → Nat → Rat
  F : Nat → Rat
def gOwn (S : Sy) (at_ : Nat) (j : Nat) : Rat := if j = at_ then 0 else S.R at_ j / (1 - S.R at_ at_)
def gEnd (S : Sy) (at_ : Nat) : Rat := S.F at_ / (1 - S.R at_ at_)
def gStep (S : Sy) (at_ : Nat) : Sy :=
  ⟨fun i j => if i = at_ then gOwn S at_ j else (if j = at_ then 0 else S.R i j) + S.R i at_ * gOwn S at_ j, fun i => if i = at_ then gEnd S at_ else S.F i + S.R i at_ * gEnd S at_⟩
def gSt (S : Sy) : Nat → Sy
  | 0 => S
  | t + 1 => gStep (gSt S t) t
/-- from nought on, not too great -/
def Ok1 (r : Rat) : Prop := 0 ≤ r ∧ Bt 9000000 r
def SyOk (n : Nat) (S : Sy) : Prop := ∀ i, i < n → (∀ j, j < n → Ok1 (S.R i j)) ∧ Ok1 (S.F i)
def rowD (n : Nat) (w : Nat → Rat) : List PyData := (List.range n).map fun j => shD (w j)
theorem rowD_len {n : Nat} {w : Nat → Rat} : (rowD n w).length = n := by unfold rowD; simp
theorem rowD_at {n : Nat} {w : Nat → Rat} {j : Nat} (h : j < n) : (rowD n w)[j]? = some (shD (w j)) := by unfold rowD; simp [h]
theorem rowD_set {n : Nat} {w : Nat → Rat} {j : Nat} {r : Rat} : (rowD n w).set j (shD r) = rowD n fun i => if i = j then r else w i := by
  unfold rowD
  apply List.ext_getElem?
  intro i
  by_cases e : j = i
  · subst e
    by_cases h : j < n
    · rw [List.getElem?_set_self (by simpa using h)]
      simp [h]
    · rw [List.getElem?_eq_none (by simp; omega), List.getElem?_eq_none (by simp; omega)]
  · rw [List.getElem?_set_ne e]
    by_cases h : i < n
    · simp [h, Ne.symm e]
    · rw [List.getElem?_eq_none (by simp; omega), List.getElem?_eq_none (by simp; omega)]
theorem map_set_va {ds : List PyData} {j : Nat} {d : PyData} : (ds.map Sv.va).set j (.va d) = (ds.set j d).map Sv.va := by
  rw [List.map_set]
theorem rowD_congr {n : Nat} {w u : Nat → Rat} (h : ∀ j, j < n → w j = u j) : rowD n w = rowD n u := by
  unfold rowD
  apply List.map_congr_left
  intro j hj
  rw [h j (List.mem_range.mp hj)]
end G91
namespace G91
open PySem PySem.Spec PyProof.Rows L2
theorem atI_nat {α : Type} {xs : List α} {j : Nat} {x : α} (h : xs[j]? = some x) : atI xs (j : Int) = some x := by
  have h1 : j < xs.length := (List.getElem?_eq_some_iff.mp h).1
  unfold atI
  rw [ixN_nat (by omega) (by omega), Int.toNat_natCast]
  exact h
theorem rowS_at {n j : Nat} {w : Nat → Rat} (h : j < n) : ((rowD n w).map Sv.va)[j]? = some (.va (shD (w j))) := by
  rw [List.getElem?_map, rowD_at h]
  rfl
theorem rowS_getD {n j : Nat} {w : Nat → Rat} (h : j < n) : ((rowD n w).map Sv.va).getD j (.va .none) = .va (shD (w j)) := by
  rw [List.getD_eq_getElem?_getD, rowS_at h] <;> rfl
theorem rowS_len {n : Nat} {w : Nat → Rat} : ((rowD n w).map Sv.va).length = n := by rw [List.length_map, rowD_len]
section
variable {K : PySem.W.Frag} {P0 : Ent} {G : Gm} {M : Mm} {k : Sv → Mm → Prop} {s : Sv} {n j : Nat} {w : Nat → Rat} {i : Nat}
theorem r2_ixRow (l : RL M s ((rowD n w).map Sv.va)) (h : j < n) (q : k (.va (shD (w j))) M) : R2D K P0 (rIx K) s (.va (.int (j : Int))) M k := r2_ixL l (atI_nat (rowS_at h)) q
theorem rc_lenRow (l : RL M s ((rowD n w).map Sv.va)) (q : k (.va (.int (n : Int))) M) : RCD K P0 (rLenC K) [s] M k := rc_lenL l (by rw [rowS_len]; exact q)
theorem rowS_set {r : Rat} : ((rowD n w).map Sv.va).set j (.va (shD r)) = (rowD n fun i => if i = j then r else w i).map Sv.va := by rw [map_set_va, rowD_set]
theorem ixN_row (h : j < n) : ixN ((rowD n w).map Sv.va).length (j : Int) = some j := by
  rw [rowS_len, ixN_nat (by omega) (by omega), Int.toNat_natCast]
end
end G91
namespace G91
open PySem PySem.Spec PyProof.Rows L2
def ownW (w : Nat → Rat) (at_ j : Nat) : Rat := if j = at_ then 0 else w j / (1 - w at_)
theorem Ok1.rest {w : Rat} (h : Ok1 w) (l : w < 1) : 0 < 1 - w ∧ Bt 9000002 (1 - w) := ⟨by grind, (bt1.sub h.2).mono (by decide)⟩
theorem ownW_ok {w : Nat → Rat} {n at_ j : Nat} (hw : ∀ j, j < n → Ok1 (w j)) (hat : at_ < n) (l : w at_ < 1) (hj : j < n) : 0 ≤ ownW w at_ j ∧ Bt 20000000 (ownW w at_ j) := by
  unfold ownW
  obtain ⟨h1, h2⟩ := (hw at_ hat).rest l
  split
  · exact ⟨nn0, bt0.mono (by decide)⟩
  · exact ⟨nn_div (hw j hj).1 h1, ((hw j hj).2.div h2 h1).mono (by decide)⟩
theorem endW_ok {v w : Rat} (hv : Ok1 v) (hw : Ok1 w) (l : w < 1) : 0 ≤ v / (1 - w) ∧ Bt 20000000 (v / (1 - w)) := by
  obtain ⟨h1, h2⟩ := hw.rest l
  exact ⟨nn_div hv.1 h1, (hv.2.div h2 h1).mono (by decide)⟩
end G91
namespace G91
open PySem PySem.Spec PyProof.Rows L2
/-- the first i rows stand at ad, new since M0 -/
structure Rw (M0 M : Mm) (n : Nat) (R : Nat → Nat → Rat) (i : Nat) (ad : Nat → Addr) : Prop where
  nw : ∀ j, j < i → M0 (ad j) = none
  is_ : ∀ j, j < i → M (ad j) = some (.lst ((rowD n (R j)).map Sv.va))
  inj : ∀ j l, j < i → l < i → j ≠ l → ad j ≠ ad l
section
variable {M0 M M' : Mm} {n i : Nat} {R R' : Nat → Nat → Rat} {ad : Nat → Addr}
theorem Rw.mono (h : Rw M0 M n R i ad) (k : ∀ j, j < i → M' (ad j) = M (ad j)) : Rw M0 M' n R i ad := ⟨h.nw, fun j hj => by rw [k j hj]; exact h.is_ j hj, h.inj⟩
theorem Rw.congr (h : Rw M0 M n R i ad) (e : ∀ j l, j < i → l < n → R j l = R' j l) : Rw M0 M n R' i ad := ⟨h.nw, fun j hj => by rw [← rowD_congr (e j · hj)]; exact h.is_ j hj, h.inj⟩
theorem Rw.push (h : Rw M0 M n R i ad) {q : Addr} (hq : M0 q = none) (hi : M' q = some (.lst ((rowD n (R i)).map Sv.va))) (ne : ∀ j, j < i → ad j ≠ q) (k : ∀ j, j < i → M' (ad j) = M (ad j)) : Rw M0 M' n R (i + 1) (fun j => if j = i then q else ad j) where
  nw := fun j hj => by
    by_cases e : j = i
    · rw [if_pos e]; exact hq
    · rw [if_neg e]; exact h.nw j (by omega)
  is_ := fun j hj => by
    by_cases e : j = i
    · rw [if_pos e, e]; exact hi
    · rw [if_neg e, k j (by omega)]; exact h.is_ j (by omega)
  inj := fun j l hj hl hn => by
    by_cases e : j = i
    · rw [if_pos e, if_neg (by omega)]; exact Ne.symm (ne l (by omega))
    · rw [if_neg e]
      by_cases e2 : l = i
      · rw [if_pos e2]; exact ne j (by omega)
      · rw [if_neg e2]; exact h.inj j l (by omega) (by omega) hn
theorem Rw.put (h : Rw M0 M n R i ad) {q : Addr} {a : Nat} {w : Nat → Rat} (ha : a < i) (hq : M0 q = none) (hi : M' q = some (.lst ((rowD n w).map Sv.va))) (ne : ∀ j, j < i → j ≠ a → ad j ≠ q) (k : ∀ j, j < i → j ≠ a → M' (ad j) = M (ad j)) :
    Rw M0 M' n (fun j => if j = a then w else R j) i (fun j => if j = a then q else ad j) where
  nw := fun j hj => by
    by_cases e : j = a
    · rw [if_pos e]; exact hq
    · rw [if_neg e]; exact h.nw j hj
  is_ := fun j hj => by
    by_cases e : j = a
    · rw [if_pos e, if_pos e]; exact hi
    · rw [if_neg e, if_neg e, k j hj e]; exact h.is_ j hj
  inj := fun j l hj hl hn => by
    by_cases e : j = a
    · rw [if_pos e, if_neg (by omega)]; exact Ne.symm (ne l hl (by omega))
    · rw [if_neg e]
      by_cases e2 : l = a
      · rw [if_pos e2]; exact ne j hj e
      · rw [if_neg e2]; exact h.inj j l hj hl hn
theorem Rw.set (h : Rw M0 M n R i ad) {a : Nat} {w : Nat → Rat} (ha : a < i) (hi : M' (ad a) = some (.lst ((rowD n w).map Sv.va))) (k : ∀ j, j < i → j ≠ a → M' (ad j) = M (ad j)) : Rw M0 M' n (fun j => if j = a then w else R j) i ad where
  nw := h.nw
  is_ := fun j hj => by
    by_cases e : j = a
    · rw [if_pos e, e]; exact hi
    · rw [if_neg e, k j hj e]; exact h.is_ j hj
  inj := h.inj
end
/-- a list of things at addresses -/
def adL (n : Nat) (ad : Nat → Addr) : List Sv := (List.range n).map fun i => .rf (.ref (ad i))
theorem adL_len {n : Nat} {ad : Nat → Addr} : (adL n ad).length = n := by unfold adL; simp
theorem adL_at {n j : Nat} {ad : Nat → Addr} (h : j < n) : (adL n ad)[j]? = some (.rf (.ref (ad j))) := by unfold adL; simp [h]
theorem adL_set {n j : Nat} {ad : Nat → Addr} {q : Addr} : (adL n ad).set j (.rf (.ref q)) = adL n fun i => if i = j then q else ad i := by
  apply List.ext_getElem?
  intro i
  by_cases e : j = i
  · subst e
    by_cases h : j < n
    · rw [List.getElem?_set_self (by rw [adL_len]; exact h), adL_at h, if_pos rfl]
    · rw [List.getElem?_eq_none (by rw [List.length_set, adL_len]; omega), List.getElem?_eq_none (by rw [adL_len]; omega)]
  · rw [List.getElem?_set_ne e]
    by_cases h : i < n
    · rw [adL_at h, adL_at h, if_neg (Ne.symm e)]
    · rw [List.getElem?_eq_none (by rw [adL_len]; omega), List.getElem?_eq_none (by rw [adL_len]; omega)]
theorem adL_succ {n : Nat} {ad : Nat → Addr} {q : Addr} : adL n ad ++ [.rf (.ref q)] = adL (n + 1) fun i => if i = n then q else ad i := by
  unfold adL
  rw [List.range_succ, List.map_append]
  congr 1
  · apply List.map_congr_left
    intro j hj
    have := List.mem_range.mp hj
    show _ = Sv.rf (V.ref (if j = n then q else ad j))
    rw [if_neg (by omega)]
  · simp
/-- the state of an elimination -/
structure SyAt (M0 M : Mm) (n : Nat) (S : Sy) (R F : Addr) (ad : Nat → Addr) : Prop where
  rows : Rw M0 M n S.R n ad
  rl : M R = some (.lst (adL n ad))
  fl : M F = some (.lst ((rowD n S.F).map Sv.va))
  ext : Mext M0 M
  nR : M0 R = none
  nF : M0 F = none
  dR : ∀ i, i < n → ad i ≠ R
  dF : ∀ i, i < n → ad i ≠ F
  RF : R ≠ F
def sysD (n : Nat) (S : Sy) : PyData := .list ((List.range n).map fun i => .list (rowD n (S.R i)))
/-- amid step t: the rows before k are put in -/
def midSy (S : Sy) (t k : Nat) : Sy :=
  ⟨fun i j => if i < k then (gStep S t).R i j else if i = t then ownW (S.R t) t j else S.R i j, fun i => if i < k then (gStep S t).F i else if i = t then gEnd S t else S.F i⟩
end G91

/-! Ma3: sums; what elimination finds. -/
namespace G91
open PySem PySem.Spec PyProof.Rows L2
open Builtin.Int (intBits)
def sumN : Nat → (Nat → Rat) → Rat
  | 0, _ => 0
  | n + 1, f => sumN n f + f n
theorem sumN_congr {f g : Nat → Rat} : ∀ {n : Nat}, (∀ j, j < n → f j = g j) → sumN n f = sumN n g
  | 0, _ => rfl
  | n + 1, h => by
    unfold sumN
    rw [sumN_congr fun j hj => h j (by omega), h n (by omega)]
theorem sumN_add {f g : Nat → Rat} : ∀ n : Nat, sumN n (fun j => f j + g j) = sumN n f + sumN n g
  | 0 => by show (0 : Rat) = 0 + 0; grind
  | n + 1 => by
    unfold sumN
    rw [sumN_add n]
    grind
theorem sumN_mul {f : Nat → Rat} {c : Rat} : ∀ n : Nat, sumN n (fun j => c * f j) = c * sumN n f
  | 0 => by show (0 : Rat) = c * 0; grind
  | n + 1 => by
    unfold sumN
    rw [sumN_mul n]
    grind
theorem sumN_zero {f : Nat → Rat} : ∀ {n : Nat}, (∀ j, j < n → f j = 0) → sumN n f = 0
  | 0, _ => rfl
  | n + 1, h => by
    unfold sumN
    rw [sumN_zero fun j hj => h j (by omega), h n (by omega)]
    grind
theorem sumN_nn {f : Nat → Rat} : ∀ {n : Nat}, (∀ j, j < n → 0 ≤ f j) → 0 ≤ sumN n f
  | 0, _ => Rat.le_refl
  | n + 1, h => by
    unfold sumN
    have := sumN_nn (f := f) (n := n) fun j hj => h j (by omega)
    have := h n (by omega)
    grind
theorem sumN_le {f g : Nat → Rat} : ∀ {n : Nat}, (∀ j, j < n → f j ≤ g j) → sumN n f ≤ sumN n g
  | 0, _ => Rat.le_refl
  | n + 1, h => by
    unfold sumN
    have := sumN_le (f := f) (g := g) (n := n) fun j hj => h j (by omega)
    have := h n (by omega)
    grind
/-- one term taken out -/
theorem sumN_out {f : Nat → Rat} {a : Nat} : ∀ {n : Nat}, a < n → sumN n f = sumN n (fun j => if j = a then 0 else f j) + f a
  | 0, h => by omega
  | n + 1, h => by
    unfold sumN
    by_cases e : n = a
    · subst e
      show _ = sumN n (fun j => if j = n then 0 else f j) + (if n = n then 0 else f n) + f n
      rw [if_pos rfl, sumN_congr (f := fun j => if j = n then 0 else f j) (g := f) fun j hj => if_neg (by omega)]
      grind
    · show _ = sumN n (fun j => if j = a then 0 else f j) + (if n = a then 0 else f n) + f a
      rw [if_neg e, sumN_out (n := n) (a := a) (by omega)]
      grind
theorem sumN_single {a : Nat} {c : Rat} {n : Nat} (h : a < n) : sumN n (fun j => if j = a then c else 0) = c := by
  rw [sumN_out h, if_pos rfl, sumN_zero]
  · grind
  · intro j hj
    by_cases e : j = a
    · rw [if_pos e]
    · rw [if_neg e, if_neg e]
/-- x is what the unknowns of S are -/
def Solves (n : Nat) (S : Sy) (x : Nat → Rat) : Prop := ∀ i, i < n → x i = S.F i + sumN n fun j => S.R i j * x j
theorem solves_step {n t : Nat} {S : Sy} {x : Nat → Rat} (ht : t < n) (hl : S.R t t < 1) (h : Solves n (gStep S t) x) : Solves n S x := by
  have hne : (1 : Rat) - S.R t t ≠ 0 := by grind
  have eT : x t = gEnd S t + sumN n fun j => gOwn S t j * x j := by
    have := h t ht
    rw [this]
    show (if t = t then gEnd S t else _) + _ = _
    rw [if_pos rfl]
    congr 1
    apply sumN_congr
    intro j hj
    show (if t = t then gOwn S t j else _) * x j = _
    rw [if_pos rfl]
  have eO : sumN n (fun j => S.R t j * x j) = sumN n (fun j => if j = t then 0 else S.R t j * x j) + S.R t t * x t := sumN_out ht
  have eG : (1 - S.R t t) * (sumN n fun j => gOwn S t j * x j) = sumN n (fun j => if j = t then 0 else S.R t j * x j) := by
    rw [← sumN_mul]
    apply sumN_congr
    intro j hj
    unfold gOwn
    by_cases e : j = t
    · rw [if_pos e, if_pos e]; grind
    · rw [if_neg e, if_neg e]
      grind
  have eE : (1 - S.R t t) * gEnd S t = S.F t := by
    unfold gEnd
    grind
  intro i hi
  by_cases e : i = t
  · subst e
    rw [eO, ← eG]
    have : (1 - S.R i i) * x i = (1 - S.R i i) * (gEnd S i + sumN n fun j => gOwn S i j * x j) := congrArg (fun z => (1 - S.R i i) * z) eT
    grind
  · have hi' := h i hi
    have e1 : (gStep S t).F i = S.F i + S.R i t * gEnd S t := by
      show (if i = t then _ else _) = _
      rw [if_neg e]
    have e2 : sumN n (fun j => (gStep S t).R i j * x j) = sumN n (fun j => if j = t then 0 else S.R i j * x j) + S.R i t * sumN n fun j => gOwn S t j * x j := by
      rw [← sumN_mul, ← sumN_add]
      apply sumN_congr
      intro j hj
      show (if i = t then _ else (if j = t then 0 else S.R i j) + S.R i t * gOwn S t j) * x j = _
      rw [if_neg e]
      by_cases e3 : j = t
      · rw [if_pos e3, if_pos e3]; grind
      · rw [if_neg e3, if_neg e3]; grind
    rw [hi', e1, e2, sumN_out (f := fun j => S.R i j * x j) ht]
    grind
theorem col_zero {n : Nat} {S : Sy} : ∀ {t : Nat}, t ≤ n → ∀ i j, i < n → j < t → (gSt S t).R i j = 0
  | 0, _, i, j, _, hj => by omega
  | t + 1, ht, i, j, hi, hj => by
    have ih := col_zero (n := n) (S := S) (t := t) (by omega)
    show (if i = t then gOwn (gSt S t) t j else (if j = t then 0 else (gSt S t).R i j) + (gSt S t).R i t * gOwn (gSt S t) t j) = 0
    have eo : gOwn (gSt S t) t j = 0 := by
      unfold gOwn
      by_cases e : j = t
      · rw [if_pos e]
      · rw [if_neg e, ih t j (by omega) (by omega)]
        grind
    rw [eo]
    by_cases e : i = t
    · rw [if_pos e]
    · rw [if_neg e]
      by_cases e2 : j = t
      · rw [if_pos e2]; grind
      · rw [if_neg e2, ih i j hi (by omega)]; grind
/-- what elimination finds solves the system -/
theorem solves_of {n : Nat} {S : Sy} (h : ∀ t, t < n → (gSt S t).R t t < 1) : Solves n S (gSt S n).F := by
  have last : Solves n (gSt S n) (gSt S n).F := fun i hi => by
    rw [sumN_zero fun j hj => by rw [col_zero (Nat.le_refl n) i j hi hj]; grind]
    grind
  have down : ∀ d, d ≤ n → Solves n (gSt S (n - d)) (gSt S n).F := by
    intro d
    induction d with
    | zero => intro _; exact last
    | succ d ih =>
      intro hd
      have e : n - d = (n - (d + 1)) + 1 := by omega
      have h1 := ih (by omega)
      rw [e] at h1
      exact solves_step (by omega) (h _ (by omega)) h1
  have := down n (Nat.le_refl n)
  rw [Nat.sub_self] at this
  exact this
/-! how great the numbers become, row by row -/
def Row (m n : Nat) (w : Nat → Rat) : Prop := ∃ d : Int, 0 < d ∧ intBits d ≤ m ∧ ∀ j, j < n → ∃ z : Int, 0 ≤ z ∧ intBits z ≤ m ∧ w j = (z : Rat) / (d : Rat)
theorem Row.mono {m m' n : Nat} {w : Nat → Rat} (h : Row m n w) (e : m ≤ m') : Row m' n w := by
  obtain ⟨d, h1, h2, h3⟩ := h
  exact ⟨d, h1, by omega, fun j hj => let ⟨z, a, b, c⟩ := h3 j hj; ⟨z, a, by omega, c⟩⟩
theorem rat_pos {d : Int} (h : 0 < d) : (0 : Rat) < (d : Rat) := by exact_mod_cast h
theorem rat_nn {d : Int} (h : 0 ≤ d) : (0 : Rat) ≤ (d : Rat) := by exact_mod_cast h
theorem bt_frac {z d : Int} {m : Nat} (h : 0 < d) (h1 : intBits z ≤ m) (h2 : intBits d ≤ m) : Bt m ((z : Rat) / (d : Rat)) := by
  rw [← shr_eq z d h]
  exact bt_shr h h1 h2
theorem Row.bt {m n j : Nat} {w : Nat → Rat} (h : Row m n w) (hj : j < n) : 0 ≤ w j ∧ Bt m (w j) := by
  obtain ⟨d, h1, h2, h3⟩ := h
  obtain ⟨z, a, b, c⟩ := h3 j hj
  rw [c]
  exact ⟨nn_div (rat_nn a) (rat_pos h1), bt_frac h1 b h2⟩
theorem Row.own {m n at_ : Nat} {w : Nat → Rat} (h : Row m n w) (hat : at_ < n) (l : w at_ < 1) : Row m n (ownW w at_) := by
  obtain ⟨d, h1, h2, h3⟩ := h
  obtain ⟨z, a, b, c⟩ := h3 at_ hat
  have hd := rat_pos h1
  have hzd : z < d := by
    have : (z : Rat) < (d : Rat) := by
      rw [c] at l
      have := (Rat.div_lt_iff hd).mp l
      grind
    exact_mod_cast this
  refine ⟨d - z, by omega, intBits_le_of_natAbs (by omega) h2, fun j hj => ?_⟩
  obtain ⟨y, a2, b2, c2⟩ := h3 j hj
  unfold ownW
  by_cases e : j = at_
  · rw [if_pos e]
    refine ⟨0, by omega, by rw [show intBits 0 = 0 from rfl]; omega, ?_⟩
    have : ((0 : Int) : Rat) = 0 := rfl
    rw [this]
    grind
  · rw [if_neg e]
    refine ⟨y, a2, b2, ?_⟩
    rw [c2, c]
    have : ((d - z : Int) : Rat) = (d : Rat) - (z : Rat) := by push_cast; rfl
    rw [this]
    have h5 : (0 : Rat) < (d : Rat) - (z : Rat) := by
      have := rat_pos (show 0 < d - z by omega)
      grind
    grind
theorem Row.put {m n at_ : Nat} {w u : Nat → Rat} (h : Row m n w) (g : Row m n u) (hat : at_ < n) : Row (2 * m + 1) n fun j => (if j = at_ then 0 else w j) + w at_ * u j := by
  obtain ⟨d, h1, h2, h3⟩ := h
  obtain ⟨e, g1, g2, g3⟩ := g
  obtain ⟨z, a, b, c⟩ := h3 at_ hat
  refine ⟨d * e, Int.mul_pos h1 g1, Nat.le_trans (intBits_mul_le h2 g2) (by omega), fun j hj => ?_⟩
  obtain ⟨x, a1, b1, c1⟩ := h3 j hj
  obtain ⟨y, a2, b2, c2⟩ := g3 j hj
  have hd := rat_pos h1
  have he := rat_pos g1
  have hd' : (d : Rat) ≠ 0 := by grind
  have he' : (e : Rat) ≠ 0 := by grind
  by_cases q : j = at_
  · refine ⟨z * y, Int.mul_nonneg a a2, Nat.le_trans (intBits_mul_le b b2) (by omega), ?_⟩
    show (if j = at_ then 0 else w j) + w at_ * u j = _
    rw [if_pos q, c, c2]
    push_cast
    grind
  · refine ⟨x * e + z * y, Int.add_nonneg (Int.mul_nonneg a1 (Int.le_of_lt g1)) (Int.mul_nonneg a a2), Nat.le_trans (intBits_add_le (intBits_mul_le b1 g2) (intBits_mul_le b b2)) (by omega), ?_⟩
    show (if j = at_ then 0 else w j) + w at_ * u j = _
    rw [if_neg q, c, c2, c1]
    push_cast
    grind
def SyB (m c n : Nat) (S : Sy) : Prop := ∀ i, i < n → Row m n (S.R i) ∧ 0 ≤ S.F i ∧ Bt c (S.F i)
theorem SyB.step {m c n t : Nat} {S : Sy} (h : SyB m c n S) (ht : t < n) (l : S.R t t < 1) : SyB (2 * m + 1) (2 * c + 3 * m + 3) n (gStep S t) := by
  have hr : 0 < 1 - S.R t t := by grind
  have ho := (h t ht).1.own ht l
  obtain ⟨d, h1, h2, h3⟩ := (h t ht).1
  obtain ⟨z, a, b, c'⟩ := h3 t ht
  have hb : Bt m (1 - S.R t t) := by
    have hd := rat_pos h1
    have hzd : z < d := by
      have : (z : Rat) < (d : Rat) := by
        rw [c'] at l
        have := (Rat.div_lt_iff hd).mp l
        grind
      exact_mod_cast this
    have e : 1 - S.R t t = ((d - z : Int) : Rat) / (d : Rat) := by
      rw [c']
      push_cast
      grind
    rw [e]
    exact bt_frac h1 (intBits_le_of_natAbs (by omega) h2) h2
  have hE : 0 ≤ gEnd S t ∧ Bt (c + m) (gEnd S t) := ⟨nn_div (h t ht).2.1 hr, (h t ht).2.2.div hb hr⟩
  intro i hi
  by_cases e : i = t
  · subst e
    have e1 : (gStep S i).R i = ownW (S.R i) i := by
      funext j
      show (if i = i then gOwn S i j else _) = _
      rw [if_pos rfl]
      rfl
    have e2 : (gStep S i).F i = gEnd S i := by
      show (if i = i then gEnd S i else _) = _
      rw [if_pos rfl]
    rw [e1, e2]
    exact ⟨ho.mono (by omega), hE.1, hE.2.mono (by omega)⟩
  · have e1 : (gStep S t).R i = fun j => (if j = t then 0 else S.R i j) + S.R i t * ownW (S.R t) t j := by
      funext j
      show (if i = t then _ else (if j = t then 0 else S.R i j) + S.R i t * gOwn S t j) = _
      rw [if_neg e]
      rfl
    have e2 : (gStep S t).F i = S.F i + S.R i t * gEnd S t := by
      show (if i = t then _ else _) = _
      rw [if_neg e]
    rw [e1, e2]
    have hit := (h i hi).1.bt ht
    refine ⟨(h i hi).1.put ho ht, ?_, ((h i hi).2.2.add (hit.2.mul hE.2)).mono (by omega)⟩
    have := Rat.mul_nonneg hit.1 hE.1
    have := (h i hi).2.1
    grind
end G91
namespace G91
open PySem PySem.Spec PyProof.Rows L2
open Builtin.Int (intBits)
theorem Row.set {m c n i : Nat} {w : Nat → Rat} {a b : Int} (h : Row m n w) (ha : 0 ≤ a) (hb : 0 < b) (h1 : intBits a ≤ c) (h2 : intBits b ≤ c) : Row (m + c) n fun j => if j = i then shr a b else w j := by
  obtain ⟨d, d1, d2, d3⟩ := h
  refine ⟨d * b, Int.mul_pos d1 hb, intBits_mul_le d2 h2, fun j hj => ?_⟩
  have hd := rat_pos d1
  have hb' := rat_pos hb
  have hd' : (d : Rat) ≠ 0 := by grind
  have hb2 : (b : Rat) ≠ 0 := by grind
  obtain ⟨z, z1, z2, z3⟩ := d3 j hj
  by_cases e : j = i
  · refine ⟨d * a, Int.mul_nonneg (Int.le_of_lt d1) ha, intBits_mul_le d2 h1, ?_⟩
    show (if j = i then shr a b else w j) = _
    rw [if_pos e, shr_eq a b hb]
    push_cast
    grind
  · refine ⟨z * b, Int.mul_nonneg z1 (Int.le_of_lt hb), intBits_mul_le z2 h2, ?_⟩
    show (if j = i then shr a b else w j) = _
    rw [if_neg e, z3]
    push_cast
    grind
theorem shr_one (a : Int) : shr a 1 = (a : Rat) := by
  rw [shr_eq a 1 (by decide)]
  have : ((1 : Int) : Rat) = 1 := rfl
  rw [this]
  grind
theorem shD_int (a : Int) : shD (shr a 1) = .tuple [.int a, .int 1] := by
  rw [shD_shr (by decide)]
  have : Int.gcd a 1 = 1 := by simp
  rw [this]
  simp
theorem shD_inv {b : Int} (hb : 0 < b) : shD (shr 1 b) = .tuple [.int 1, .int b] := by
  rw [shD_shr hb]
  have : Int.gcd 1 b = 1 := by simp
  rw [this]
  simp
/-- elimination of what is small -/
theorem SyB.all {n : Nat} {S : Sy} (h : SyB 10 10 n S) : ∀ {t : Nat}, t ≤ n → (∀ u, u < t → (gSt S u).R u u < 1) → SyB (11 * 5 ^ t - 1) (11 * 5 ^ t - 1) n (gSt S t)
  | 0, _, _ => fun i hi => ⟨(h i hi).1.mono (by decide), (h i hi).2.1, (h i hi).2.2.mono (by decide)⟩
  | t + 1, ht, hu => by
    have := (h.all (t := t) (by omega) fun u hu' => hu u (by omega)).step (t := t) (by omega) (hu t (by omega))
    have e1 : 1 ≤ 5 ^ t := Nat.one_le_pow _ _ (by decide)
    have e2 : 5 ^ (t + 1) = 5 * 5 ^ t := by rw [Nat.pow_succ]; omega
    generalize 5 ^ t = x at *
    rw [e2]
    exact fun i hi => ⟨(this i hi).1.mono (by omega), (this i hi).2.1, (this i hi).2.2.mono (by omega)⟩
theorem pow5_le {t : Nat} (h : t ≤ 6) : 11 * 5 ^ t - 1 ≤ 171874 := by
  have : 5 ^ t ≤ 5 ^ 6 := Nat.pow_le_pow_right (by decide) h
  omega
end G91
namespace G91
open PySem PySem.Spec PyProof.Rows L2
theorem rowD_succ {n : Nat} {w : Nat → Rat} : rowD (n + 1) w = rowD n w ++ [shD (w n)] := by
  unfold rowD
  rw [List.range_succ, List.map_append]
  rfl
theorem rowS_push {n : Nat} {w : Nat → Rat} {r : Rat} : (rowD n w).map Sv.va ++ [.va (shD r)] = (rowD (n + 1) fun j => if j = n then r else w j).map Sv.va := by
  rw [rowD_succ, List.map_append, if_pos rfl, rowD_congr (u := fun j => if j = n then r else w j) fun j hj => (if_neg (by omega)).symm]
  rfl
end G91
namespace G91
open PySem PySem.Spec PyProof.Rows L2
/-- rows of one's own, a list of them at L -/
structure LeAt (M M' : Mm) (n : Nat) (R : Nat → Nat → Rat) (L : Addr) (ad : Nat → Addr) : Prop where
  rows : Rw M M' n R n ad
  rl : M' L = some (.lst (adL n ad))
  ext : Mext M M'
  nL : M L = none
  dL : ∀ j, j < n → ad j ≠ L
theorem LeAt.set {M M' : Mm} {n i j : Nat} {R : Nat → Nat → Rat} {L : Addr} {ad : Nat → Addr} {r : Rat} (h : LeAt M M' n R L ad) (hi : i < n) :
    LeAt M (mup M' (ad i) (.lst (((rowD n (R i)).map Sv.va).set j (.va (shD r))))) n (fun a => if a = i then fun b => if b = j then r else R i b else R a) L ad :=
  ⟨h.rows.set hi (by rw [mup_same, rowS_set]) fun a ha hn => mup_ne (h.rows.inj a i ha hi hn), by rw [mup_ne (Ne.symm (h.dL i hi))]; exact h.rl, fun a o e => by rw [mup_ne (mne e (h.rows.nw i hi))]; exact h.ext a o e, h.nL, h.dL⟩
theorem rest_eq {r : Rat} (h : r < 1) : shr (r.den : Int) ((r.den : Int) - r.num) = 1 / (1 - r) ∧ 0 < (r.den : Int) - r.num := by
  have hd := den_pos r
  have h1 : r.num < (r.den : Int) := by
    have := (lt_cross r 1).mpr h
    have e1 : (1 : Rat).num = 1 := rfl
    have e2 : (1 : Rat).den = 1 := rfl
    rw [e1, e2] at this
    simpa using this
  refine ⟨?_, by omega⟩
  rw [shr_eq _ _ (by omega)]
  have e := rat_eq r
  have hdn := den_ne r
  have e3 : (((r.den : Int) - r.num : Int) : Rat) = (r.den : Rat) - (r.num : Rat) := by push_cast; rfl
  have e4 : (((r.den : Int)) : Rat) = (r.den : Rat) := by push_cast; rfl
  rw [e3, e4]
  have h5 : (0 : Rat) < (r.den : Rat) - (r.num : Rat) := by
    have := rat_pos (show 0 < (r.den : Int) - r.num by omega)
    rw [e3] at this
    exact this
  have e5 : (1 : Rat) - r = ((r.den : Rat) - (r.num : Rat)) / (r.den : Rat) := by
    conv => lhs; rw [e]
    grind
  rw [e5]
  grind
theorem ge_cross (r : Rat) : r.num ≥ (r.den : Int) ↔ 1 ≤ r := by
  have h := lt_cross r 1
  have e1 : (1 : Rat).num = 1 := rfl
  have e2 : (1 : Rat).den = 1 := rfl
  rw [e1, e2] at h
  rw [← Rat.not_lt, ← h]
  simp
end G91
namespace G91
open PySem PySem.Spec PyProof.Rows L2
/-- data that may be compared, nested m deep -/
def Shp (m : Nat) (d : PyData) : Prop := d.canLay0 = true ∧ d.depth ≤ m
theorem Shp.mono {m n : Nat} {d : PyData} (h : Shp m d) (e : m ≤ n) : Shp n d := ⟨h.1, Nat.le_trans h.2 e⟩
theorem Shp.ok {m : Nat} {d : PyData} (h : Shp m d) (e : m ≤ 64) : SeqAt.shaped d = true := Bool.and_eq_true_iff.mpr ⟨h.1, decide_eq_true (Nat.le_trans h.2 e)⟩
theorem shp_all {m : Nat} : ∀ {xs : List PyData}, (∀ x ∈ xs, Shp m x) → PyData.canLayAll0 xs = true ∧ PyData.depthAll xs ≤ m
  | [], _ => ⟨rfl, Nat.zero_le _⟩
  | x :: xs, h => by
    obtain ⟨a, b⟩ := shp_all fun y hy => h y (List.mem_cons_of_mem _ hy)
    have c := h x List.mem_cons_self
    refine ⟨Bool.and_eq_true_iff.mpr ⟨c.1, a⟩, ?_⟩
    show max x.depth (PyData.depthAll xs) ≤ m
    have := c.2
    omega
theorem shp_list {m : Nat} {xs : List PyData} (h : ∀ x ∈ xs, Shp m x) : Shp (m + 1) (.list xs) := by
  obtain ⟨a, b⟩ := shp_all h
  exact ⟨a, by show PyData.depthAll xs + 1 ≤ m + 1; omega⟩
theorem shp_tuple {m : Nat} {xs : List PyData} (h : ∀ x ∈ xs, Shp m x) : Shp (m + 1) (.tuple xs) := by
  obtain ⟨a, b⟩ := shp_all h
  exact ⟨a, by show PyData.depthAll xs + 1 ≤ m + 1; omega⟩
theorem shp_int (m : Nat) (i : Int) : Shp m (.int i) := ⟨rfl, Nat.zero_le _⟩
theorem shp_bool (m : Nat) (b : Bool) : Shp m (.bool b) := ⟨rfl, Nat.zero_le _⟩
theorem shp_shD (r : Rat) : Shp 1 (shD r) := shp_tuple (m := 0) fun x hx => by
  rcases List.mem_cons.mp hx with h | h
  · rw [h]; exact shp_int _ _
  · rw [List.mem_singleton.mp h]; exact shp_int _ _
theorem shp_rowD {n : Nat} {w : Nat → Rat} : Shp 2 (.list (rowD n w)) := shp_list fun x hx => by
  unfold rowD at hx
  obtain ⟨a, _, rfl⟩ := List.mem_map.mp hx
  exact shp_shD _
theorem shp_sysD {n : Nat} {S : Sy} : Shp 3 (sysD n S) := shp_list fun x hx => by
  obtain ⟨a, _, rfl⟩ := List.mem_map.mp hx
  exact shp_rowD
theorem pl_all : ∀ {xs : List PyData}, (∀ x ∈ xs, plD x = true) → plA xs = true
  | [], _ => rfl
  | x :: xs, h => Bool.and_eq_true_iff.mpr ⟨h x List.mem_cons_self, pl_all fun y hy => h y (List.mem_cons_of_mem _ hy)⟩
theorem pl_rowD {n : Nat} {w : Nat → Rat} : plD (.list (rowD n w)) = true := pl_all fun x hx => by
  unfold rowD at hx
  obtain ⟨a, _, rfl⟩ := List.mem_map.mp hx
  rfl
theorem pl_sysD {n : Nat} {S : Sy} : plD (sysD n S) = true := pl_all fun x hx => by
  obtain ⟨a, _, rfl⟩ := List.mem_map.mp hx
  exact pl_rowD
end G91

/-! Ma4: grammars. -/
namespace G91
open PySem PySem.Spec PyProof.Rows L2
structure RuleD where
  head : Str
  body : List Str
  part : Rat
def ruleD (r : RuleD) : PyData := .tuple [.str r.head, .tuple (r.body.map PyData.str), shD r.part]
def rulesD (rs : List RuleD) : List PyData := rs.map ruleD
def letters : Str := "abcdefghijklmnopqrstuvwxyzABCDEFGHIJKLMNOPQRSTUVWXYZ"
def isSym (x : Str) : Bool := decide (x.cps.size ≠ 0) && (decide (x.cps.size ≤ 8) && x.cps.toList.all fun c => decide (c ∈ letters.cps.toList))
/-- a text of the script: not too long, of code points -/
def TxtOk (x : Str) : Prop := x.cps.size ≤ 1000 ∧ PyData.strOk x = true
theorem TxtOk.shp {x : Str} (h : TxtOk x) (m : Nat) : Shp m (.str x) := ⟨h.2, Nat.zero_le _⟩
theorem TxtOk.len {x : Str} (h : TxtOk x) : x.length ≤ 100000 := by
  have := h.1
  show x.cps.size ≤ 100000
  omega
def addHead (acc : List Str) (h : Str) : List Str := if h ∈ acc then acc else acc ++ [h]
def headsOf (rs : List RuleD) : List Str := rs.foldl (fun acc r => addHead acc r.head) []
theorem headsOf_snoc {rs : List RuleD} {r : RuleD} : headsOf (rs ++ [r]) = addHead (headsOf rs) r.head := by unfold headsOf; rw [List.foldl_append] <;> rfl
theorem mem_addHead {acc : List Str} {h x : Str} : x ∈ addHead acc h ↔ x ∈ acc ∨ x = h := by
  unfold addHead
  split
  · rename_i e
    constructor
    · exact .inl
    · rintro (q | q)
      · exact q
      · rw [q]; exact e
  · rw [List.mem_append, List.mem_singleton]
theorem nd_addHead {acc : List Str} {h : Str} (n : acc.Nodup) : (addHead acc h).Nodup := by
  unfold addHead
  split
  · exact n
  · rename_i e
    rw [List.nodup_append]
    refine ⟨n, by simp, fun a ha b hb => ?_⟩
    rw [List.mem_singleton.mp hb]
    intro z
    rw [z] at ha
    exact e ha
theorem snoc_ind {α : Type} {P : List α → Prop} (h0 : P []) (hs : ∀ l a, P l → P (l ++ [a])) (l : List α) : P l := by
  have : ∀ n (l : List α), l.length = n → P l := by
    intro n
    induction n with
    | zero => intro l h; rw [List.length_eq_zero_iff.mp h]; exact h0
    | succ n ih =>
      intro l h
      have hne : l ≠ [] := fun z => by rw [z] at h; cases h
      rw [← List.dropLast_concat_getLast hne]
      exact hs _ _ (ih _ (by rw [List.length_dropLast, h]; rfl))
  exact this _ l rfl
theorem headsOf_nd (rs : List RuleD) : (headsOf rs).Nodup := by
  induction rs using snoc_ind with
  | h0 => exact List.nodup_nil
  | hs l a ih => rw [headsOf_snoc]; exact nd_addHead ih
theorem mem_headsOf {rs : List RuleD} {x : Str} : x ∈ headsOf rs ↔ ∃ r ∈ rs, r.head = x := by
  induction rs using snoc_ind with
  | h0 => simp [headsOf]
  | hs l a ih =>
    rw [headsOf_snoc, mem_addHead, ih]
    constructor
    · rintro (⟨r, h1, h2⟩ | h)
      · exact ⟨r, List.mem_append_left _ h1, h2⟩
      · exact ⟨a, by simp, h.symm⟩
    · rintro ⟨r, h1, h2⟩
      rcases List.mem_append.mp h1 with h | h
      · exact .inl ⟨r, h, h2⟩
      · rw [List.mem_singleton.mp h] at h2; exact .inr h2.symm
/-- the sum of a head's shares -/
def partSum : List RuleD → Str → Rat
  | [], _ => 0
  | r :: rs, h => (if r.head = h then r.part else 0) + partSum rs h
theorem partSum_snoc {rs : List RuleD} {r : RuleD} {h : Str} : partSum (rs ++ [r]) h = partSum rs h + if r.head = h then r.part else 0 := by
  induction rs with
  | nil => show (if r.head = h then r.part else 0) + 0 = 0 + _; grind
  | cons a rs ih =>
    show (if a.head = h then a.part else 0) + partSum (rs ++ [r]) h = (if a.head = h then a.part else 0) + partSum rs h + _
    rw [ih]; grind
theorem partSum_none {rs : List RuleD} {h : Str} (n : h ∉ headsOf rs) : partSum rs h = 0 := by
  induction rs with
  | nil => rfl
  | cons a rs ih =>
    have h1 : a.head ≠ h := fun z => n (mem_headsOf.mpr ⟨a, by simp, z⟩)
    have h2 : h ∉ headsOf rs := fun z => n (by
      obtain ⟨r, q1, q2⟩ := mem_headsOf.mp z
      exact mem_headsOf.mpr ⟨r, by simp [q1], q2⟩)
    show (if a.head = h then a.part else 0) + partSum rs h = 0
    rw [if_neg h1, ih h2]; grind
/-! dicts of texts -/
def dm (l : List Str) (f : Str → Sv) : List (Key × Sv) := l.map fun h => (Sum.inr h, f h)
theorem dm_len {l : List Str} {f : Str → Sv} : (dm l f).length = l.length := by unfold dm; simp
theorem valS_dm {f : Str → Sv} {h : Str} : ∀ {l : List Str}, valS (dm l f) (.inr h) = if h ∈ l then some (f h) else none
  | [] => rfl
  | a :: l => by
    have ih := valS_dm (f := f) (h := h) (l := l)
    unfold valS dm at ih ⊢
    rw [List.map_cons, List.find?_cons]
    by_cases e : a = h
    · subst e
      simp
    · have e1 : decide (((Sum.inr a, f a) : Key × Sv).1 = Sum.inr h) = false := decide_eq_false fun z => e (by injection z)
      rw [e1]
      have e2 : h ∈ a :: l ↔ h ∈ l := by simp [Ne.symm e]
      rw [show (if h ∈ a :: l then some (f h) else none) = if h ∈ l then some (f h) else none by simp only [e2]]
      exact ih
theorem dm_any {f : Str → Sv} {h : Str} {l : List Str} : ((dm l f).any fun kv => decide (kv.1 = (Sum.inr h : Key))) = decide (h ∈ l) := by
  rw [Bool.eq_iff_iff, List.any_eq_true, decide_eq_true_iff]
  unfold dm
  constructor
  · rintro ⟨p, h1, h2⟩
    obtain ⟨a, ha, rfl⟩ := List.mem_map.mp h1
    have := of_decide_eq_true h2
    injection this with e
    rw [← e]; exact ha
  · intro hm
    exact ⟨(.inr h, f h), List.mem_map.mpr ⟨h, hm, rfl⟩, decide_eq_true rfl⟩
theorem putSK_dm {f : Str → Sv} {h : Str} {v : Sv} {l : List Str} : putSK (dm l f) (.inr h) v = dm (addHead l h) fun x => if x = h then v else f x := by
  unfold putSK addHead
  rw [dm_any]
  by_cases e : h ∈ l
  · rw [if_pos (decide_eq_true e), if_pos e]
    unfold dm
    rw [List.map_map]
    apply List.map_congr_left
    intro a _
    show (if (Sum.inr a : Key) = Sum.inr h then ((Sum.inr a : Key), v) else (Sum.inr a, f a)) = (Sum.inr a, if a = h then v else f a)
    by_cases z : a = h
    · subst z; rw [if_pos rfl, if_pos rfl]
    · rw [if_neg (fun q => z (by injection q)), if_neg z]
  · rw [if_neg (by simp [e]), if_neg e]
    unfold dm
    rw [List.map_append]
    congr 1
    · apply List.map_congr_left
      intro a ha
      show ((Sum.inr a : Key), f a) = (Sum.inr a, if a = h then v else f a)
      rw [if_neg (show ¬ a = h from fun z => e (by rw [← z]; exact ha))]
    · show [((Sum.inr h : Key), v)] = [(Sum.inr h, if h = h then v else f h)]
      rw [if_pos rfl]
theorem dm_congr {l : List Str} {f g : Str → Sv} (h : ∀ x ∈ l, f x = g x) : dm l f = dm l g := by
  unfold dm
  apply List.map_congr_left
  intro a ha
  rw [h a ha]
/-! live heads -/
def closedL (rs : List RuleD) (c : List Str) : Prop := ∀ r ∈ rs, (∀ s ∈ r.body, s ∈ headsOf rs → s ∈ c) → r.head ∈ c
structure IsLive (rs : List RuleD) (l : List Str) : Prop where
  cl : closedL rs l
  least : ∀ c, closedL rs c → ∀ x ∈ l, x ∈ c
  nd : l.Nodup
  sub : ∀ x ∈ l, x ∈ headsOf rs
def live (rs : List RuleD) (h : Str) : Prop := ∀ c, closedL rs c → h ∈ c
theorem IsLive.iff {rs : List RuleD} {l : List Str} (h : IsLive rs l) {x : Str} : x ∈ l ↔ live rs x := ⟨fun q c hc => h.least c hc x q, fun q => q l h.cl⟩
theorem live_head {rs : List RuleD} {h : Str} (q : live rs h) : h ∈ headsOf rs := q _ fun r hr _ => mem_headsOf.mpr ⟨r, hr, rfl⟩
/-- one pass -/
def dead (hs l : List Str) (r : RuleD) : List Str := r.body.filter fun s => decide (s ∈ hs) && !decide (s ∈ l)
def pass1 (hs l : List Str) (r : RuleD) : List Str := if dead hs l r = [] then addHead l r.head else l
def passN (hs : List Str) (rs : List RuleD) (l : List Str) : List Str := rs.foldl (pass1 hs) l
theorem dead_nil {hs l : List Str} {r : RuleD} : dead hs l r = [] ↔ ∀ s ∈ r.body, s ∈ hs → s ∈ l := by
  unfold dead
  rw [List.filter_eq_nil_iff]
  constructor
  · intro h s hs' hh
    have := h s hs'
    simp [hh] at this
    exact this
  · intro h s hs'
    by_cases e : s ∈ hs
    · simp [e, h s hs' e]
    · simp [e]
theorem pass1_ext {hs l : List Str} {r : RuleD} : ∃ e, pass1 hs l r = l ++ e := by
  unfold pass1 addHead
  split
  · split
    · exact ⟨[], by simp⟩
    · exact ⟨_, rfl⟩
  · exact ⟨[], by simp⟩
theorem passN_ext {hs : List Str} : ∀ {rs : List RuleD} {l : List Str}, ∃ e, passN hs rs l = l ++ e
  | [], l => ⟨[], by simp [passN]⟩
  | r :: rs, l => by
    obtain ⟨e1, h1⟩ := pass1_ext (hs := hs) (l := l) (r := r)
    obtain ⟨e2, h2⟩ := passN_ext (hs := hs) (rs := rs) (l := pass1 hs l r)
    refine ⟨e1 ++ e2, ?_⟩
    show passN hs rs (pass1 hs l r) = _
    rw [h2, h1, List.append_assoc]
theorem pass1_sub {rs : List RuleD} {l c : List Str} {r : RuleD} (hr : r ∈ rs) (hc : closedL rs c) (h : ∀ x ∈ l, x ∈ c) : ∀ x ∈ pass1 (headsOf rs) l r, x ∈ c := by
  intro x hx
  unfold pass1 at hx
  split at hx
  · rename_i e
    rcases mem_addHead.mp hx with q | q
    · exact h x q
    · rw [q]
      exact hc r hr fun s hs hh => h s (dead_nil.mp e s hs hh)
  · exact h x hx
theorem passN_sub {rs : List RuleD} {c : List Str} (hc : closedL rs c) : ∀ {qs : List RuleD} {l : List Str}, (∀ r ∈ qs, r ∈ rs) → (∀ x ∈ l, x ∈ c) → ∀ x ∈ passN (headsOf rs) qs l, x ∈ c
  | [], _, _, h => h
  | r :: qs, l, hq, h => by
    show ∀ x ∈ passN (headsOf rs) qs (pass1 (headsOf rs) l r), x ∈ c
    exact passN_sub hc (fun x hx => hq x (List.mem_cons_of_mem _ hx)) (pass1_sub (hq r List.mem_cons_self) hc h)
theorem passN_nd {hs : List Str} : ∀ {qs : List RuleD} {l : List Str}, l.Nodup → (passN hs qs l).Nodup
  | [], _, h => h
  | r :: qs, l, h => by
    show (passN hs qs (pass1 hs l r)).Nodup
    refine passN_nd ?_
    unfold pass1
    split
    · exact nd_addHead h
    · exact h
/-- no growth: closed -/
theorem passN_fix {hs : List Str} : ∀ {qs : List RuleD} {l : List Str}, passN hs qs l = l → ∀ r ∈ qs, dead hs l r = [] → r.head ∈ l
  | [], _, _, r, hr, _ => nomatch hr
  | a :: qs, l, h, r, hr, hd => by
    have h' : passN hs qs (pass1 hs l a) = l := h
    obtain ⟨e1, q1⟩ := pass1_ext (hs := hs) (l := l) (r := a)
    obtain ⟨e2, q2⟩ := passN_ext (hs := hs) (rs := qs) (l := pass1 hs l a)
    have e0 : e1 = [] := by
      rw [q2, q1, List.append_assoc] at h'
      have q := congrArg List.length h'
      rw [List.length_append, List.length_append] at q
      exact List.length_eq_zero_iff.mp (by omega)
    have hp : pass1 hs l a = l := by rw [q1, e0, List.append_nil]
    rcases List.mem_cons.mp hr with z | z
    · subst z
      unfold pass1 at hp
      rw [if_pos hd] at hp
      rw [← hp]
      exact mem_addHead.mpr (.inr rfl)
    · rw [hp] at h'
      exact passN_fix h' r z hd
end G91
namespace G91
open PySem PySem.Spec PyProof.Rows L2
theorem fm_congr {α β : Type} {f g : α → Option β} : ∀ {l : List α}, (∀ x ∈ l, f x = g x) → l.filterMap f = l.filterMap g
  | [], _ => rfl
  | a :: l, h => by
    rw [List.filterMap_cons, List.filterMap_cons, h a List.mem_cons_self, fm_congr fun x hx => h x (List.mem_cons_of_mem _ hx)]
theorem fm_filter {α : Type} {c : α → Bool} {g : α → PyData} {d : α} : ∀ (xs : List α), (List.range xs.length).filterMap (fun i => if c (xs.getD i d) then some (g (xs.getD i d)) else none) = (xs.filter c).map g := by
  intro xs
  induction xs using snoc_ind with
  | h0 => rfl
  | hs l a ih =>
    rw [List.length_append, List.length_singleton, List.range_succ, List.filterMap_append, List.filter_append, List.map_append]
    congr 1
    · rw [← ih]
      refine fm_congr fun i hi => ?_
      have hi := List.mem_range.mp hi
      have e : (l ++ [a]).getD i d = l.getD i d := by
        rw [List.getD_eq_getElem?_getD, List.getD_eq_getElem?_getD, List.getElem?_append_left hi]
      rw [e]
    · have e : (l ++ [a]).getD l.length d = a := by
        rw [List.getD_eq_getElem?_getD, List.getElem?_append_right (Nat.le_refl _)]
        simp
      cases q : c a <;> simp [q]
theorem eqv_nil {ds : List PyData} : PyData.eqv (.list ds) (.list []) = decide (ds = []) := by
  unfold PyData.eqv
  cases ds with
  | nil => rfl
  | cons d ds => rfl
structure RuleOk (r : RuleD) : Prop where
  head : TxtOk r.head
  body : ∀ s ∈ r.body, TxtOk s
  few : r.body.length ≤ 1000
  nn : 0 ≤ r.part
  bt : Bt 1900000 r.part
theorem RuleOk.shp {r : RuleD} (h : RuleOk r) : Shp 2 (ruleD r) := shp_tuple fun x hx => by
  rcases List.mem_cons.mp hx with q | q
  · rw [q]; exact h.head.shp 1
  · rcases List.mem_cons.mp q with q | q
    · rw [q]
      exact shp_tuple fun y hy => by
        obtain ⟨s, hs, rfl⟩ := List.mem_map.mp hy
        exact (h.body s hs).shp 0
    · rw [List.mem_singleton.mp q]; exact shp_shD _
theorem pl_ruleD (r : RuleD) : plD (ruleD r) = true := pl_all fun x hx => by
  rcases List.mem_cons.mp hx with q | q
  · rw [q]; rfl
  · rcases List.mem_cons.mp q with q | q
    · rw [q]
      exact pl_all fun y hy => by
        obtain ⟨s, _, rfl⟩ := List.mem_map.mp hy
        rfl
    · rw [List.mem_singleton.mp q]; rfl
theorem ruleD_inj {r s : RuleD} (h : ruleD r = ruleD s) : r = s := by
  obtain ⟨h1, b1, p1⟩ := r
  obtain ⟨h2, b2, p2⟩ := s
  unfold ruleD at h
  injection h with h
  injection h with ha h
  injection h with hb h
  injection h with hc _
  injection ha with ha
  injection hb with hb
  have hb := (List.map_inj_right (fun x y z => by injection z)).mp hb
  have hc := shD_inj hc
  subst ha hb hc
  rfl
end G91
namespace G91
open PySem PySem.Spec PyProof.Rows L2
def goodRule (r : RuleD) : Bool := (isSym r.head && (decide (1 ≤ r.body.length) && decide (r.body.length ≤ 4)) && !decide (r.part.num = 0)) && r.body.all isSym
structure GoodG (st : Str) (rs : List RuleD) : Prop where
  sym : isSym st = true
  few1 : 1 ≤ rs.length
  few2 : rs.length ≤ 30
  ok : ∀ r ∈ rs, goodRule r = true
  dist : rs.Pairwise fun a b => ¬ (a.head = b.head ∧ a.body = b.body)
  start : st ∈ headsOf rs
  one : ∀ h ∈ headsOf rs, partSum rs h = 1
def gFs (st : Str) (L Hd Lv : Addr) : List (Str × Sv) := [("begun", .va (.str st)), ("listed", .rf (.ref L)), ("headed", .rf (.ref Hd)), ("living", .rf (.ref Lv))]
/-- a grammar stands at g -/
structure GrAt (K : PySem.W.Frag) (M : Mm) (g : Addr) (st : Str) (rs : List RuleD) : Prop where
  at_ : ∃ (L Hd Lv : Addr) (l : List Str), M g = some (.ins (He.ga K "Grammar") (gFs st L Hd Lv)) ∧ M L = some (.lst ((rulesD rs).map Sv.va)) ∧ M Hd = some (.dK (dm (headsOf rs) fun _ => .va (shD 1))) ∧ M Lv = some (.dK (dm l fun _ => .va (.bool true))) ∧ IsLive rs l
  good : GoodG st rs
  ok : ∀ r ∈ rs, RuleOk r
theorem GrAt.mono {K : PySem.W.Frag} {M M' : Mm} {g : Addr} {st : Str} {rs : List RuleD} (h : GrAt K M g st rs) (k : Mext M M') : GrAt K M' g st rs := by
  obtain ⟨L, Hd, Lv, l, a, b, c, d, e⟩ := h.at_
  exact ⟨⟨L, Hd, Lv, l, k _ _ a, k _ _ b, k _ _ c, k _ _ d, e⟩, h.good, h.ok⟩
/-- .. whose objects are new since M0: what changes only what M0 had leaves it -/
structure GrNew (K : PySem.W.Frag) (M0 M : Mm) (g : Addr) (st : Str) (rs : List RuleD) : Prop where
  gr : GrAt K M g st rs
  nw : ∀ M', Mex (fun b => M0 b ≠ none ∧ b ≠ g) M M' → GrAt K M' g st rs
theorem GrNew.mk' {K : PySem.W.Frag} {M0 M : Mm} {g L Hd Lv : Addr} {l : List Str} {st : Str} {rs : List RuleD} (h1 : M g = some (.ins (He.ga K "Grammar") (gFs st L Hd Lv))) (h2 : M L = some (.lst ((rulesD rs).map Sv.va)))
    (h3 : M Hd = some (.dK (dm (headsOf rs) fun _ => .va (shD 1)))) (h4 : M Lv = some (.dK (dm l fun _ => .va (.bool true)))) (hl : IsLive rs l) (hg : GoodG st rs) (ho : ∀ r ∈ rs, RuleOk r) (n2 : M0 L = none) (n3 : M0 Hd = none) (n4 : M0 Lv = none) : GrNew K M0 M g st rs :=
  ⟨⟨⟨L, Hd, Lv, l, h1, h2, h3, h4, hl⟩, hg, ho⟩, fun M' hx => ⟨⟨L, Hd, Lv, l, hx _ _ h1 fun z => z.2 rfl, hx _ _ h2 fun z => z.1 n2, hx _ _ h3 fun z => z.1 n3, hx _ _ h4 fun z => z.1 n4, hl⟩, hg, ho⟩⟩
theorem bt_partSum {m : Nat} {h : Str} (hm : 1 ≤ m) : ∀ {rs : List RuleD}, (∀ r ∈ rs, 0 ≤ r.part ∧ Bt m r.part) → 0 ≤ partSum rs h ∧ Bt (1 + rs.length * (m + 1)) (partSum rs h)
  | [], _ => ⟨nn0, bt0.mono (by omega)⟩
  | r :: rs, hr => by
    obtain ⟨a, b⟩ := bt_partSum (h := h) hm fun x hx => hr x (List.mem_cons_of_mem _ hx)
    have h1 := hr r List.mem_cons_self
    have h2 : 0 ≤ (if r.head = h then r.part else 0) ∧ Bt m (if r.head = h then r.part else 0) := by
      split
      · exact h1
      · exact ⟨nn0, bt0.mono hm⟩
    show 0 ≤ (if r.head = h then r.part else 0) + partSum rs h ∧ Bt (1 + (rs.length + 1) * (m + 1)) ((if r.head = h then r.part else 0) + partSum rs h)
    refine ⟨?_, (h2.2.add b).mono ?_⟩
    · have := h2.1
      grind
    · rw [Nat.add_mul]; omega
theorem rule_at {rs : List RuleD} {i : Nat} (hi : i < rs.length) : ((rulesD rs).map Sv.va).getD i (.va .none) = .va (ruleD rs[i]) := by
  rw [List.getD_eq_getElem?_getD]
  unfold rulesD
  simp [hi]
theorem rulesD_len {rs : List RuleD} : ((rulesD rs).map Sv.va).length = rs.length := by simp [rulesD]
theorem headsOf_len (rs : List RuleD) : (headsOf rs).length ≤ rs.length := by
  induction rs using snoc_ind with
  | h0 => exact Nat.le_refl _
  | hs l a ih =>
    rw [headsOf_snoc, List.length_append]
    unfold addHead
    split
    · simp; omega
    · rw [List.length_append]; simp; omega
theorem shp_rules {rs : List RuleD} (h : ∀ r ∈ rs, RuleOk r) : Shp 3 (.list (rulesD rs)) := shp_list fun x hx => by
  obtain ⟨r, hr, rfl⟩ := List.mem_map.mp hx
  exact (h r hr).shp
theorem pl_rules (rs : List RuleD) : plD (.list (rulesD rs)) = true := pl_all fun x hx => by
  obtain ⟨r, _, rfl⟩ := List.mem_map.mp hx
  exact pl_ruleD r
end G91
namespace G91
open PySem PySem.Spec PyProof.Rows L2
noncomputable def liveB (rs : List RuleD) (h : Str) : Bool := @decide (live rs h) (Classical.propDecidable _)
theorem liveB_iff {rs : List RuleD} {h : Str} : liveB rs h = true ↔ live rs h := by unfold liveB; exact @decide_eq_true_iff (live rs h) (Classical.propDecidable _)
noncomputable def liveL (rs : List RuleD) : List Str := (headsOf rs).filter (liveB rs)
theorem mem_liveL {rs : List RuleD} {h : Str} : h ∈ liveL rs ↔ live rs h := by
  unfold liveL
  rw [List.mem_filter, liveB_iff]
  exact ⟨fun q => q.2, fun q => ⟨live_head q, q⟩⟩
theorem IsLive.dec {rs : List RuleD} {l : List Str} (h : IsLive rs l) (x : Str) : decide (x ∈ l) = liveB rs x := by
  rw [Bool.eq_iff_iff, decide_eq_true_iff, liveB_iff]
  exact h.iff
end G91
namespace G91
open PySem PySem.Spec PyProof.Rows L2
def letter (z : Int) : Nat := letters.cps.toList.getD (z % 52).toNat 0
theorem letters_len : letters.cps.toList.length = 52 := by decide +kernel
theorem letters_nd : letters.cps.toList.Nodup := by decide +kernel
theorem letters_ok : (letters.cps.toList.all fun c => decide (c < 0x110000)) = true := by decide +kernel
theorem mod52 (z : Int) : (z % 52).toNat < 52 := by
  have := Int.emod_nonneg z (show (52 : Int) ≠ 0 by decide)
  have := Int.emod_lt_of_pos z (show (0 : Int) < 52 by decide)
  omega
theorem letter_mem (z : Int) : letter z ∈ letters.cps.toList := by
  unfold letter
  have h := mod52 z
  rw [← letters_len] at h
  rw [List.getD_eq_getElem?_getD, List.getElem?_eq_getElem h]
  exact List.getElem_mem h
theorem letter_at (z : Int) : atI letters.cps.toList (z % 52) = some (letter z) := by
  have h := mod52 z
  have h0 := Int.emod_nonneg z (show (52 : Int) ≠ 0 by decide)
  obtain ⟨j, hj⟩ := Int.eq_ofNat_of_zero_le h0
  unfold letter
  rw [hj] at h ⊢
  rw [Int.toNat_natCast] at h ⊢
  rw [← letters_len] at h
  refine atI_nat ?_
  rw [List.getD_eq_getElem?_getD, List.getElem?_eq_getElem h] <;> rfl
theorem letter_inj {x y : Int} (h : letter x = letter y) : x % 52 = y % 52 := by
  unfold letter at h
  have hx := mod52 x
  have hy := mod52 y
  have hx0 := Int.emod_nonneg x (show (52 : Int) ≠ 0 by decide)
  have hy0 := Int.emod_nonneg y (show (52 : Int) ≠ 0 by decide)
  rw [← letters_len] at hx hy
  rw [List.getD_eq_getElem?_getD, List.getD_eq_getElem?_getD, List.getElem?_eq_getElem hx, List.getElem?_eq_getElem hy] at h
  have := (List.getElem_inj letters_nd).mp h
  omega
/-- a drawn symbol's signs -/
def symL (base at_ k : Int) (j : Nat) : List Nat := (List.range j).map fun (p : Nat) => letter (base + 7 * (p : Int) + if (p : Int) = at_ then k else 0)
def symS (base at_ k : Int) (j : Nat) : Str := ⟨(symL base at_ k j).toArray⟩
theorem symL_len {base at_ k : Int} {j : Nat} : (symL base at_ k j).length = j := by unfold symL; simp
theorem symL_succ {base at_ k : Int} {j : Nat} : symL base at_ k (j + 1) = symL base at_ k j ++ [letter (base + 7 * (j : Int) + if (j : Int) = at_ then k else 0)] := by
  unfold symL
  rw [List.range_succ, List.map_append]
  rfl
theorem symS_txt {base at_ k : Int} {j : Nat} (h : j ≤ 8) : TxtOk (symS base at_ k j) := by
  refine ⟨?_, ?_⟩
  · show (symL base at_ k j).toArray.size ≤ 1000
    rw [List.size_toArray, symL_len]; omega
  · show (symL base at_ k j).toArray.all (fun c => decide (c < 0x110000)) = true
    rw [List.all_toArray, List.all_eq_true]
    intro c hc
    unfold symL at hc
    obtain ⟨p, _, rfl⟩ := List.mem_map.mp hc
    exact List.all_eq_true.mp letters_ok _ (letter_mem _)
theorem symS_sym {base at_ k : Int} {j : Nat} (h1 : 1 ≤ j) (h : j ≤ 8) : isSym (symS base at_ k j) = true := by
  unfold isSym
  have e : (symS base at_ k j).cps.size = j := by
    show (symL base at_ k j).toArray.size = j
    rw [List.size_toArray, symL_len]
  rw [e, decide_eq_true (show j ≠ 0 by omega), decide_eq_true h, Bool.true_and, Bool.true_and, List.all_eq_true]
  intro c hc
  have hc : c ∈ symL base at_ k j := by simpa [symS] using hc
  unfold symL at hc
  obtain ⟨p, _, rfl⟩ := List.mem_map.mp hc
  exact decide_eq_true (letter_mem _)
theorem symS_inj {base at_ k k' : Int} {j : Nat} (h0 : 0 ≤ at_) (h1 : at_ < j) (hk : 0 ≤ k ∧ k < 52) (hk' : 0 ≤ k' ∧ k' < 52) (h : symS base at_ k j = symS base at_ k' j) : k = k' := by
  have h2 : symL base at_ k j = symL base at_ k' j := by
    unfold symS at h
    injection h with h
    exact List.toArray_inj h
  obtain ⟨a, rfl⟩ := Int.eq_ofNat_of_zero_le h0
  have h3 : a < j := by omega
  have h4 : (symL base a k j)[a]? = (symL base a k' j)[a]? := by rw [h2]
  unfold symL at h4
  simp [h3] at h4
  have h5 := letter_inj h4
  omega
end G91
namespace G91
open PySem PySem.Spec PyProof.Rows L2
def strsD (ss : List Str) : PyData := .list (ss.map PyData.str)
def bodyD (b : List Str) : PyData := .tuple (b.map PyData.str)
theorem bodyD_inj {a b : List Str} (h : bodyD a = bodyD b) : a = b := by
  unfold bodyD at h
  injection h with h
  exact (List.map_inj_right (fun x y z => by injection z)).mp h
theorem pl_bodyD (b : List Str) : plD (bodyD b) = true := pl_all fun x hx => by
  obtain ⟨s, _, rfl⟩ := List.mem_map.mp hx
  rfl
theorem shp_bodyD {b : List Str} (h : ∀ s ∈ b, TxtOk s) : Shp 1 (bodyD b) := shp_tuple fun x hx => by
  obtain ⟨s, hs, rfl⟩ := List.mem_map.mp hx
  exact (h s hs).shp 0
theorem shp_strsD {b : List Str} (h : ∀ s ∈ b, TxtOk s) : Shp 1 (strsD b) := shp_list fun x hx => by
  obtain ⟨s, hs, rfl⟩ := List.mem_map.mp hx
  exact (h s hs).shp 0
theorem pl_strsD (b : List Str) : plD (strsD b) = true := pl_all fun x hx => by
  obtain ⟨s, _, rfl⟩ := List.mem_map.mp hx
  rfl
theorem eqv_body (a b : List Str) : PyData.eqv (bodyD a) (bodyD b) = decide (a = b) := by
  rw [Bool.eq_iff_iff, decide_eq_true_iff, eqv_pl _ _ (pl_bodyD a) (pl_bodyD b)]
  exact ⟨bodyD_inj, fun h => by rw [h]⟩
theorem any_body (bs : List (List Str)) (b : List Str) : ((bs.map bodyD).any fun z => PyData.eqv z (bodyD b)) = decide (b ∈ bs) := by
  rw [Bool.eq_iff_iff, decide_eq_true_iff, List.any_eq_true]
  constructor
  · rintro ⟨z, h1, h2⟩
    obtain ⟨a, ha, rfl⟩ := List.mem_map.mp h1
    rw [eqv_body] at h2
    rw [← of_decide_eq_true h2]; exact ha
  · intro h
    exact ⟨bodyD b, List.mem_map.mpr ⟨b, h, rfl⟩, by rw [eqv_body]; exact decide_eq_true rfl⟩
end G91
namespace G91
open PySem PySem.Spec PyProof.Rows L2
/-- a drawn grammar's rules -/
structure DrawnR (hs ws : List Str) (rs : List RuleD) : Prop where
  heads : headsOf rs = hs
  ok : ∀ r ∈ rs, RuleOk r ∧ goodRule r = true ∧ Bt 6 r.part
  dist : rs.Pairwise fun a b => ¬ (a.head = b.head ∧ a.body = b.body)
  one : ∀ h ∈ hs, partSum rs h = 1
  few : rs.length ≤ 3 * hs.length
  sym : ∀ r ∈ rs, ∀ s ∈ r.body, s ∈ hs ++ ws
/-- .. a grammar as the laws draw it -/
structure Drawn (most : Nat) (hs ws : List Str) (rs : List RuleD) : Prop where
  r : DrawnR hs ws rs
  h1 : 1 ≤ hs.length
  h2 : hs.length ≤ most
  w1 : 1 ≤ ws.length
  w2 : ws.length ≤ 3
  nd : (hs ++ ws).Nodup
  sym : ∀ s ∈ hs ++ ws, isSym s = true ∧ TxtOk s
theorem Drawn.good {most : Nat} {hs ws : List Str} {rs : List RuleD} (d : Drawn most hs ws rs) (hm : most ≤ 4) {st : Str} (h : st ∈ hs) : GoodG st rs := by
  have hne : 1 ≤ rs.length := by
    have h1 := headsOf_len rs
    rw [d.r.heads] at h1
    have := d.h1
    omega
  have hf := d.r.few
  have h2 := d.h2
  exact ⟨(d.sym st (List.mem_append_left _ h)).1, hne, by omega, fun r hr => (d.r.ok r hr).2.1, d.r.dist, by rw [d.r.heads]; exact h, by rw [d.r.heads]; exact d.r.one⟩
end G91
namespace G91
open PySem PySem.Spec PyProof.Rows L2
theorem eqv_str (a b : Str) : PyData.eqv (.str a) (.str b) = decide (a = b) := by
  unfold PyData.eqv
  rw [Bool.eq_iff_iff, decide_eq_true_iff, beq_iff_eq]
theorem any_str (ss : List Str) (x : Str) : ((ss.map PyData.str).any fun z => PyData.eqv z (.str x)) = decide (x ∈ ss) := by
  rw [Bool.eq_iff_iff, decide_eq_true_iff, List.any_eq_true]
  constructor
  · rintro ⟨z, h1, h2⟩
    obtain ⟨a, ha, rfl⟩ := List.mem_map.mp h1
    rw [eqv_str] at h2
    rw [← of_decide_eq_true h2]; exact ha
  · intro h
    exact ⟨.str x, List.mem_map.mpr ⟨x, h, rfl⟩, by rw [eqv_str]; exact decide_eq_true rfl⟩
end G91

/-! Ma5: sums within: what they are, that they are found, that nothing else fits. -/
namespace G91
open PySem PySem.Spec PyProof.Rows L2
/-! sums over lists -/
section
variable {α β : Type}
def sumL : List α → (α → Rat) → Rat
  | [], _ => 0
  | a :: l, f => f a + sumL l f
theorem sumL_congr {f g : α → Rat} : ∀ {l : List α}, (∀ a ∈ l, f a = g a) → sumL l f = sumL l g
  | [], _ => rfl
  | a :: l, h => by
    unfold sumL
    rw [h a List.mem_cons_self, sumL_congr fun b hb => h b (List.mem_cons_of_mem _ hb)]
theorem sumL_zero {f : α → Rat} : ∀ {l : List α}, (∀ a ∈ l, f a = 0) → sumL l f = 0
  | [], _ => rfl
  | a :: l, h => by
    unfold sumL
    rw [h a List.mem_cons_self, sumL_zero fun b hb => h b (List.mem_cons_of_mem _ hb)]
    grind
theorem sumL_add {f g : α → Rat} : ∀ l : List α, sumL l (fun a => f a + g a) = sumL l f + sumL l g
  | [] => by show (0 : Rat) = 0 + 0; grind
  | a :: l => by
    unfold sumL
    rw [sumL_add l]
    grind
theorem sumL_sub {f g : α → Rat} : ∀ l : List α, sumL l (fun a => f a - g a) = sumL l f - sumL l g
  | [] => by show (0 : Rat) = 0 - 0; grind
  | a :: l => by
    unfold sumL
    rw [sumL_sub l]
    grind
theorem sumL_mul {f : α → Rat} {c : Rat} : ∀ l : List α, sumL l (fun a => c * f a) = c * sumL l f
  | [] => by show (0 : Rat) = c * 0; grind
  | a :: l => by
    unfold sumL
    rw [sumL_mul l]
    grind
theorem sumL_nn {f : α → Rat} : ∀ {l : List α}, (∀ a ∈ l, 0 ≤ f a) → 0 ≤ sumL l f
  | [], _ => Rat.le_refl
  | a :: l, h => by
    unfold sumL
    have := sumL_nn (f := f) (l := l) fun b hb => h b (List.mem_cons_of_mem _ hb)
    have := h a List.mem_cons_self
    grind
theorem sumL_le {f g : α → Rat} : ∀ {l : List α}, (∀ a ∈ l, f a ≤ g a) → sumL l f ≤ sumL l g
  | [], _ => Rat.le_refl
  | a :: l, h => by
    unfold sumL
    have := sumL_le (f := f) (g := g) (l := l) fun b hb => h b (List.mem_cons_of_mem _ hb)
    have := h a List.mem_cons_self
    grind
theorem sumL_mem {f : α → Rat} : ∀ {l : List α}, (∀ a ∈ l, 0 ≤ f a) → ∀ a ∈ l, f a ≤ sumL l f
  | [], _, _, h => nomatch h
  | b :: l, h, a, ha => by
    unfold sumL
    have h1 := sumL_nn (f := f) (l := l) fun c hc => h c (List.mem_cons_of_mem _ hc)
    have h2 := h b List.mem_cons_self
    rcases List.mem_cons.mp ha with e | q
    · subst e; grind
    · have := sumL_mem (f := f) (l := l) (fun c hc => h c (List.mem_cons_of_mem _ hc)) a q
      grind
theorem sumL_app {f : α → Rat} : ∀ {l m : List α}, sumL (l ++ m) f = sumL l f + sumL m f
  | [], m => by show sumL m f = 0 + sumL m f; grind
  | a :: l, m => by
    show f a + sumL (l ++ m) f = f a + sumL l f + sumL m f
    rw [sumL_app]
    grind
theorem sumL_map {f : β → Rat} {g : α → β} : ∀ {l : List α}, sumL (l.map g) f = sumL l fun a => f (g a)
  | [] => rfl
  | a :: l => by
    show f (g a) + sumL (l.map g) f = f (g a) + sumL l fun a => f (g a)
    rw [sumL_map]
theorem sumL_swap {f : α → β → Rat} : ∀ {l : List α} {m : List β}, sumL l (fun a => sumL m (f a)) = sumL m fun b => sumL l fun a => f a b
  | [], m => (sumL_zero fun _ _ => rfl).symm
  | a :: l, m => by
    show sumL m (f a) + sumL l (fun a => sumL m (f a)) = sumL m fun b => f a b + sumL l fun a => f a b
    rw [sumL_swap, sumL_add]
theorem sumL_perm {f : α → Rat} {l m : List α} (h : l.Perm m) : sumL l f = sumL m f := by
  induction h with
  | nil => rfl
  | cons a _ ih => unfold sumL; rw [ih]
  | swap a b l => unfold sumL; unfold sumL; grind
  | trans _ _ h1 h2 => rw [h1, h2]
/-- just one of them counts -/
theorem sumL_one [DecidableEq α] {f : α → Rat} {a : α} : ∀ {l : List α}, l.Nodup → a ∈ l → sumL l (fun b => if b = a then f b else 0) = f a
  | [], _, h => nomatch h
  | b :: l, hn, ha => by
    obtain ⟨h1, h2⟩ := List.nodup_cons.mp hn
    show (if b = a then f b else 0) + sumL l (fun b => if b = a then f b else 0) = f a
    by_cases e : b = a
    · subst e
      rw [if_pos rfl, sumL_zero]
      · grind
      · intro c hc
        rw [if_neg fun z => h1 (by rw [← z]; exact hc)]
    · rw [if_neg e, sumL_one h2 (by rcases List.mem_cons.mp ha with q | q; exact absurd q.symm e; exact q)]
      grind
theorem sumL_none [DecidableEq α] {f : α → Rat} {a : α} {l : List α} (h : a ∉ l) : sumL l (fun b => if b = a then f b else 0) = 0 :=
  sumL_zero fun c hc => if_neg fun z => h (by rw [← z]; exact hc)
/-- no greater term by term, no less in all: alike term by term -/
theorem sumL_tight {f g : α → Rat} {l : List α} (h : ∀ a ∈ l, f a ≤ g a) (q : sumL l g ≤ sumL l f) : ∀ a ∈ l, f a = g a := by
  intro a ha
  have h0 : ∀ b ∈ l, 0 ≤ g b - f b := fun b hb => by have := h b hb; grind
  have h1 := sumL_mem h0 a ha
  rw [sumL_sub] at h1
  have h2 := h a ha
  grind
theorem sumL_getD {f : α → Rat} {d : α} : ∀ l : List α, sumL l f = sumN l.length fun k => f (l.getD k d)
  | [] => rfl
  | a :: l => by
    have hs : ∀ (n : Nat) (h : Nat → Rat), sumN (n + 1) h = h 0 + sumN n fun k => h (k + 1) := by
      intro n h
      induction n with
      | zero => show (0 : Rat) + h 0 = h 0 + 0; grind
      | succ n ih =>
        show sumN (n + 1) h + h (n + 1) = h 0 + (sumN n (fun k => h (k + 1)) + h (n + 1))
        rw [ih]; grind
    show f a + sumL l f = sumN (l.length + 1) fun k => f ((a :: l).getD k d)
    rw [hs, sumL_getD (d := d) l]
    rfl
theorem sumN_trunc {f : Nat → Rat} {m : Nat} : ∀ {n : Nat}, m ≤ n → (∀ k, m ≤ k → k < n → f k = 0) → sumN n f = sumN m f
  | 0, h, _ => by have : m = 0 := by omega
                  subst this; rfl
  | n + 1, h, q => by
    by_cases e : m = n + 1
    · subst e; rfl
    · show sumN n f + f n = sumN m f
      rw [q n (by omega) (by omega), sumN_trunc (n := n) (by omega) fun k a b => q k a (by omega)]
      grind
theorem sumN_sumL {f : Nat → α → Rat} {l : List α} : ∀ n : Nat, sumN n (fun k => sumL l (f k)) = sumL l fun a => sumN n fun k => f k a
  | 0 => (sumL_zero fun _ _ => rfl).symm
  | n + 1 => by
    show sumN n (fun k => sumL l (f k)) + sumL l (f n) = sumL l fun a => sumN n (fun k => f k a) + f n a
    rw [sumN_sumL n, sumL_add]
end
/-! bodies -/
def bodyW (W : Str → Nat → Nat → Rat) : List Str → Nat → Nat → Rat
  | [], i, j => if i = j then 1 else 0
  | s :: b, i, j => sumN (j - i) fun k => W s i (i + 1 + k) * bodyW W b (i + 1 + k) j
section
variable {W W' : Str → Nat → Nat → Rat}
theorem bodyW_short : ∀ {b : List Str} {i j : Nat}, j < i + b.length → bodyW W b i j = 0
  | [], i, j, h => if_neg (by simp at h; omega)
  | s :: b, i, j, h => by
    refine sumN_zero fun k hk => ?_
    rw [bodyW_short (b := b) (by simp at h; omega)]
    grind
theorem bodyW_one {s : Str} {i j : Nat} : bodyW W [s] i j = if i < j then W s i j else 0 := by
  show (sumN (j - i) fun k => W s i (i + 1 + k) * if i + 1 + k = j then 1 else 0) = _
  by_cases h : i < j
  · rw [if_pos h]
    have e : (fun k => W s i (i + 1 + k) * if i + 1 + k = j then 1 else 0) = fun k => if k = j - i - 1 then W s i j else 0 := by
      funext k
      by_cases q : i + 1 + k = j
      · rw [if_pos q, if_pos (by omega), q]; grind
      · rw [if_neg q, if_neg (by omega)]; grind
    rw [e, sumN_single (by omega)]
  · rw [if_neg h, show j - i = 0 by omega]; rfl
/-- the cuts that a program tries -/
theorem bodyW_cuts {s : Str} {b : List Str} {i j : Nat} : bodyW W (s :: b) i j = sumN (j - i - b.length) fun k => W s i (i + 1 + k) * bodyW W b (i + 1 + k) j :=
  sumN_trunc (by omega) fun k h1 h2 => by
    rw [bodyW_short (by omega)]
    grind
theorem bodyW_congr : ∀ {b : List Str} {i j : Nat}, (∀ s ∈ b, ∀ a c, i ≤ a → a < c → c ≤ j → c - a + b.length ≤ j - i + 1 → W s a c = W' s a c) → bodyW W b i j = bodyW W' b i j
  | [], _, _, _ => rfl
  | s :: b, i, j, h => by
    refine sumN_congr fun k hk => ?_
    by_cases q : i + 1 + k + b.length ≤ j
    · rw [h s List.mem_cons_self i (i + 1 + k) (by omega) (by omega) (by omega) (by simp; omega),
        bodyW_congr (b := b) fun t ht a c h1 h2 h3 h4 => h t (List.mem_cons_of_mem _ ht) a c (by omega) h2 h3 (by simp; omega)]
    · rw [bodyW_short (by omega), bodyW_short (by omega)]
      grind
theorem bodyW_nn (h : ∀ s a c, 0 ≤ W s a c) : ∀ {b : List Str} {i j : Nat}, 0 ≤ bodyW W b i j
  | [], i, j => by
    show (0 : Rat) ≤ if i = j then 1 else 0
    split
    · exact nn1
    · exact nn0
  | s :: b, i, j => sumN_nn fun k _ => Rat.mul_nonneg (h _ _ _) (bodyW_nn h)
theorem bodyW_dead {s : Str} (h : ∀ a c, W s a c = 0) : ∀ {b : List Str} {i j : Nat}, s ∈ b → bodyW W b i j = 0
  | [], _, _, q => nomatch q
  | t :: b, i, j, q => sumN_zero fun k _ => by
    rcases List.mem_cons.mp q with e | q
    · subst e; rw [h]; grind
    · rw [bodyW_dead h q]; grind
theorem bodyW_le (h0 : ∀ s a c, 0 ≤ W s a c) (h : ∀ s a c, W s a c ≤ W' s a c) : ∀ {b : List Str} {i j : Nat}, bodyW W b i j ≤ bodyW W' b i j
  | [], _, _ => Rat.le_refl
  | s :: b, i, j => sumN_le fun k _ => by
    have h1 := bodyW_le h0 h (b := b) (i := i + 1 + k) (j := j)
    have h2 := h s i (i + 1 + k)
    have h3 := bodyW_nn h0 (b := b) (i := i + 1 + k) (j := j)
    have h4 := h0 s i (i + 1 + k)
    have a1 := Rat.mul_le_mul_of_nonneg_right h2 h3
    have a2 := Rat.mul_le_mul_of_nonneg_left h1 (Rat.le_trans h4 h2)
    exact Rat.le_trans a1 a2
end
end G91

/-! Ma6: the sums within of a grammar. -/
namespace G91
open PySem PySem.Spec PyProof.Rows L2
/-- a symbol's worth -/
def wor (hs row : List Str) (T : Str → Nat → Nat → Rat) (s : Str) (i j : Nat) : Rat := if s ∈ hs then T s i j else if j = i + 1 ∧ row[i]? = some s then 1 else 0
theorem wor_nn {hs row : List Str} {T : Str → Nat → Nat → Rat} (h : ∀ s a c, 0 ≤ T s a c) (s : Str) (i j : Nat) : 0 ≤ wor hs row T s i j := by
  unfold wor
  split
  · exact h _ _ _
  · split
    · exact nn1
    · exact nn0
def isStep (rs : List RuleD) (r : RuleD) : Bool := decide (r.body.length = 1) && decide (r.body.headD "" ∈ headsOf rs)
theorem isStep_iff {rs : List RuleD} {r : RuleD} : isStep rs r = true ↔ ∃ B ∈ headsOf rs, r.body = [B] := by
  unfold isStep
  rw [Bool.and_eq_true, decide_eq_true_iff, decide_eq_true_iff]
  constructor
  · rintro ⟨h1, h2⟩
    match hb : r.body, h1 with
    | [B], _ => rw [hb] at h2; exact ⟨B, h2, rfl⟩
  · rintro ⟨B, h1, h2⟩
    rw [h2]
    exact ⟨rfl, h1⟩
noncomputable def liveR (rs : List RuleD) (r : RuleD) : Bool := liveB rs r.head && r.body.all fun s => !decide (s ∈ headsOf rs) || liveB rs s
theorem liveR_iff {rs : List RuleD} {r : RuleD} : liveR rs r = true ↔ live rs r.head ∧ ∀ s ∈ r.body, s ∈ headsOf rs → live rs s := by
  unfold liveR
  rw [Bool.and_eq_true, liveB_iff, List.all_eq_true]
  constructor
  · rintro ⟨h1, h2⟩
    refine ⟨h1, fun s hs hh => ?_⟩
    have := h2 s hs
    rw [decide_eq_true hh] at this
    exact liveB_iff.mp (by simpa using this)
  · rintro ⟨h1, h2⟩
    refine ⟨h1, fun s hs => ?_⟩
    by_cases hh : s ∈ headsOf rs
    · rw [liveB_iff.mpr (h2 s hs hh)]; simp
    · rw [decide_eq_false hh]; rfl
/-- a live rule that leads from A to one head -/
noncomputable def stepOf (rs : List RuleD) (A : Str) (r : RuleD) : Bool := liveR rs r && (isStep rs r && decide (r.head = A))
noncomputable def restOf (rs : List RuleD) (A : Str) (r : RuleD) : Bool := liveR rs r && (!isStep rs r && decide (r.head = A))
noncomputable def wayP (rs : List RuleD) (A B : Str) : Rat := sumL rs fun r => if stepOf rs A r && decide (r.body = [B]) then r.part else 0
noncomputable def endE (rs : List RuleD) (row : List Str) (T : Str → Nat → Nat → Rat) (A : Str) (i j : Nat) : Rat := sumL rs fun r => if restOf rs A r then r.part * bodyW (wor (headsOf rs) row T) r.body i j else 0
theorem liveL_nd (rs : List RuleD) : (liveL rs).Nodup := (headsOf_nd rs).filter _
theorem stepOf_body {rs : List RuleD} {A : Str} {r : RuleD} (h : stepOf rs A r = true) : ∃ B ∈ liveL rs, r.body = [B] := by
  unfold stepOf at h
  simp only [Bool.and_eq_true] at h
  obtain ⟨B, h1, h2⟩ := isStep_iff.mp h.2.1
  exact ⟨B, mem_liveL.mpr ((liveR_iff.mp h.1).2 B (by rw [h2]; simp) h1), h2⟩
theorem ways_sum {rs : List RuleD} {A : Str} {y : Str → Rat} : sumL (liveL rs) (fun B => wayP rs A B * y B) = sumL rs fun r => if stepOf rs A r then r.part * y (r.body.headD "") else 0 := by
  have e : (fun B => wayP rs A B * y B) = fun B => sumL rs fun r => if stepOf rs A r && decide (r.body = [B]) then r.part * y B else 0 := by
    funext B
    unfold wayP
    rw [Rat.mul_comm, ← sumL_mul]
    apply sumL_congr
    intro r _
    split
    · grind
    · grind
  rw [e, sumL_swap]
  apply sumL_congr
  intro r _
  cases h : stepOf rs A r with
  | false =>
    refine sumL_zero fun B _ => ?_
    simp
  | true =>
    obtain ⟨B, h1, h2⟩ := stepOf_body h
    have e2 : ∀ C ∈ liveL rs, (if true && decide (r.body = [C]) then r.part * y C else 0) = if C = B then r.part * y C else 0 := by
      intro C _
      rw [h2]
      by_cases q : C = B
      · subst q; simp
      · have q2 : ¬ [B] = [C] := fun z => q (List.cons.inj z).1.symm
        simp [q, q2]
    rw [sumL_congr e2, sumL_one (liveL_nd rs) h1, h2]
    rfl
theorem partSum_eq (rs : List RuleD) (h : Str) : partSum rs h = sumL rs fun r => if r.head = h then r.part else 0 := by
  induction rs with
  | nil => rfl
  | cons r rs ih => show _ + partSum rs h = _ + _; rw [ih] <;> rfl
theorem GoodG.pos {st : Str} {rs : List RuleD} (g : GoodG st rs) (hn : ∀ r ∈ rs, 0 ≤ r.part) {r : RuleD} (hr : r ∈ rs) : 0 < r.part := by
  have h := g.ok r hr
  unfold goodRule at h
  simp only [Bool.and_eq_true, Bool.not_eq_true', decide_eq_false_iff_not] at h
  have h1 : r.part ≠ 0 := fun z => h.1.2 (by rw [z]; rfl)
  have h2 := hn r hr
  grind
theorem stepOf_head {rs : List RuleD} {A : Str} {r : RuleD} (h : stepOf rs A r = true) : r.head = A := by
  unfold stepOf at h
  simp only [Bool.and_eq_true, decide_eq_true_eq] at h
  exact h.2.2
theorem max_at {l : List Str} (y : Str → Rat) : ∀ {A : Str}, A ∈ l → ∃ B ∈ l, ∀ C ∈ l, y C ≤ y B := by
  induction l with
  | nil => intro A h; exact nomatch h
  | cons a l ih =>
    intro A _
    cases l with
    | nil => exact ⟨a, List.mem_cons_self, fun C hC => by rw [List.mem_singleton.mp hC]; exact Rat.le_refl⟩
    | cons b l =>
      obtain ⟨B, h1, h2⟩ := ih (A := b) List.mem_cons_self
      by_cases q : y a ≤ y B
      · exact ⟨B, List.mem_cons_of_mem _ h1, fun C hC => by
          rcases List.mem_cons.mp hC with e | e
          · rw [e]; exact q
          · exact h2 C e⟩
      · exact ⟨a, List.mem_cons_self, fun C hC => by
          rcases List.mem_cons.mp hC with e | e
          · rw [e]; exact Rat.le_refl
          · have := h2 C e; grind⟩
/-- from nought on, and no more than what its steps give: nought -/
theorem no_ring {st : Str} {rs : List RuleD} (g : GoodG st rs) (hn : ∀ r ∈ rs, 0 ≤ r.part) {y : Str → Rat} (h0 : ∀ A ∈ liveL rs, 0 ≤ y A) (h : ∀ A ∈ liveL rs, y A ≤ sumL (liveL rs) fun B => wayP rs A B * y B) : ∀ A ∈ liveL rs, y A = 0 := by
  intro A hA
  obtain ⟨A0, hA0, hmax⟩ := max_at y hA
  have hle := hmax A hA
  have hnn := h0 A hA
  by_cases hz : y A0 = 0
  · rw [hz] at hle; grind
  have hm : 0 < y A0 := by
    have := h0 A0 hA0
    grind
  exfalso
  generalize hme : y A0 = m at *
  -- whoever has the greatest: all its rules lead to such ones
  have hZ : ∀ C ∈ liveL rs, y C = m → ∀ r ∈ rs, r.head = C → ∃ B ∈ liveL rs, r.body = [B] ∧ y B = m := by
    intro C hC hCm r hr hrC
    have h1 := h C hC
    rw [ways_sum] at h1
    have hle1 : ∀ q ∈ rs, (if stepOf rs C q then q.part * y (q.body.headD "") else 0) ≤ if q.head = C then q.part * m else 0 := by
      intro q hq
      have hp := hn q hq
      cases z : stepOf rs C q with
      | false =>
        rw [if_neg Bool.false_ne_true]
        split
        · exact Rat.mul_nonneg hp (Rat.le_of_lt hm)
        · exact Rat.le_refl
      | true =>
        rw [if_pos (stepOf_head z)]
        obtain ⟨B, b1, b2⟩ := stepOf_body z
        rw [b2]
        exact Rat.mul_le_mul_of_nonneg_left (hmax B b1) hp
    have hsum : sumL rs (fun q => if q.head = C then q.part * m else 0) = m := by
      have e : (fun q : RuleD => if q.head = C then q.part * m else 0) = fun q => m * if q.head = C then q.part else 0 := by
        funext q
        split <;> grind
      rw [e, sumL_mul, ← partSum_eq, g.one C (by have := live_head (mem_liveL.mp hC); exact this)]
      grind
    have ht := sumL_tight hle1 (by rw [hsum, ← hCm]; exact h1) r hr
    rw [if_pos hrC] at ht
    have hpos := g.pos hn hr
    have hpm := Rat.mul_pos hpos hm
    cases z : stepOf rs C r with
    | false => rw [z] at ht; simp only [Bool.false_eq_true, if_false] at ht; grind
    | true =>
      rw [z, if_pos rfl] at ht
      obtain ⟨B, b1, b2⟩ := stepOf_body z
      refine ⟨B, b1, b2, ?_⟩
      rw [b2] at ht
      have ht : r.part * y B = r.part * m := ht
      have hne : r.part ≠ 0 := by grind
      have : r.part * (y B - m) = 0 := by grind
      rcases Rat.mul_eq_zero.mp this with q | q
      · exact absurd q hne
      · grind
  have hcl : closedL rs ((headsOf rs).filter fun C => !(decide (C ∈ liveL rs) && decide (y C = m))) := by
    intro r hr hb
    have hh : r.head ∈ headsOf rs := mem_headsOf.mpr ⟨r, hr, rfl⟩
    refine List.mem_filter.mpr ⟨hh, ?_⟩
    by_cases q1 : r.head ∈ liveL rs
    · by_cases q2 : y r.head = m
      · obtain ⟨B, b1, b2, b3⟩ := hZ _ q1 q2 r hr rfl
        have := hb B (by rw [b2]; simp) (by have := live_head (mem_liveL.mp b1); exact this)
        have := (List.mem_filter.mp this).2
        rw [decide_eq_true b1, decide_eq_true b3] at this
        simp at this
      · simp [q2]
    · simp [q1]
  have := mem_liveL.mp hA0 _ hcl
  have := (List.mem_filter.mp this).2
  rw [decide_eq_true hA0, decide_eq_true hme] at this
  simp at this
/-- what is below by its own equation is below one that is above by it -/
theorem below {st : Str} {rs : List RuleD} (g : GoodG st rs) (hn : ∀ r ∈ rs, 0 ≤ r.part) {x z e : Str → Rat} (hx : ∀ A ∈ liveL rs, x A ≤ e A + sumL (liveL rs) fun B => wayP rs A B * x B) (hz : ∀ A ∈ liveL rs, e A + sumL (liveL rs) (fun B => wayP rs A B * z B) ≤ z A) : ∀ A ∈ liveL rs, x A ≤ z A := by
  have hp : ∀ A B, 0 ≤ wayP rs A B := fun A B => sumL_nn fun r hr => by
    split
    · exact hn r hr
    · exact nn0
  have hy := no_ring g hn (y := fun A => if x A ≤ z A then 0 else x A - z A) (fun A _ => by
    by_cases q : x A ≤ z A
    · rw [if_pos q]; exact nn0
    · rw [if_neg q]; grind) fun A hA => by
    have hs : sumL (liveL rs) (fun B => wayP rs A B * (x B - z B)) ≤ sumL (liveL rs) fun B => wayP rs A B * if x B ≤ z B then 0 else x B - z B := sumL_le fun B _ => by
      refine Rat.mul_le_mul_of_nonneg_left ?_ (hp A B)
      by_cases q : x B ≤ z B
      · rw [if_pos q]; grind
      · rw [if_neg q]; exact Rat.le_refl
    have hs2 : sumL (liveL rs) (fun B => wayP rs A B * (x B - z B)) = sumL (liveL rs) (fun B => wayP rs A B * x B) - sumL (liveL rs) fun B => wayP rs A B * z B := by
      rw [← sumL_sub]
      apply sumL_congr
      intro B _
      grind
    have h1 := hx A hA
    have h2 := hz A hA
    by_cases q : x A ≤ z A
    · rw [if_pos q]
      exact sumL_nn fun B _ => Rat.mul_nonneg (hp A B) (by
        by_cases q : x B ≤ z B
        · rw [if_pos q]; exact nn0
        · rw [if_neg q]; grind)
    · rw [if_neg q]
      grind
  intro A hA
  have := hy A hA
  by_cases q : x A ≤ z A
  · exact q
  · simp only [if_neg q] at this
    grind
theorem alike {st : Str} {rs : List RuleD} (g : GoodG st rs) (hn : ∀ r ∈ rs, 0 ≤ r.part) {x z e : Str → Rat} (hx : ∀ A ∈ liveL rs, x A = e A + sumL (liveL rs) fun B => wayP rs A B * x B) (hz : ∀ A ∈ liveL rs, z A = e A + sumL (liveL rs) fun B => wayP rs A B * z B) : ∀ A ∈ liveL rs, x A = z A := fun A hA => by
  have h1 := below g hn (e := e) (fun A hA => by rw [← hx A hA]; exact Rat.le_refl) (fun A hA => by rw [← hz A hA]; exact Rat.le_refl) A hA
  have h2 := below g hn (e := e) (x := z) (z := x) (fun A hA => by rw [← hz A hA]; exact Rat.le_refl) (fun A hA => by rw [← hx A hA]; exact Rat.le_refl) A hA
  grind
end G91

/-! Ma7: elimination finds them. -/
namespace G91
open PySem PySem.Spec PyProof.Rows L2
theorem gSt_R {S S' : Sy} (h : S.R = S'.R) : ∀ t, (gSt S t).R = (gSt S' t).R
  | 0 => h
  | t + 1 => by
    have ih := gSt_R h t
    funext i j
    show (if i = t then gOwn (gSt S t) t j else (if j = t then 0 else (gSt S t).R i j) + (gSt S t).R i t * gOwn (gSt S t) t j) = (if i = t then gOwn (gSt S' t) t j else (if j = t then 0 else (gSt S' t).R i j) + (gSt S' t).R i t * gOwn (gSt S' t) t j)
    unfold gOwn
    rw [ih]
theorem gSt_nn {n : Nat} {S : Sy} (h : ∀ i j, i < n → j < n → 0 ≤ S.R i j) : ∀ {t : Nat}, t ≤ n → (∀ u, u < t → (gSt S u).R u u < 1) → ∀ i j, i < n → j < n → 0 ≤ (gSt S t).R i j
  | 0, _, _, i, j, hi, hj => h i j hi hj
  | t + 1, ht, hu, i, j, hi, hj => by
    have ih := gSt_nn h (t := t) (by omega) fun u hu' => hu u (by omega)
    have l := hu t (by omega)
    have ho : 0 ≤ gOwn (gSt S t) t j := by
      unfold gOwn
      split
      · exact nn0
      · exact nn_div (ih t j (by omega) hj) (by grind)
    show 0 ≤ (if i = t then gOwn (gSt S t) t j else (if j = t then 0 else (gSt S t).R i j) + (gSt S t).R i t * gOwn (gSt S t) t j)
    split
    · exact ho
    · have h1 := Rat.mul_nonneg (ih i t hi (by omega)) ho
      split
      · grind
      · have := ih i j hi hj
        grind
theorem gSt_F_nn {n : Nat} {S : Sy} (h : ∀ i j, i < n → j < n → 0 ≤ S.R i j) (hF : ∀ i, i < n → 0 ≤ S.F i) : ∀ {t : Nat}, t ≤ n → (∀ u, u < t → (gSt S u).R u u < 1) → ∀ i, i < n → 0 ≤ (gSt S t).F i
  | 0, _, _, i, hi => hF i hi
  | t + 1, ht, hu, i, hi => by
    have ih := gSt_F_nn h hF (t := t) (by omega) fun u hu' => hu u (by omega)
    have hR := gSt_nn h (t := t) (by omega) fun u hu' => hu u (by omega)
    have l := hu t (by omega)
    have ho : 0 ≤ gEnd (gSt S t) t := nn_div (ih t (by omega)) (by grind)
    show 0 ≤ (if i = t then gEnd (gSt S t) t else (gSt S t).F i + (gSt S t).R i t * gEnd (gSt S t) t)
    split
    · exact ho
    · have := Rat.mul_nonneg (hR i t hi (by omega)) ho
      have := ih i hi
      grind
def tot (n : Nat) (S : Sy) (x : Nat → Rat) (i : Nat) : Rat := S.F i + sumN n fun j => S.R i j * x j
/-- one step back: rows that hold there hold here, the others keep their sums -/
theorem tot_step {n t : Nat} {S : Sy} {x : Nat → Rat} (ht : t < n) (hl : S.R t t < 1) (h : x t = tot n (gStep S t) x t) : ∀ i, i < n → (i ≠ t → tot n S x i = tot n (gStep S t) x i) ∧ (i = t → x i = tot n S x i) := by
  have hne : (1 : Rat) - S.R t t ≠ 0 := by grind
  have eT : x t = gEnd S t + sumN n fun j => gOwn S t j * x j := by
    rw [h]
    show (if t = t then gEnd S t else _) + _ = _
    rw [if_pos rfl]
    congr 1
    apply sumN_congr
    intro j hj
    show (if t = t then gOwn S t j else _) * x j = _
    rw [if_pos rfl]
  have eO : sumN n (fun j => S.R t j * x j) = sumN n (fun j => if j = t then 0 else S.R t j * x j) + S.R t t * x t := sumN_out ht
  have eG : (1 - S.R t t) * (sumN n fun j => gOwn S t j * x j) = sumN n (fun j => if j = t then 0 else S.R t j * x j) := by
    rw [← sumN_mul]
    apply sumN_congr
    intro j hj
    unfold gOwn
    by_cases e : j = t
    · rw [if_pos e, if_pos e]; grind
    · rw [if_neg e, if_neg e]
      grind
  have eE : (1 - S.R t t) * gEnd S t = S.F t := by
    unfold gEnd
    grind
  intro i hi
  refine ⟨fun e => ?_, fun e => ?_⟩
  · unfold tot
    have e1 : (gStep S t).F i = S.F i + S.R i t * gEnd S t := by
      show (if i = t then _ else _) = _
      rw [if_neg e]
    have e2 : sumN n (fun j => (gStep S t).R i j * x j) = sumN n (fun j => if j = t then 0 else S.R i j * x j) + S.R i t * sumN n fun j => gOwn S t j * x j := by
      rw [← sumN_mul, ← sumN_add]
      apply sumN_congr
      intro j hj
      show (if i = t then _ else (if j = t then 0 else S.R i j) + S.R i t * gOwn S t j) * x j = _
      rw [if_neg e]
      by_cases e3 : j = t
      · rw [if_pos e3, if_pos e3]; grind
      · rw [if_neg e3, if_neg e3]; grind
    rw [e1, e2, sumN_out (f := fun j => S.R i j * x j) ht]
    grind
  · subst e
    unfold tot
    rw [eO, ← eG]
    have : (1 - S.R i i) * x i = (1 - S.R i i) * (gEnd S i + sumN n fun j => gOwn S i j * x j) := congrArg (fun z => (1 - S.R i i) * z) eT
    grind
/-- a system that no ring holds: each pivot is below 1 -/
theorem pivots {n : Nat} {S : Sy} (hR : ∀ i j, i < n → j < n → 0 ≤ S.R i j) (key : ∀ y : Nat → Rat, (∀ i, i < n → 0 ≤ y i) → (∀ i, i < n → y i ≤ sumN n fun j => S.R i j * y j) → ∀ i, i < n → y i = 0) : ∀ t, t < n → (gSt S t).R t t < 1 := by
  intro t
  induction t using Nat.strongRecOn with
  | _ t ih =>
    intro ht
    by_cases q : (gSt S t).R t t < 1
    · exact q
    exfalso
    let Z : Sy := ⟨S.R, fun _ => 0⟩
    have hZ : ∀ u, (gSt Z u).R = (gSt S u).R := gSt_R rfl
    have hF : ∀ u i, (gSt Z u).F i = 0 := by
      intro u
      induction u with
      | zero => intro i; rfl
      | succ u ihu =>
        intro i
        show (if i = u then gEnd (gSt Z u) u else (gSt Z u).F i + (gSt Z u).R i u * gEnd (gSt Z u) u) = 0
        unfold gEnd
        rw [ihu u, ihu i]
        split <;> grind
    have hnn := gSt_nn hR (t := t) (by omega) fun u hu => ih u hu (by omega)
    let x : Nat → Rat := fun i => if i = t then 1 else if i < t then (gSt S t).R i t else 0
    have xt : x t = 1 := if_pos rfl
    have hx0 : ∀ i, i < n → 0 ≤ x i := fun i hi => by
      show 0 ≤ if i = t then 1 else if i < t then (gSt S t).R i t else 0
      split
      · exact nn1
      · split
        · exact hnn i t hi ht
        · exact nn0
    -- the totals at step t
    have hcol : ∀ i, i < n → tot n (gSt Z t) x i = (gSt S t).R i t := fun i hi => by
      unfold tot
      rw [hF, hZ]
      have e : sumN n (fun j => (gSt S t).R i j * x j) = sumN n fun j => if j = t then (gSt S t).R i t else 0 := by
        apply sumN_congr
        intro j hj
        by_cases e1 : j = t
        · subst e1; rw [if_pos rfl, xt]; grind
        · rw [if_neg e1]
          by_cases e2 : j < t
          · rw [col_zero (Nat.le_of_lt ht) i j hi e2]; grind
          · have : x j = 0 := by
              show (if j = t then 1 else if j < t then (gSt S t).R j t else 0) = 0
              rw [if_neg e1, if_neg e2]
            rw [this]; grind
      rw [e, sumN_single ht]
      grind
    have down : ∀ d, d ≤ t → (∀ i, i < t → x i = tot n (gSt Z (t - d)) x i) ∧ ∀ i, t ≤ i → i < n → tot n (gSt Z (t - d)) x i = (gSt S t).R i t := by
      intro d
      induction d with
      | zero =>
        intro _
        refine ⟨fun i hi => ?_, fun i h1 h2 => hcol i h2⟩
        rw [Nat.sub_zero, hcol i (by omega)]
        show (if i = t then 1 else if i < t then (gSt S t).R i t else 0) = _
        rw [if_neg (by omega), if_pos hi]
      | succ d ihd =>
        intro hd
        obtain ⟨h1, h2⟩ := ihd (by omega)
        have e : t - d = (t - (d + 1)) + 1 := by omega
        rw [e] at h1 h2
        have hp : (gSt Z (t - (d + 1))).R (t - (d + 1)) (t - (d + 1)) < 1 := by rw [hZ]; exact ih _ (by omega) (by omega)
        have st := tot_step (x := x) (show t - (d + 1) < n by omega) hp (h1 _ (by omega))
        refine ⟨fun i hi => ?_, fun i g1 g2 => ?_⟩
        · by_cases e2 : i = t - (d + 1)
          · exact (st i (by omega)).2 e2
          · rw [(st i (by omega)).1 e2]; exact h1 i hi
        · rw [(st i g2).1 (by omega)]; exact h2 i g1 g2
    obtain ⟨h1, h2⟩ := down t (Nat.le_refl t)
    rw [Nat.sub_self] at h1 h2
    have ht0 : ∀ i, tot n (gSt Z 0) x i = sumN n fun j => S.R i j * x j := fun i => by
      show (0 : Rat) + sumN n (fun j => S.R i j * x j) = _
      exact Rat.zero_add _
    have := key x hx0 (fun i hi => by
      rw [← ht0]
      by_cases e1 : i < t
      · rw [← h1 i e1]; exact Rat.le_refl
      · rw [h2 i (by omega) hi]
        by_cases e2 : i = t
        · subst e2; rw [xt]; grind
        · have : x i = 0 := by
            show (if i = t then 1 else if i < t then (gSt S t).R i t else 0) = 0
            rw [if_neg e2, if_neg e1]
          rw [this]
          exact hnn i t hi ht) t ht
    rw [xt] at this
    grind
theorem sumN_sub {f g : Nat → Rat} : ∀ n : Nat, sumN n (fun j => f j - g j) = sumN n f - sumN n g
  | 0 => by show (0 : Rat) = 0 - 0; grind
  | n + 1 => by
    unfold sumN
    rw [sumN_sub n]
    grind
theorem sumN_swap {f : Nat → Nat → Rat} : ∀ n m : Nat, sumN n (fun a => sumN m (f a)) = sumN m fun b => sumN n fun a => f a b
  | 0, m => (sumN_zero fun _ _ => rfl).symm
  | n + 1, m => by
    show sumN n (fun a => sumN m (f a)) + sumN m (f n) = sumN m fun b => sumN n (fun a => f a b) + f n b
    rw [sumN_swap n m, sumN_add]
/-! the system of a grammar -/
noncomputable def liveN (rs : List RuleD) : Nat := (liveL rs).length
noncomputable def hd (rs : List RuleD) (k : Nat) : Str := (liveL rs).getD k ""
noncomputable def wayM (rs : List RuleD) (k l : Nat) : Rat := wayP rs (hd rs k) (hd rs l)
theorem hd_mem {rs : List RuleD} {k : Nat} (h : k < liveN rs) : hd rs k ∈ liveL rs := by
  unfold hd
  rw [List.getD_eq_getElem?_getD, List.getElem?_eq_getElem h]
  exact List.getElem_mem h
theorem hd_at {rs : List RuleD} {A : Str} (h : A ∈ liveL rs) : ∃ k, k < liveN rs ∧ hd rs k = A := by
  obtain ⟨k, h1, h2⟩ := List.mem_iff_getElem.mp h
  refine ⟨k, h1, ?_⟩
  unfold hd
  rw [List.getD_eq_getElem?_getD, List.getElem?_eq_getElem h1]
  exact h2
theorem hd_inj {rs : List RuleD} {k l : Nat} (hk : k < liveN rs) (hl : l < liveN rs) (h : hd rs k = hd rs l) : k = l := by
  unfold hd at h
  rw [List.getD_eq_getElem?_getD, List.getElem?_eq_getElem hk, List.getD_eq_getElem?_getD, List.getElem?_eq_getElem hl] at h
  exact (List.getElem_inj (liveL_nd rs)).mp h
theorem sum_hd {rs : List RuleD} {f : Str → Rat} : sumL (liveL rs) f = sumN (liveN rs) fun k => f (hd rs k) := sumL_getD (d := ("" : Str)) (liveL rs)
theorem wayP_nn {rs : List RuleD} (hn : ∀ r ∈ rs, 0 ≤ r.part) (A B : Str) : 0 ≤ wayP rs A B := sumL_nn fun r hr => by
  split
  · exact hn r hr
  · exact nn0
/-- an unknown by its number, from one by its name -/
noncomputable def pos (rs : List RuleD) (A : Str) : Nat := (liveL rs).idxOf A
theorem pos_lt {rs : List RuleD} {A : Str} (h : A ∈ liveL rs) : pos rs A < liveN rs := List.idxOf_lt_length_iff.mpr h
theorem hd_pos {rs : List RuleD} {A : Str} (h : A ∈ liveL rs) : hd rs (pos rs A) = A := by
  unfold hd
  rw [List.getD_eq_getElem?_getD, List.getElem?_eq_getElem (pos_lt h)]
  exact List.getElem_idxOf (pos_lt h)
theorem pos_hd {rs : List RuleD} {k : Nat} (h : k < liveN rs) : pos rs (hd rs k) = k := hd_inj (pos_lt (hd_mem h)) h (hd_pos (hd_mem h))
section
variable {st : Str} {rs : List RuleD}
theorem way_key (g : GoodG st rs) (hn : ∀ r ∈ rs, 0 ≤ r.part) : ∀ y : Nat → Rat, (∀ i, i < liveN rs → 0 ≤ y i) → (∀ i, i < liveN rs → y i ≤ sumN (liveN rs) fun j => wayM rs i j * y j) → ∀ i, i < liveN rs → y i = 0 := by
  intro y h0 h i hi
  have := no_ring g hn (y := fun A => y (pos rs A)) (fun A hA => h0 _ (pos_lt hA)) (fun A hA => by
    have := h _ (pos_lt hA)
    rw [sum_hd]
    refine Rat.le_trans this ?_
    rw [sumN_congr (g := fun k => wayP rs A (hd rs k) * y (pos rs (hd rs k))) fun j hj => by unfold wayM; rw [hd_pos hA, pos_hd hj]]
    exact Rat.le_refl) _ (hd_mem hi)
  rw [pos_hd hi] at this
  exact this
theorem way_pivots (g : GoodG st rs) (hn : ∀ r ∈ rs, 0 ≤ r.part) {S : Sy} (hS : S.R = wayM rs) : ∀ t, t < liveN rs → (gSt S t).R t t < 1 :=
  pivots (fun i j _ _ => by rw [hS]; exact wayP_nn hn _ _) (by rw [hS]; exact way_key g hn)
/-- turned round, too -/
theorem turn_key (g : GoodG st rs) (hn : ∀ r ∈ rs, 0 ≤ r.part) : ∀ y : Nat → Rat, (∀ i, i < liveN rs → 0 ≤ y i) → (∀ i, i < liveN rs → y i ≤ sumN (liveN rs) fun j => wayM rs j i * y j) → ∀ i, i < liveN rs → y i = 0 := by
  intro y h0 h
  let S : Sy := ⟨wayM rs, fun _ => 1⟩
  have hp := way_pivots g hn (S := S) rfl
  have hv := solves_of hp
  have hv0 := gSt_F_nn (n := liveN rs) (S := S) (fun i j _ _ => wayP_nn hn _ _) (fun _ _ => nn1) (Nat.le_refl _) hp
  generalize (gSt S (liveN rs)).F = v at hv hv0
  have hv : ∀ i, i < liveN rs → v i = 1 + sumN (liveN rs) fun j => wayM rs i j * v j := hv
  have e1 : sumN (liveN rs) y = sumN (liveN rs) (fun i => y i * v i) - sumN (liveN rs) fun i => sumN (liveN rs) fun j => y i * (wayM rs i j * v j) := by
    rw [← sumN_sub]
    apply sumN_congr
    intro i hi
    rw [sumN_mul]
    have := hv i hi
    generalize sumN (liveN rs) (fun j => wayM rs i j * v j) = q at *
    rw [this]
    grind
  have e2 : sumN (liveN rs) (fun i => sumN (liveN rs) fun j => y i * (wayM rs i j * v j)) = sumN (liveN rs) fun j => sumN (liveN rs) fun i => y i * (wayM rs i j * v j) := sumN_swap _ _
  have e3 : sumN (liveN rs) (fun j => y j * v j) ≤ sumN (liveN rs) fun j => sumN (liveN rs) fun i => y i * (wayM rs i j * v j) := sumN_le fun j hj => by
    have e : (fun i => y i * (wayM rs i j * v j)) = fun i => v j * (wayM rs i j * y i) := by funext i; grind
    rw [e, sumN_mul]
    have := Rat.mul_le_mul_of_nonneg_left (h j hj) (hv0 j hj)
    grind
  have h1 : sumN (liveN rs) y ≤ 0 := by rw [e1, e2]; grind
  intro i hi
  have h2 := sumN_out (f := y) hi
  have h3 : 0 ≤ sumN (liveN rs) fun j => if j = i then 0 else y j := sumN_nn fun j hj => by
    split
    · exact nn0
    · exact h0 j hj
  have := h0 i hi
  grind
theorem turn_pivots (g : GoodG st rs) (hn : ∀ r ∈ rs, 0 ≤ r.part) {S : Sy} (hS : S.R = fun i j => wayM rs j i) : ∀ t, t < liveN rs → (gSt S t).R t t < 1 :=
  pivots (fun i j _ _ => by rw [hS]; exact wayP_nn hn _ _) (by rw [hS]; exact turn_key g hn)
end
end G91

/-! Ma8: the table of the sums within. -/
namespace G91
open PySem PySem.Spec PyProof.Rows L2
noncomputable def sysI (rs : List RuleD) (row : List Str) (T : Str → Nat → Nat → Rat) (i j : Nat) : Sy := ⟨wayM rs, fun k => endE rs row T (hd rs k) i j⟩
noncomputable def insS (rs : List RuleD) (row : List Str) : Nat → Str → Nat → Nat → Rat
  | 0 => fun _ _ _ => 0
  | s + 1 => fun A i j => if j = i + (s + 1) ∧ A ∈ liveL rs then (gSt (sysI rs row (insS rs row s) i j) (liveN rs)).F (pos rs A) else insS rs row s A i j
noncomputable def insT (rs : List RuleD) (row : List Str) (A : Str) (i j : Nat) : Rat := insS rs row (j - i) A i j
section
variable {rs : List RuleD} {row : List Str}
theorem insS_out {A : Str} {i j : Nat} (h : ¬ i < j) : ∀ s, insS rs row s A i j = 0
  | 0 => rfl
  | s + 1 => by
    show (if j = i + (s + 1) ∧ A ∈ liveL rs then _ else insS rs row s A i j) = 0
    rw [if_neg (fun z => by omega), insS_out h s]
theorem insS_eq {A : Str} {i j : Nat} : ∀ s, j - i ≤ s → insS rs row s A i j = insT rs row A i j
  | 0, h => by
    unfold insT
    rw [show j - i = 0 by omega]
  | s + 1, h => by
    by_cases e : j - i = s + 1
    · unfold insT; rw [e]
    · rw [← insS_eq s (by omega)]
      show (if j = i + (s + 1) ∧ A ∈ liveL rs then _ else insS rs row s A i j) = _
      rw [if_neg (fun z => by omega)]
theorem insT_out {A : Str} {i j : Nat} (h : ¬ i < j) : insT rs row A i j = 0 := insS_out h _
theorem insT_dead {A : Str} {i j : Nat} (h : A ∉ liveL rs) : insT rs row A i j = 0 := by
  have : ∀ s, insS rs row s A i j = 0 := by
    intro s
    induction s with
    | zero => rfl
    | succ s ih =>
      show (if j = i + (s + 1) ∧ A ∈ liveL rs then _ else insS rs row s A i j) = 0
      rw [if_neg (fun z => h z.2), ih]
  exact this _
theorem restOf_body {A : Str} {r : RuleD} (h : restOf rs A r = true) : r.head = A ∧ live rs A ∧ (∀ s ∈ r.body, s ∈ headsOf rs → s ∈ liveL rs) ∧ ∀ s, r.body = [s] → s ∉ headsOf rs := by
  unfold restOf at h
  simp only [Bool.and_eq_true, decide_eq_true_eq, Bool.not_eq_true'] at h
  obtain ⟨h1, h2, h3⟩ := h
  have h4 := liveR_iff.mp h1
  refine ⟨h3, by rw [← h3]; exact h4.1, fun s hs hh => mem_liveL.mpr (h4.2 s hs hh), fun s hs hh => ?_⟩
  have := isStep_iff.mpr ⟨s, hh, hs⟩
  rw [h2] at this
  cases this
theorem rest_congr {T T' : Str → Nat → Nat → Rat} {A : Str} {r : RuleD} {i j : Nat} (h : restOf rs A r = true) (q : ∀ s ∈ liveL rs, ∀ a c, i ≤ a → a < c → c ≤ j → c - a < j - i → T s a c = T' s a c) :
    bodyW (wor (headsOf rs) row T) r.body i j = bodyW (wor (headsOf rs) row T') r.body i j := by
  obtain ⟨_, _, h3, h4⟩ := restOf_body h
  refine bodyW_congr fun s hs a c h1 h2 h5 h6 => ?_
  unfold wor
  by_cases hh : s ∈ headsOf rs
  · rw [if_pos hh, if_pos hh]
    have hl : 2 ≤ r.body.length := by
      match hb : r.body with
      | [] => rw [hb] at hs; exact nomatch hs
      | [t] =>
        rw [hb] at hs
        rw [List.mem_singleton.mp hs] at hh
        exact absurd hh (h4 t hb)
      | _ :: _ :: _ => simp
    exact q s (h3 s hs hh) a c h1 h2 h5 (by omega)
  · rw [if_neg hh, if_neg hh]
theorem endE_congr {T T' : Str → Nat → Nat → Rat} {A : Str} {i j : Nat} (q : ∀ s ∈ liveL rs, ∀ a c, i ≤ a → a < c → c ≤ j → c - a < j - i → T s a c = T' s a c) : endE rs row T A i j = endE rs row T' A i j := by
  refine sumL_congr fun r _ => ?_
  cases h : restOf rs A r with
  | false => rw [if_neg Bool.false_ne_true, if_neg Bool.false_ne_true]
  | true => rw [if_pos rfl, if_pos rfl, rest_congr h q]
theorem insT_sys {A : Str} {i j : Nat} (hA : A ∈ liveL rs) (h : i < j) : insT rs row A i j = (gSt (sysI rs row (insT rs row) i j) (liveN rs)).F (pos rs A) := by
  obtain ⟨s, hs⟩ : ∃ s, j - i = s + 1 := ⟨j - i - 1, by omega⟩
  have e : sysI rs row (insS rs row s) i j = sysI rs row (insT rs row) i j := by
    unfold sysI
    congr 1
    funext k
    exact endE_congr fun t _ a c _ h2 _ h4 => insS_eq s (by omega)
  unfold insT
  rw [hs]
  show (if j = i + (s + 1) ∧ A ∈ liveL rs then _ else _) = _
  rw [if_pos ⟨by omega, hA⟩, e]
  rfl
variable {st : Str} (g : GoodG st rs) (hn : ∀ r ∈ rs, 0 ≤ r.part)
include g hn
theorem insT_eq {A : Str} {i j : Nat} (hA : A ∈ liveL rs) (h : i < j) : insT rs row A i j = endE rs row (insT rs row) A i j + sumL (liveL rs) fun B => wayP rs A B * insT rs row B i j := by
  have hs := solves_of (way_pivots g hn (S := sysI rs row (insT rs row) i j) rfl) _ (pos_lt hA)
  rw [← insT_sys hA h] at hs
  rw [hs, sum_hd]
  show endE rs row _ (hd rs (pos rs A)) i j + _ = _
  rw [hd_pos hA]
  congr 1
  apply sumN_congr
  intro k hk
  show wayM rs (pos rs A) k * _ = _
  unfold wayM
  rw [hd_pos hA, insT_sys (hd_mem hk) h, pos_hd hk]
theorem insT_nn (A : Str) (i j : Nat) : 0 ≤ insT rs row A i j := by
  have : ∀ n A i j, j - i ≤ n → 0 ≤ insT rs row A i j := by
    intro n
    induction n with
    | zero => intro A i j h; rw [insT_out (by omega)]; exact nn0
    | succ n ih =>
      intro A i j h
      by_cases q : i < j
      · by_cases hA : A ∈ liveL rs
        · rw [insT_sys hA q]
          refine gSt_F_nn (n := liveN rs) (fun a b _ _ => wayP_nn hn _ _) (fun k _ => sumL_nn fun r hr => ?_) (Nat.le_refl _) (way_pivots g hn rfl) _ (pos_lt hA)
          cases hro : restOf rs (hd rs k) r with
          | false => rw [if_neg Bool.false_ne_true]; exact nn0
          | true =>
            rw [if_pos rfl]
            refine Rat.mul_nonneg (hn r hr) ?_
            rw [rest_congr (T' := insS rs row n) hro fun t _ a c _ h2 _ h4 => (insS_eq n (by omega)).symm]
            refine bodyW_nn (wor_nn fun s a c => ?_)
            by_cases z : c - a ≤ n
            · rw [insS_eq n z]; exact ih s a c z
            · have z2 : insS rs row n s a c = 0 := by
                have : ∀ m, m < c - a → insS rs row m s a c = 0 := by
                  intro m
                  induction m with
                  | zero => intro _; rfl
                  | succ m ihm =>
                    intro hm
                    show (if c = a + (m + 1) ∧ s ∈ liveL rs then _ else insS rs row m s a c) = 0
                    rw [if_neg (fun z => by omega), ihm (by omega)]
                exact this n (by omega)
              rw [z2]; exact nn0
        · rw [insT_dead hA]; exact nn0
      · rw [insT_out q]; exact nn0
  exact this _ A i j (Nat.le_refl _)
omit g hn in
theorem not_live_rule {r : RuleD} (hr : r ∈ rs) (h : liveR rs r = false) : ∃ s ∈ r.body, s ∈ headsOf rs ∧ s ∉ liveL rs := by
  by_cases q : ∃ s ∈ r.body, s ∈ headsOf rs ∧ s ∉ liveL rs
  · exact q
  · exfalso
    have hb : ∀ s ∈ r.body, s ∈ headsOf rs → live rs s := fun s hs hh => by
      by_cases z : s ∈ liveL rs
      · exact mem_liveL.mp z
      · exact absurd ⟨s, hs, hh, z⟩ q
    have : liveR rs r = true := liveR_iff.mpr ⟨fun c hc => hc r hr fun s hs hh => hb s hs hh c hc, hb⟩
    rw [h] at this
    cases this
/-- over all rules -/
theorem insT_fit {A : Str} {i j : Nat} (h : i < j) : insT rs row A i j = sumL rs fun r => if r.head = A then r.part * bodyW (wor (headsOf rs) row (insT rs row)) r.body i j else 0 := by
  have hdead : ∀ r ∈ rs, liveR rs r = false → bodyW (wor (headsOf rs) row (insT rs row)) r.body i j = 0 := fun r hr hl => by
    obtain ⟨s, h1, h2, h3⟩ := not_live_rule hr hl
    exact bodyW_dead (s := s) (fun a c => by unfold wor; rw [if_pos h2, insT_dead h3]) h1
  by_cases hA : A ∈ liveL rs
  · rw [insT_eq g hn hA h, ways_sum]
    unfold endE
    rw [← sumL_add]
    refine sumL_congr fun r hr => ?_
    cases hl : liveR rs r with
    | false =>
      have e1 : restOf rs A r = false := by unfold restOf; rw [hl]; rfl
      have e2 : stepOf rs A r = false := by unfold stepOf; rw [hl]; rfl
      rw [e1, e2, hdead r hr hl]
      simp
      grind
    | true =>
      by_cases e : r.head = A
      · rw [if_pos e]
        cases hs : isStep rs r with
        | false =>
          have e1 : restOf rs A r = true := by unfold restOf; rw [hl, hs, decide_eq_true e]; rfl
          have e2 : stepOf rs A r = false := by unfold stepOf; rw [hl, hs]; rfl
          rw [e1, e2, if_pos rfl, if_neg Bool.false_ne_true]
          grind
        | true =>
          have e1 : restOf rs A r = false := by unfold restOf; rw [hl, hs]; rfl
          have e2 : stepOf rs A r = true := by unfold stepOf; rw [hl, hs, decide_eq_true e]; rfl
          rw [e1, e2, if_pos rfl, if_neg Bool.false_ne_true]
          obtain ⟨B, b1, b2⟩ := isStep_iff.mp hs
          have e3 : bodyW (wor (headsOf rs) row (insT rs row)) [B] i j = insT rs row B i j := by
            rw [bodyW_one, if_pos h]
            unfold wor
            rw [if_pos b1]
          rw [b2, e3]
          show (0 : Rat) + r.part * insT rs row B i j = _
          grind
      · rw [if_neg e]
        have e1 : restOf rs A r = false := by unfold restOf; rw [decide_eq_false e]; simp
        have e2 : stepOf rs A r = false := by unfold stepOf; rw [decide_eq_false e]; simp
        rw [e1, e2]
        simp
        grind
  · rw [insT_dead hA]
    refine (sumL_zero fun r hr => ?_).symm
    by_cases e : r.head = A
    · rw [if_pos e]
      cases hl : liveR rs r with
      | false => rw [hdead r hr hl]; grind
      | true => exact absurd (mem_liveL.mpr (by rw [← e]; exact (liveR_iff.mp hl).1)) hA
    · rw [if_neg e]
/-- nothing else fits -/
theorem insT_only {n : Nat} {T : Str → Nat → Nat → Rat} (h : ∀ A ∈ liveL rs, ∀ i j, i < j → j ≤ n → T A i j = endE rs row T A i j + sumL (liveL rs) fun B => wayP rs A B * T B i j) : ∀ A ∈ liveL rs, ∀ i j, i < j → j ≤ n → T A i j = insT rs row A i j := by
  have : ∀ m A, A ∈ liveL rs → ∀ i j, i < j → j ≤ n → j - i ≤ m → T A i j = insT rs row A i j := by
    intro m
    induction m with
    | zero => intro A _ i j h1 _ h3; omega
    | succ m ih =>
      intro A hA i j h1 h2 h3
      refine alike g hn (x := fun A => T A i j) (z := fun A => insT rs row A i j) (e := fun A => endE rs row (insT rs row) A i j) (fun B hB => ?_) (fun B hB => insT_eq g hn hB h1) A hA
      show T B i j = _
      rw [h B hB i j h1 h2, endE_congr (T' := insT rs row) fun t ht a c h4 h5 h6 h7 => ih t ht a c h5 (by omega) (by omega)]
  exact fun A hA i j h1 h2 => this _ A hA i j h1 h2 (Nat.le_refl _)
end
end G91

/-! Ma9: how great the sums become. -/
namespace G91
open PySem PySem.Spec PyProof.Rows L2
open Builtin.Int (intBits)
/-- a fraction over c ^ m, no greater than c ^ m -/
def Bnd (c m : Nat) (r : Rat) : Prop := ∃ z : Nat, r = ((z : Int) : Rat) / (((c ^ m : Nat) : Int) : Rat) ∧ z ≤ c ^ (2 * m)
section
variable {c : Nat} (hc : 1 ≤ c)
include hc
theorem cpow_pos (m : Nat) : (0 : Rat) < (((c ^ m : Nat) : Int) : Rat) := rat_pos (by have := Nat.pow_pos (n := m) hc; omega)
theorem Bnd.nn {m : Nat} {r : Rat} (h : Bnd c m r) : 0 ≤ r := by
  obtain ⟨z, h1, h2⟩ := h
  rw [h1]
  exact nn_div (rat_nn (by omega)) (cpow_pos hc m)
theorem bnd0 (m : Nat) : Bnd c m 0 := ⟨0, by
  have := cpow_pos hc m
  have e : ((0 : Int) : Rat) = 0 := rfl
  show (0 : Rat) = ((0 : Int) : Rat) / _
  rw [e]
  grind, Nat.zero_le _⟩
theorem bnd1 (m : Nat) : Bnd c m 1 := ⟨c ^ m, by
  have := cpow_pos hc m
  generalize (((c ^ m : Nat) : Int) : Rat) = q at *
  grind, Nat.pow_le_pow_right hc (by omega)⟩
theorem Bnd.mono {m n : Nat} {r : Rat} (h : Bnd c m r) (e : m ≤ n) : Bnd c n r := by
  obtain ⟨z, h1, h2⟩ := h
  obtain ⟨d, rfl⟩ := Nat.le.dest e
  refine ⟨z * c ^ d, ?_, ?_⟩
  · have p1 := cpow_pos hc m
    have p2 := cpow_pos hc d
    rw [h1, Nat.pow_add]
    push_cast at *
    generalize (((c : Nat) : Rat) ^ m) = x at *
    generalize (((c : Nat) : Rat) ^ d) = y at *
    grind
  · have : c ^ (2 * (m + d)) = c ^ (2 * m) * (c ^ d * c ^ d) := by rw [← Nat.pow_add, ← Nat.pow_add]; congr 1; omega
    rw [this]
    refine Nat.mul_le_mul h2 ?_
    have := Nat.pow_pos (n := d) hc
    exact Nat.le_mul_of_pos_left _ this
theorem Bnd.mul {m n : Nat} {r s : Rat} (h : Bnd c m r) (g : Bnd c n s) : Bnd c (m + n) (r * s) := by
  obtain ⟨z, h1, h2⟩ := h
  obtain ⟨y, g1, g2⟩ := g
  refine ⟨z * y, ?_, ?_⟩
  · have p1 := cpow_pos hc m
    have p2 := cpow_pos hc n
    rw [h1, g1, Nat.pow_add]
    push_cast at *
    generalize (((c : Nat) : Rat) ^ m) = x at *
    generalize (((c : Nat) : Rat) ^ n) = w at *
    grind
  · rw [Nat.mul_add, Nat.pow_add]
    exact Nat.mul_le_mul h2 g2
theorem bnd_sum_raw {m : Nat} {f : Nat → Rat} : ∀ {n : Nat}, (∀ k, k < n → Bnd c m (f k)) → ∃ z : Nat, sumN n f = ((z : Int) : Rat) / (((c ^ m : Nat) : Int) : Rat) ∧ z ≤ n * c ^ (2 * m)
  | 0, _ => ⟨0, by
    have := cpow_pos hc m
    have e : ((0 : Int) : Rat) = 0 := rfl
    show (0 : Rat) = ((0 : Int) : Rat) / _
    rw [e]
    grind, Nat.zero_le _⟩
  | n + 1, h => by
    obtain ⟨z, h1, h2⟩ := bnd_sum_raw (f := f) (n := n) fun k hk => h k (by omega)
    obtain ⟨y, g1, g2⟩ := h n (by omega)
    refine ⟨z + y, ?_, ?_⟩
    · show sumN n f + f n = _
      rw [h1, g1]
      have := cpow_pos hc m
      push_cast at *
      generalize (((c : Nat) : Rat) ^ m) = x at *
      grind
    · rw [Nat.add_mul, Nat.one_mul]
      omega
theorem Bnd.sumN {m n : Nat} {f : Nat → Rat} (hn : n ≤ c) (h : ∀ k, k < n → Bnd c m (f k)) : Bnd c (m + 1) (sumN n f) := by
  obtain ⟨z, h1, h2⟩ := bnd_sum_raw hc h
  refine ⟨z * c, ?_, ?_⟩
  · have p1 := cpow_pos hc m
    have p2 := cpow_pos hc 1
    rw [h1, Nat.pow_succ]
    push_cast at *
    generalize (((c : Nat) : Rat) ^ m) = x at *
    have p3 : (0 : Rat) < (c : Rat) := by
      have e : ((c : Nat) : Rat) ^ 1 = (c : Rat) := by grind
      rw [← e]; exact p2
    grind
  · have : c ^ (2 * (m + 1)) = c ^ (2 * m) * (c * c) := by rw [show 2 * (m + 1) = 2 * m + 1 + 1 by omega, Nat.pow_succ, Nat.pow_succ, Nat.mul_assoc]
    rw [this]
    calc z * c ≤ (n * c ^ (2 * m)) * c := Nat.mul_le_mul_right _ h2
      _ ≤ (c * c ^ (2 * m)) * c := Nat.mul_le_mul_right _ (Nat.mul_le_mul_right _ hn)
      _ = c ^ (2 * m) * (c * c) := by rw [Nat.mul_comm c, Nat.mul_assoc]
theorem Bnd.sumL {α : Type} {m : Nat} {f : α → Rat} {l : List α} (d : α) (hl : l.length ≤ c) (h : ∀ a ∈ l, Bnd c m (f a)) : Bnd c (m + 1) (sumL l f) := by
  rw [sumL_getD (d := d)]
  refine Bnd.sumN hc hl fun k hk => ?_
  rw [List.getD_eq_getElem?_getD, List.getElem?_eq_getElem hk]
  exact h _ (List.getElem_mem hk)
omit hc in
theorem pow_bits {b m z : Nat} (hb : c < 2 ^ b) (h : z ≤ c ^ m) : intBits ((z : Nat) : Int) ≤ b * m + 1 := by
  refine intBits_le_iff.mpr ?_
  show ((z : Nat) : Int).natAbs < _
  rw [Int.natAbs_natCast, Nat.pow_succ, Nat.pow_mul]
  have h1 : c ^ m ≤ (2 ^ b) ^ m := Nat.pow_le_pow_left (Nat.le_of_lt hb) m
  have h2 : 0 < (2 ^ b) ^ m := Nat.pow_pos (Nat.pow_pos (by decide))
  omega
theorem Bnd.bt {b m : Nat} {r : Rat} (hb : c < 2 ^ b) (h : Bnd c m r) : Bt (2 * m * b + 1) r := by
  obtain ⟨z, h1, h2⟩ := h
  rw [h1]
  have hp : (0 : Int) < ((c ^ m : Nat) : Int) := by have := Nat.pow_pos (n := m) hc; omega
  refine bt_frac hp (Nat.le_trans (pow_bits hb h2) ?_) (Nat.le_trans (pow_bits hb (Nat.le_refl (c ^ m))) ?_)
  · rw [Nat.mul_comm b]; exact Nat.le_refl _
  · have : b * m ≤ 2 * m * b := by rw [Nat.mul_comm b, Nat.mul_assoc]; omega
    omega
end
/-- a number over which all of a list's are fractions -/
def prodC : List Rat → Nat
  | [] => 1
  | r :: l => (r.den * (r.num.toNat + 1)) * prodC l
theorem prodC_pos : ∀ l : List Rat, 1 ≤ prodC l
  | [] => Nat.le_refl 1
  | r :: l => by
    have h1 := prodC_pos l
    have h2 := r.den_pos
    show 1 ≤ (r.den * (r.num.toNat + 1)) * prodC l
    have h3 : 0 < r.den * (r.num.toNat + 1) := Nat.mul_pos h2 (by omega)
    exact Nat.mul_pos h3 h1
theorem prodC_dvd : ∀ {l : List Rat} {r : Rat}, r ∈ l → r.den * (r.num.toNat + 1) ∣ prodC l
  | [], _, h => nomatch h
  | s :: l, r, h => by
    rcases List.mem_cons.mp h with e | q
    · subst e; exact Nat.dvd_mul_right _ _
    · exact Nat.dvd_trans (prodC_dvd q) (Nat.dvd_mul_left _ _)
theorem prodC_bits {b : Nat} : ∀ {l : List Rat}, (∀ r ∈ l, 0 ≤ r ∧ Bt b r) → prodC l < 2 ^ (l.length * (2 * b + 1) + 1)
  | [], _ => by show 1 < 2 ^ (0 * (2 * b + 1) + 1); simp
  | r :: l, h => by
    have ih := prodC_bits (b := b) (l := l) fun s hs => h s (List.mem_cons_of_mem _ hs)
    obtain ⟨h0, h1, h2⟩ := h r List.mem_cons_self
    have a1 : r.num.natAbs < 2 ^ b := intBits_le_iff.mp h1
    have a2 : (r.den : Int).natAbs < 2 ^ b := intBits_le_iff.mp h2
    have a3 : r.num.toNat + 1 ≤ 2 ^ (b + 1) := by
      rw [Nat.pow_succ]
      have := Nat.pow_pos (n := b) (show 0 < 2 by decide)
      omega
    have a4 : r.den ≤ 2 ^ b := by omega
    show (r.den * (r.num.toNat + 1)) * prodC l < 2 ^ ((l.length + 1) * (2 * b + 1) + 1)
    have e : 2 ^ ((l.length + 1) * (2 * b + 1) + 1) = (2 ^ b * 2 ^ (b + 1)) * 2 ^ (l.length * (2 * b + 1) + 1) := by
      rw [← Nat.pow_add, ← Nat.pow_add]
      congr 1
      rw [Nat.add_mul]
      omega
    rw [e]
    refine Nat.lt_of_le_of_lt (Nat.mul_le_mul_right _ (Nat.mul_le_mul a4 a3)) ?_
    exact Nat.mul_lt_mul_of_pos_left ih (Nat.mul_pos (Nat.pow_pos (by decide)) (Nat.pow_pos (by decide)))
theorem bnd_of_dvd {c : Nat} {r : Rat} (hc : 1 ≤ c) (h0 : 0 ≤ r) (h : r.den * (r.num.toNat + 1) ∣ c) : Bnd c 1 r := by
  obtain ⟨k, rfl⟩ := h
  have hd := r.den_pos
  have hn := num_nn h0
  have hk : 0 < k := by
    rcases Nat.eq_zero_or_pos k with q | q
    · subst q; omega
    · exact q
  refine ⟨r.num.toNat * ((r.num.toNat + 1) * k), ?_, ?_⟩
  · have e := rat_eq r
    have e2 : ((r.num.toNat : Nat) : Int) = r.num := Int.toNat_of_nonneg hn
    have p1 := den_ne r
    have p2 : (0 : Rat) < ((((r.num.toNat + 1 : Nat) : Int)) : Rat) := rat_pos (by omega)
    have p3 : (0 : Rat) < ((((k : Nat) : Int)) : Rat) := rat_pos (by omega)
    rw [Nat.pow_one]
    have e3 : (((r.num.toNat * ((r.num.toNat + 1) * k) : Nat) : Int) : Rat) = (r.num : Rat) * ((((r.num.toNat + 1 : Nat) : Int) : Rat) * (((k : Nat) : Int) : Rat)) := by
      rw [← e2]; push_cast; rfl
    have e4 : (((r.den * (r.num.toNat + 1) * k : Nat) : Int) : Rat) = (r.den : Rat) * ((((r.num.toNat + 1 : Nat) : Int) : Rat) * (((k : Nat) : Int) : Rat)) := by
      push_cast; grind
    rw [e3, e4]
    generalize ((((r.num.toNat + 1 : Nat) : Int)) : Rat) = x at *
    generalize ((((k : Nat) : Int)) : Rat) = y at *
    have p4 : x * y ≠ 0 := by
      have := Rat.mul_pos p2 p3
      grind
    generalize x * y = q at *
    conv => lhs; rw [e]
    grind
  · have e : (r.den * (r.num.toNat + 1) * k) ^ (2 * 1) = (r.den * (r.num.toNat + 1) * k) * (r.den * (r.num.toNat + 1) * k) := by rw [show 2 * 1 = 1 + 1 by rfl, Nat.pow_succ, Nat.pow_one]
    rw [e]
    refine Nat.mul_le_mul ?_ ?_
    · have : 1 * (r.num.toNat + 1) * 1 ≤ r.den * (r.num.toNat + 1) * k := Nat.mul_le_mul (Nat.mul_le_mul_right _ hd) hk
      omega
    · have : 1 * ((r.num.toNat + 1) * k) ≤ r.den * ((r.num.toNat + 1) * k) := Nat.mul_le_mul_right _ hd
      rw [Nat.mul_assoc]
      omega
/-! elimination is linear in its ends -/
def unitF (b : Nat) : Nat → Rat := fun k => if k = b then 1 else 0
theorem gSt_lin {n : Nat} {R : Nat → Nat → Rat} {F : Nat → Rat} : ∀ {t : Nat}, t ≤ n → ∀ i, i < n → (gSt ⟨R, F⟩ t).F i = sumN n fun b => (gSt ⟨R, unitF b⟩ t).F i * F b
  | 0, _, i, hi => by
    show F i = sumN n fun b => (if i = b then 1 else 0) * F b
    have e : (fun b => (if i = b then (1 : Rat) else 0) * F b) = fun b => if b = i then F i else 0 := by
      funext b
      by_cases q : b = i
      · subst q; rw [if_pos rfl, if_pos rfl]; grind
      · rw [if_neg q, if_neg (fun z => q z.symm)]; grind
    rw [e, sumN_single hi]
  | t + 1, ht, i, hi => by
    have ih := gSt_lin (n := n) (R := R) (F := F) (t := t) (by omega)
    have eR : ∀ b, (gSt ⟨R, unitF b⟩ t).R = (gSt ⟨R, F⟩ t).R := fun b => gSt_R (S := ⟨R, unitF b⟩) (S' := ⟨R, F⟩) rfl t
    have hg : gEnd (gSt ⟨R, F⟩ t) t = sumN n fun b => gEnd (gSt ⟨R, unitF b⟩ t) t * F b := by
      unfold gEnd
      rw [ih t (by omega)]
      have e : (fun b => (gSt ⟨R, unitF b⟩ t).F t / (1 - (gSt ⟨R, unitF b⟩ t).R t t) * F b) = fun b => (1 - (gSt ⟨R, F⟩ t).R t t)⁻¹ * ((gSt ⟨R, unitF b⟩ t).F t * F b) := by
        funext b
        rw [eR]
        grind
      rw [e, sumN_mul]
      grind
    show (if i = t then gEnd (gSt ⟨R, F⟩ t) t else (gSt ⟨R, F⟩ t).F i + (gSt ⟨R, F⟩ t).R i t * gEnd (gSt ⟨R, F⟩ t) t) = sumN n fun b => (if i = t then gEnd (gSt ⟨R, unitF b⟩ t) t else (gSt ⟨R, unitF b⟩ t).F i + (gSt ⟨R, unitF b⟩ t).R i t * gEnd (gSt ⟨R, unitF b⟩ t) t) * F b
    by_cases q : i = t
    · rw [if_pos q, hg]
      apply sumN_congr
      intro b _
      rw [if_pos q]
    · rw [if_neg q, ih i hi, hg, ← sumN_mul, ← sumN_add]
      apply sumN_congr
      intro b _
      rw [if_neg q, eR]
      grind
/-! the sums within -/
section
variable {c : Nat} (hc : 1 ≤ c) {hs row : List Str} {T : Str → Nat → Nat → Rat} {D : Nat}
include hc
theorem worB (hT : ∀ A a e, a < e → e - a ≤ D → Bnd c (10 * (e - a) - 6) (T A a e)) {s : Str} {i j : Nat} (h : i < j) (hD : j - i ≤ D) : Bnd c (10 * (j - i) - 6) (wor hs row T s i j) := by
  unfold wor
  split
  · exact hT _ _ _ h hD
  · split
    · exact bnd1 hc _
    · exact bnd0 hc _
theorem bodyB (hT : ∀ A a e, a < e → e - a ≤ D → Bnd c (10 * (e - a) - 6) (T A a e)) (hDc : D ≤ c) : ∀ {b : List Str} {i j : Nat}, b ≠ [] → j - i ≤ D → Bnd c (10 * (j - i) - 5 * b.length - 1) (bodyW (wor hs row T) b i j)
  | [], _, _, h, _ => absurd rfl h
  | [s], i, j, _, hD => by
    rw [bodyW_one]
    split
    · rename_i h
      have := worB hc (hs := hs) (row := row) hT (s := s) h hD
      exact this.mono hc (by simp; omega)
    · exact bnd0 hc _
  | s :: t :: b, i, j, _, hD => by
    by_cases q : j < i + (s :: t :: b).length
    · rw [bodyW_short q]; exact bnd0 hc _
    · simp only [List.length_cons] at q
      refine (Bnd.sumN hc (m := 10 * (j - i) - 5 * (s :: t :: b).length - 2) (by omega) fun k hk => ?_).mono hc (by simp only [List.length_cons]; omega)
      by_cases q2 : j < i + 1 + k + (t :: b).length
      · rw [bodyW_short q2]
        have e : wor hs row T s i (i + 1 + k) * 0 = 0 := by grind
        rw [e]
        exact bnd0 hc _
      · simp only [List.length_cons] at q2
        have h1 := worB hc (hs := hs) (row := row) hT (s := s) (i := i) (j := i + 1 + k) (by omega) (by omega)
        have h2 := bodyB hT hDc (b := t :: b) (i := i + 1 + k) (j := j) (by simp) (by omega)
        refine (h1.mul hc h2).mono hc ?_
        simp only [List.length_cons]
        omega
/-- .. a part of its sum -/
theorem bodyP (hT : ∀ A a e, a < e → e - a ≤ D → Bnd c (10 * (e - a) - 6) (T A a e)) (hDc : D ≤ c) {s : Str} {b : List Str} {i j k : Nat} (hb : b ≠ []) (hD : j - i ≤ D) (hk : k ≤ j - i) :
    Bnd c (10 * (j - i) - 5 * (b.length + 1) - 1) (sumN k fun k => wor hs row T s i (i + 1 + k) * bodyW (wor hs row T) b (i + 1 + k) j) := by
  have hb1 : 1 ≤ b.length := List.length_pos_iff.mpr hb
  by_cases q : j < i + b.length + 1
  · rw [sumN_zero fun l hl => by rw [bodyW_short (by omega)]; grind]
    exact bnd0 hc _
  · refine (Bnd.sumN hc (m := 10 * (j - i) - 5 * (b.length + 1) - 2) (by omega) fun k' hk' => ?_).mono hc (by omega)
    by_cases q2 : j < i + 1 + k' + b.length
    · rw [bodyW_short q2]
      have e : wor hs row T s i (i + 1 + k') * 0 = 0 := by grind
      rw [e]
      exact bnd0 hc _
    · have h1 := worB hc (hs := hs) (row := row) hT (s := s) (i := i) (j := i + 1 + k') (by omega) (by omega)
      have h2 := bodyB hc (hs := hs) (row := row) hT hDc (b := b) (i := i + 1 + k') (j := j) hb (by omega)
      exact (h1.mul hc h2).mono hc (by omega)
end
/-- a number that serves a grammar -/
structure Serves (c : Nat) (rs : List RuleD) : Prop where
  big : 200 ≤ c
  part : ∀ r ∈ rs, Bnd c 1 r.part
  inv : ∀ t i b, t ≤ liveN rs → i < liveN rs → b < liveN rs → Bnd c 1 ((gSt ⟨wayM rs, unitF b⟩ t).F i)
  tin : ∀ t i b, t ≤ liveN rs → i < liveN rs → b < liveN rs → Bnd c 1 ((gSt ⟨fun k l => wayM rs l k, unitF b⟩ t).F i)
section
variable {c : Nat} {st : Str} {rs : List RuleD} {row : List Str} (sv : Serves c rs) (g : GoodG st rs)
include sv g
theorem restB {D : Nat} (hD : D ≤ 199) {T : Str → Nat → Nat → Rat} (hT : ∀ A a e, a < e → e - a ≤ D → Bnd c (10 * (e - a) - 6) (T A a e)) {A : Str} {r : RuleD} {i j : Nat} (hr : restOf rs A r = true) (hmem : r ∈ rs) (h : i < j) (hj : j - i ≤ D + 1) :
    Bnd c (10 * (j - i) - 9) (r.part * bodyW (wor (headsOf rs) row T) r.body i j) := by
  have hc : 1 ≤ c := by have := sv.big; omega
  have hp := sv.part r hmem
  have hb1 : 1 ≤ r.body.length := by
    have h := g.ok r hmem
    unfold goodRule at h
    simp only [Bool.and_eq_true, decide_eq_true_eq] at h
    exact h.1.1.2.1
  rw [rest_congr (T' := fun A a e => if e - a < j - i then T A a e else 0) hr fun s _ a e _ _ _ h4 => (if_pos h4).symm]
  have hT' : ∀ A a e, a < e → e - a ≤ j - i → Bnd c (10 * (e - a) - 6) (if e - a < j - i then T A a e else 0) := fun A a e h1 h2 => by
    split
    · exact hT A a e h1 (by omega)
    · exact bnd0 hc _
  obtain ⟨_, _, _, h4⟩ := restOf_body hr
  have hword : r.body.length = 1 → Bnd c 0 (bodyW (wor (headsOf rs) row fun A a e => if e - a < j - i then T A a e else 0) r.body i j) := fun hl => by
    match hb : r.body, hl with
    | [s], _ =>
      have ew : wor (headsOf rs) row (fun A a e => if e - a < j - i then T A a e else 0) s i j = if j = i + 1 ∧ row[i]? = some s then 1 else 0 := by
        unfold wor
        rw [if_neg (h4 s hb)]
      rw [bodyW_one, if_pos h, ew]
      split
      · exact bnd1 hc _
      · exact bnd0 hc _
  by_cases hl : r.body.length = 1
  · exact (hp.mul hc (hword hl)).mono hc (by omega)
  · have hne : r.body ≠ [] := fun z => by rw [z] at hb1; simp at hb1
    have := bodyB hc (hs := headsOf rs) (row := row) hT' (by have := sv.big; omega) hne (Nat.le_refl (j - i))
    by_cases hsh : j < i + r.body.length
    · rw [bodyW_short hsh]
      have e : r.part * 0 = 0 := by grind
      rw [e]
      exact bnd0 hc _
    · exact (hp.mul hc this).mono hc (by omega)
theorem endB {D : Nat} (hD : D ≤ 199) {T : Str → Nat → Nat → Rat} (hT : ∀ A a e, a < e → e - a ≤ D → Bnd c (10 * (e - a) - 6) (T A a e)) {A : Str} {l : List RuleD} (hl : ∀ r ∈ l, r ∈ rs) (hlen : l.length ≤ 200) {i j : Nat} (h : i < j) (hj : j - i ≤ D + 1) :
    Bnd c (10 * (j - i) - 8) (sumL l fun r => if restOf rs A r then r.part * bodyW (wor (headsOf rs) row T) r.body i j else 0) := by
  have hc : 1 ≤ c := by have := sv.big; omega
  refine (Bnd.sumL hc (m := 10 * (j - i) - 9) ⟨"", [], 0⟩ (by have := sv.big; omega) fun r hr => ?_).mono hc (by omega)
  cases hro : restOf rs A r with
  | false => rw [if_neg Bool.false_ne_true]; exact bnd0 hc _
  | true => rw [if_pos rfl]; exact restB sv g hD hT hro (hl r hr) h hj
theorem elimB {m : Nat} (hm : liveN rs ≤ 200) {R : Nat → Nat → Rat} (hR : ∀ t i b, t ≤ liveN rs → i < liveN rs → b < liveN rs → Bnd c 1 ((gSt ⟨R, unitF b⟩ t).F i)) {F : Nat → Rat} (hF : ∀ k, k < liveN rs → Bnd c m (F k)) {t i : Nat} (ht : t ≤ liveN rs) (hi : i < liveN rs) : Bnd c (m + 2) ((gSt ⟨R, F⟩ t).F i) := by
  have hc : 1 ≤ c := by have := sv.big; omega
  rw [gSt_lin ht i hi]
  exact (Bnd.sumN hc (m := 1 + m) (by have := sv.big; omega) fun b hb => (hR t i b ht hi hb).mul hc (hF b hb)).mono hc (by omega)
theorem insB (hm : liveN rs ≤ 200) (hrl : rs.length ≤ 200) : ∀ {d : Nat}, d ≤ 200 → ∀ A i j, i < j → j - i ≤ d → Bnd c (10 * (j - i) - 6) (insT rs row A i j)
  | 0, _, A, i, j, h, q => by omega
  | d + 1, hd, A, i, j, h, q => by
    have hc : 1 ≤ c := by have := sv.big; omega
    by_cases hA : A ∈ liveL rs
    · rw [insT_sys hA h]
      have ih := insB hm hrl (d := d) (by omega)
      have hF : ∀ k, k < liveN rs → Bnd c (10 * (j - i) - 8) ((sysI rs row (insT rs row) i j).F k) := fun k _ => endB sv g (D := d) (by omega) (fun A a e h1 h2 => ih A a e h1 h2) (fun r hr => hr) hrl h q
      exact (elimB sv g hm sv.inv hF (Nat.le_refl _) (pos_lt hA)).mono hc (by omega)
    · rw [insT_dead hA]; exact bnd0 hc _
end
end G91

/-! Ma10: a number that serves a grammar of few rules; what the walk leans on. -/
namespace G91
open PySem PySem.Spec PyProof.Rows L2
open Builtin.Int (intBits)
/-- the product of the bottoms -/
def prodD : List RuleD → Nat
  | [] => 1
  | r :: l => r.part.den * prodD l
theorem prodD_pos : ∀ l : List RuleD, 0 < prodD l
  | [] => by decide
  | r :: l => Nat.mul_pos r.part.den_pos (prodD_pos l)
theorem prodD_dvd : ∀ {l : List RuleD} {r : RuleD}, r ∈ l → r.part.den ∣ prodD l
  | [], _, h => nomatch h
  | s :: l, r, h => by
    rcases List.mem_cons.mp h with e | q
    · subst e; exact Nat.dvd_mul_right _ _
    · exact Nat.dvd_trans (prodD_dvd q) (Nat.dvd_mul_left _ _)
theorem prodD_bits {b : Nat} : ∀ {l : List RuleD}, (∀ r ∈ l, Bt b r.part) → prodD l ≤ 2 ^ (b * l.length)
  | [], _ => by show 1 ≤ 2 ^ (b * 0); simp
  | r :: l, h => by
    have ih := prodD_bits (b := b) (l := l) fun s hs => h s (List.mem_cons_of_mem _ hs)
    have a2 : (r.part.den : Int).natAbs < 2 ^ b := intBits_le_iff.mp (h r List.mem_cons_self).2
    show r.part.den * prodD l ≤ 2 ^ (b * (l.length + 1))
    rw [Nat.mul_add, Nat.mul_one, Nat.pow_add, Nat.mul_comm]
    exact Nat.mul_le_mul ih (by omega)
theorem sum_over {d : Nat} (hd : 0 < d) {p : RuleD → Bool} : ∀ {l : List RuleD}, (∀ r ∈ l, r.part.den ∣ d ∧ 0 ≤ r.part) → ∃ z : Int, 0 ≤ z ∧ sumL l (fun r => if p r then r.part else 0) = (z : Rat) / ((d : Int) : Rat)
  | [], _ => ⟨0, Int.le_refl _, by
    have e : ((0 : Int) : Rat) = 0 := rfl
    show (0 : Rat) = ((0 : Int) : Rat) / _
    rw [e]; grind⟩
  | r :: l, h => by
    obtain ⟨z, h1, h2⟩ := sum_over (p := p) hd (l := l) fun s hs => h s (List.mem_cons_of_mem _ hs)
    obtain ⟨⟨k, hk⟩, hn⟩ := h r List.mem_cons_self
    have hdp : (0 : Rat) < ((d : Int) : Rat) := rat_pos (by omega)
    show ∃ z : Int, 0 ≤ z ∧ (if p r then r.part else 0) + sumL l (fun r => if p r then r.part else 0) = _
    cases hp : p r with
    | false =>
      refine ⟨z, h1, ?_⟩
      rw [h2]
      simp
      grind
    | true =>
      have hnn := num_nn hn
      refine ⟨r.part.num * k + z, Int.add_nonneg (Int.mul_nonneg hnn (by omega)) h1, ?_⟩
      have e := rat_eq r.part
      have p1 := den_ne r.part
      have hk0 : 0 < k := by
        rcases Nat.eq_zero_or_pos k with q | q
        · subst q; omega
        · exact q
      have p2 : (0 : Rat) < ((k : Int) : Rat) := rat_pos (by omega)
      have e2 : ((d : Int) : Rat) = (r.part.den : Rat) * ((k : Int) : Rat) := by rw [hk]; push_cast; rfl
      have e3 : ((r.part.num * k + z : Int) : Rat) = (r.part.num : Rat) * ((k : Int) : Rat) + (z : Rat) := by push_cast; rfl
      rw [h2, if_pos rfl, e3, e2]
      rw [e2] at hdp
      generalize ((k : Int) : Rat) = y at *
      conv => lhs; rw [e]
      grind
section
variable {st : Str} {rs : List RuleD} (g : GoodG st rs) (hn : ∀ r ∈ rs, 0 ≤ r.part)
include g hn
theorem wayP_le (A B : Str) (hA : A ∈ headsOf rs) : wayP rs A B ≤ 1 := by
  rw [← g.one A hA, partSum_eq]
  refine sumL_le fun r hr => ?_
  cases h : stepOf rs A r with
  | false =>
    simp only [Bool.false_and, Bool.false_eq_true, if_false]
    split
    · exact hn r hr
    · exact nn0
  | true =>
    rw [if_pos (stepOf_head h)]
    split
    · exact Rat.le_refl
    · exact hn r hr
theorem wayM_frac {m : Nat} (hm : prodD rs < 2 ^ m) {k l : Nat} (hk : k < liveN rs) : ∃ z : Int, 0 ≤ z ∧ intBits z ≤ m ∧ wayM rs k l = (z : Rat) / (((prodD rs : Nat) : Int) : Rat) := by
  obtain ⟨z, h1, h2⟩ := sum_over (d := prodD rs) (p := fun r => stepOf rs (hd rs k) r && decide (r.body = [hd rs l])) (prodD_pos rs) (l := rs) fun r hr => ⟨prodD_dvd hr, hn r hr⟩
  refine ⟨z, h1, intBits_le_iff.mpr ?_, h2⟩
  have h3 := wayP_le g hn (hd rs k) (hd rs l) (live_head (mem_liveL.mp (hd_mem hk)))
  have hdp : (0 : Rat) < (((prodD rs : Nat) : Int) : Rat) := rat_pos (by have := prodD_pos rs; omega)
  have h4 : (z : Rat) ≤ (((prodD rs : Nat) : Int) : Rat) := by
    have e : wayP rs (hd rs k) (hd rs l) = (z : Rat) / (((prodD rs : Nat) : Int) : Rat) := h2
    rw [e] at h3
    have h6 := Rat.mul_le_mul_of_nonneg_right h3 (Rat.le_of_lt hdp)
    have hne : (((prodD rs : Nat) : Int) : Rat) ≠ 0 := by grind
    generalize (((prodD rs : Nat) : Int) : Rat) = q at *
    have e5 : (z : Rat) / q * q = (z : Rat) := by grind
    rw [e5, Rat.one_mul] at h6
    exact h6
  have h5 : z ≤ ((prodD rs : Nat) : Int) := by exact_mod_cast h4
  omega
theorem way_row {m : Nat} (hm : prodD rs < 2 ^ m) {k : Nat} (hk : k < liveN rs) : Row m (liveN rs) (wayM rs k) :=
  ⟨((prodD rs : Nat) : Int), by have := prodD_pos rs; omega, intBits_le_iff.mpr (by omega), fun l hl => wayM_frac g hn hm hk⟩
theorem turn_row {m : Nat} (hm : prodD rs < 2 ^ m) {k : Nat} (hk : k < liveN rs) : Row m (liveN rs) (fun l => wayM rs l k) :=
  ⟨((prodD rs : Nat) : Int), by have := prodD_pos rs; omega, intBits_le_iff.mpr (by omega), fun l hl => wayM_frac g hn hm hl⟩
end
/-! elimination, up to three unknowns -/
def rBits : Nat → Nat
  | 0 => 55
  | t + 1 => 2 * rBits t + 1
def fBits : Nat → Nat
  | 0 => 1
  | t + 1 => 2 * fBits t + 3 * rBits t + 3
theorem elim_bits {n : Nat} {S : Sy} (h : SyB 55 1 n S) : ∀ {t : Nat}, t ≤ n → (∀ u, u < t → (gSt S u).R u u < 1) → SyB (rBits t) (fBits t) n (gSt S t)
  | 0, _, _ => h
  | t + 1, ht, hu => (elim_bits h (t := t) (by omega) fun u hu' => hu u (by omega)).step (by omega) (hu t (by omega))
theorem unit_ok {n b : Nat} {R : Nat → Nat → Rat} (h : ∀ k, k < n → Row 55 n (R k)) : SyB 55 1 n ⟨R, unitF b⟩ := fun i hi => ⟨h i hi, by
  show 0 ≤ (if i = b then (1 : Rat) else 0)
  split
  · exact nn1
  · exact nn0, by
  show Bt 1 (if i = b then (1 : Rat) else 0)
  split
  · exact bt1
  · exact bt0⟩
/-- the entries -/
def entL (R : Nat → Nat → Rat) (n t : Nat) : List Rat := (List.range n).flatMap fun i => (List.range n).map fun b => (gSt ⟨R, unitF b⟩ t).F i
theorem entL_len {R : Nat → Nat → Rat} {n t : Nat} : (entL R n t).length = n * n := by
  unfold entL
  rw [List.length_flatMap]
  have : (List.range n).map (fun i => ((List.range n).map fun b => (gSt ⟨R, unitF b⟩ t).F i).length) = List.replicate n n := by
    apply List.ext_getElem?
    intro i
    by_cases h : i < n
    · simp [h]
    · rw [List.getElem?_eq_none (by simp; omega), List.getElem?_eq_none (by simp; omega)]
  rw [this]
  simp
theorem entL_mem {R : Nat → Nat → Rat} {n t i b : Nat} (hi : i < n) (hb : b < n) : (gSt ⟨R, unitF b⟩ t).F i ∈ entL R n t := by
  unfold entL
  exact List.mem_flatMap.mpr ⟨i, List.mem_range.mpr hi, List.mem_map.mpr ⟨b, List.mem_range.mpr hb, rfl⟩⟩
theorem entL_ok {R : Nat → Nat → Rat} {n t : Nat} (h : ∀ k, k < n → Row 55 n (R k)) (hp : ∀ S : Sy, S.R = R → ∀ u, u < n → (gSt S u).R u u < 1) (ht : t ≤ n) : ∀ r ∈ entL R n t, 0 ≤ r ∧ Bt (fBits t) r := by
  intro r hr
  unfold entL at hr
  obtain ⟨i, hi, hr⟩ := List.mem_flatMap.mp hr
  obtain ⟨b, hb, rfl⟩ := List.mem_map.mp hr
  have := elim_bits (unit_ok (b := b) h) ht fun u hu => hp _ rfl u (by omega)
  exact (this i (List.mem_range.mp hi)).2
/-- bits of a number that serves, by the live heads -/
def halfB (n : Nat) : Nat → Nat
  | 0 => 0
  | t + 1 => halfB n t + (n * n * (2 * fBits (t + 1) + 1) + 1)
def cBits (n : Nat) : Nat := 200 + 2 * halfB n n
theorem cBits_3 : cBits 0 ≤ 1000 ∧ cBits 1 ≤ 2000 ∧ cBits 2 ≤ 20000 ∧ cBits 3 ≤ 103600 := by decide
def prodE (R : Nat → Nat → Rat) (n : Nat) : Nat → Nat
  | 0 => 1
  | t + 1 => prodE R n t * prodC (entL R n (t + 1))
theorem prodE_pos {R : Nat → Nat → Rat} {n : Nat} : ∀ t, 1 ≤ prodE R n t
  | 0 => Nat.le_refl 1
  | t + 1 => Nat.mul_pos (prodE_pos t) (prodC_pos _)
theorem prodE_dvd {R : Nat → Nat → Rat} {n : Nat} : ∀ {t u : Nat}, 1 ≤ u → u ≤ t → prodC (entL R n u) ∣ prodE R n t
  | 0, u, h1, h2 => by omega
  | t + 1, u, h1, h2 => by
    by_cases e : u = t + 1
    · subst e; exact Nat.dvd_mul_left _ _
    · exact Nat.dvd_trans (prodE_dvd h1 (by omega)) (Nat.dvd_mul_right _ _)
theorem prodE_bits {R : Nat → Nat → Rat} {n : Nat} (h : ∀ k, k < n → Row 55 n (R k)) (hp : ∀ S : Sy, S.R = R → ∀ u, u < n → (gSt S u).R u u < 1) : ∀ {t : Nat}, t ≤ n → prodE R n t ≤ 2 ^ halfB n t
  | 0, _ => by show 1 ≤ 2 ^ 0; decide
  | t + 1, ht => by
    have ih := prodE_bits h hp (t := t) (by omega)
    have h1 := Nat.le_of_lt (prodC_bits (entL_ok h hp ht))
    rw [entL_len] at h1
    show prodE R n t * prodC (entL R n (t + 1)) ≤ 2 ^ (halfB n t + (n * n * (2 * fBits (t + 1) + 1) + 1))
    rw [Nat.pow_add]
    exact Nat.mul_le_mul ih h1
theorem ent_bnd {R : Nat → Nat → Rat} {n c : Nat} (hc : 1 ≤ c) (h : ∀ k, k < n → Row 55 n (R k)) (hp : ∀ S : Sy, S.R = R → ∀ u, u < n → (gSt S u).R u u < 1) (hd : prodE R n n ∣ c) {t i b : Nat} (ht : t ≤ n) (hi : i < n) (hb : b < n) : Bnd c 1 ((gSt ⟨R, unitF b⟩ t).F i) := by
  cases t with
  | zero =>
    show Bnd c 1 (if i = b then (1 : Rat) else 0)
    split
    · exact bnd1 hc _
    · exact bnd0 hc _
  | succ t =>
    have hm := entL_mem (R := R) (t := t + 1) hi hb
    exact bnd_of_dvd hc (entL_ok h hp ht _ hm).1 (Nat.dvd_trans (prodC_dvd hm) (Nat.dvd_trans (prodE_dvd (by omega) ht) hd))
section
variable {st : Str} {rs : List RuleD} (g : GoodG st rs) (hn : ∀ r ∈ rs, 0 ≤ r.part)
include g hn
/-- a number that serves a grammar with few live heads -/
theorem serves_of {b : Nat} (hb : ∀ r ∈ rs, Bt b r.part) (hfew : b * rs.length ≤ 54) : ∃ c, Serves c rs ∧ c < 2 ^ cBits (liveN rs) := by
  have hlen : rs.length ≤ 55 := by
    rcases Nat.eq_zero_or_pos b with z | z
    · subst z
      cases hrs : rs with
      | nil => simp
      | cons r l =>
        have h0 := hb r (by rw [hrs]; simp)
        have := intBits_le_iff.mp h0.2
        have := r.part.den_pos
        omega
    · have : 1 * rs.length ≤ b * rs.length := Nat.mul_le_mul_right _ z
      omega
  have hD : prodD rs < 2 ^ 55 := Nat.lt_of_le_of_lt (prodD_bits hb) (Nat.pow_lt_pow_right (by decide) (by omega))
  have r1 : ∀ k, k < liveN rs → Row 55 (liveN rs) (wayM rs k) := fun k hk => way_row g hn hD hk
  have r2 : ∀ k, k < liveN rs → Row 55 (liveN rs) (fun l => wayM rs l k) := fun k hk => turn_row g hn hD hk
  have p1 : ∀ S : Sy, S.R = wayM rs → ∀ u, u < liveN rs → (gSt S u).R u u < 1 := fun S hS => way_pivots g hn hS
  have p2 : ∀ S : Sy, S.R = (fun k l => wayM rs l k) → ∀ u, u < liveN rs → (gSt S u).R u u < 1 := fun S hS => turn_pivots g hn hS
  have q1 := prodC_bits (b := b) (l := rs.map RuleD.part) fun r hr => by
    obtain ⟨q, hq, rfl⟩ := List.mem_map.mp hr
    exact ⟨hn q hq, hb q hq⟩
  rw [List.length_map] at q1
  have e1 := prodE_bits r1 p1 (Nat.le_refl _)
  have e2 := prodE_bits r2 p2 (Nat.le_refl _)
  let c := 256 * prodC (rs.map RuleD.part) * prodE (wayM rs) (liveN rs) (liveN rs) * prodE (fun k l => wayM rs l k) (liveN rs) (liveN rs)
  have c1 := prodC_pos (rs.map RuleD.part)
  have c2 := prodE_pos (R := wayM rs) (n := liveN rs) (liveN rs)
  have c3 := prodE_pos (R := fun k l => wayM rs l k) (n := liveN rs) (liveN rs)
  have hbig : 256 ≤ c := by
    have := Nat.mul_le_mul (Nat.mul_le_mul (Nat.mul_le_mul (Nat.le_refl 256) c1) c2) c3
    simpa using this
  have hc : 1 ≤ c := by omega
  refine ⟨c, ⟨by omega, fun r hr => ?_, fun t i b ht hi hb => ?_, fun t i b ht hi hb => ?_⟩, ?_⟩
  · exact bnd_of_dvd hc (hn r hr) (Nat.dvd_trans (prodC_dvd (List.mem_map.mpr ⟨r, hr, rfl⟩)) (Nat.dvd_trans (Nat.dvd_mul_left _ 256) (Nat.dvd_trans (Nat.dvd_mul_right _ _) (Nat.dvd_mul_right _ _))))
  · exact ent_bnd hc r1 p1 (Nat.dvd_trans (Nat.dvd_mul_left _ _) (Nat.dvd_mul_right _ _)) ht hi hb
  · exact ent_bnd hc r2 p2 (Nat.dvd_mul_left _ _) ht hi hb
  · have h8 : 256 * prodC (rs.map RuleD.part) < 2 ^ 8 * 2 ^ (rs.length * (2 * b + 1) + 1) := Nat.mul_lt_mul_of_pos_left q1 (by decide)
    have h9 : 2 ^ 8 * 2 ^ (rs.length * (2 * b + 1) + 1) ≤ 2 ^ 200 := by
      rw [← Nat.pow_add]
      refine Nat.pow_le_pow_right (by decide) ?_
      have : rs.length * (2 * b + 1) = 2 * (b * rs.length) + rs.length := by rw [Nat.mul_add, Nat.mul_one, ← Nat.mul_assoc, Nat.mul_comm rs.length 2, Nat.mul_assoc, Nat.mul_comm rs.length b]
      omega
    have h10 : 256 * prodC (rs.map RuleD.part) * prodE (wayM rs) (liveN rs) (liveN rs) < 2 ^ 200 * 2 ^ halfB (liveN rs) (liveN rs) :=
      Nat.lt_of_lt_of_le (Nat.mul_lt_mul_of_pos_right (Nat.lt_of_lt_of_le h8 h9) c2) (Nat.mul_le_mul_left _ e1)
    have h11 : c < 2 ^ 200 * 2 ^ halfB (liveN rs) (liveN rs) * 2 ^ halfB (liveN rs) (liveN rs) := Nat.lt_of_lt_of_le (Nat.mul_lt_mul_of_pos_right h10 c3) (Nat.mul_le_mul_left _ e2)
    unfold cBits
    rw [Nat.two_mul, Nat.pow_add, Nat.pow_add, ← Nat.mul_assoc]
    exact h11
end
/-- numbers that the walk may make -/
def okB : Nat := 9000000
/-- what the walk of the sums within leans on -/
structure NumB (rs : List RuleD) (row : List Str) (n : Nat) : Prop where
  t : ∀ A i j, j - i ≤ n → Bt okB (insT rs row A i j)
  b : ∀ b i j, j - i ≤ n → Bt okB (bodyW (wor (headsOf rs) row (insT rs row)) b i j)
  p : ∀ s b i j k, j - i ≤ n → k ≤ j - i → Bt okB (sumN k fun k => wor (headsOf rs) row (insT rs row) s i (i + 1 + k) * bodyW (wor (headsOf rs) row (insT rs row)) b (i + 1 + k) j)
  e : ∀ l : List RuleD, (∀ r ∈ l, r ∈ rs) → l.length ≤ 200 → ∀ A i j, i < j → j - i ≤ n → Bt okB (sumL l fun r => if restOf rs A r then r.part * bodyW (wor (headsOf rs) row (insT rs row)) r.body i j else 0)
  w : ∀ l : List RuleD, (∀ r ∈ l, r ∈ rs) → l.length ≤ 200 → ∀ A B, Bt okB (sumL l fun r => if stepOf rs A r && decide (r.body = [B]) then r.part else 0)
  s : ∀ i j, i < j → j - i ≤ n → ∀ t, t ≤ liveN rs → SyOk (liveN rs) (gSt (sysI rs row (insT rs row) i j) t)
  f : ∀ l : List RuleD, (∀ r ∈ l, r ∈ rs) → l.length ≤ 200 → ∀ (c : RuleD → Bool) i j, j - i ≤ n → Bt okB (sumL l fun r => if c r then r.part * bodyW (wor (headsOf rs) row (insT rs row)) r.body i j else 0)
theorem rBits_3 : ∀ t, t ≤ 3 → rBits t ≤ 447
  | 0, _ => by decide
  | 1, _ => by decide
  | 2, _ => by decide
  | 3, _ => by decide
  | t + 4, h => by omega
/-- the rows of an elimination -/
theorem rows_ok {rs : List RuleD} {R : Nat → Nat → Rat} {S : Sy} (hS : S.R = R) (h : ∀ k, k < liveN rs → Row 55 (liveN rs) (R k)) (hp : ∀ S : Sy, S.R = R → ∀ u, u < liveN rs → (gSt S u).R u u < 1) (h3 : liveN rs ≤ 3) {t i j : Nat} (ht : t ≤ liveN rs) (hi : i < liveN rs) (hj : j < liveN rs) : Ok1 ((gSt S t).R i j) := by
  have e : (gSt S t).R = (gSt ⟨R, unitF 0⟩ t).R := gSt_R (S := S) (S' := ⟨R, unitF 0⟩) hS t
  rw [e]
  have := (elim_bits (unit_ok (b := 0) h) ht fun u hu => hp _ rfl u (by omega)) i hi
  have hb := this.1.bt hj
  exact ⟨hb.1, hb.2.mono (Nat.le_trans (rBits_3 t (by omega)) (by decide))⟩
section
variable {st : Str} {rs : List RuleD} (g : GoodG st rs) (hn : ∀ r ∈ rs, 0 ≤ r.part)
include g hn
theorem rows_of {b : Nat} (hb : ∀ r ∈ rs, Bt b r.part) (hfew : b * rs.length ≤ 54) : (∀ k, k < liveN rs → Row 55 (liveN rs) (wayM rs k)) ∧ ∀ k, k < liveN rs → Row 55 (liveN rs) (fun l => wayM rs l k) := by
  have hD : prodD rs < 2 ^ 55 := Nat.lt_of_le_of_lt (prodD_bits hb) (Nat.pow_lt_pow_right (by decide) (by omega))
  exact ⟨fun k hk => way_row g hn hD hk, fun k hk => turn_row g hn hD hk⟩
theorem numB_of {row : List Str} {n c bb : Nat} (sv : Serves c rs) (hcb : c < 2 ^ bb) (hbits : 2 * (10 * n + 2) * bb + 1 ≤ okB) (hn5 : n ≤ 100) (hrows : ∀ k, k < liveN rs → Row 55 (liveN rs) (wayM rs k)) (h3 : liveN rs ≤ 3) (hlen : rs.length ≤ 200) : NumB rs row n := by
  have hc : 1 ≤ c := by have := sv.big; omega
  have hT : ∀ A a e, a < e → e - a ≤ n → Bnd c (10 * (e - a) - 6) (insT rs row A a e) := fun A a e h1 h2 => insB sv g (by omega) hlen (d := n) (by omega) A a e h1 h2
  have up : ∀ {m : Nat} {r : Rat}, Bnd c m r → m ≤ 10 * n + 2 → Bt okB r := fun {m r} h hm => (Bnd.bt hc hcb (h.mono hc hm)).mono hbits
  have hbody : ∀ b i j, j - i ≤ n → Bnd c (10 * n) (bodyW (wor (headsOf rs) row (insT rs row)) b i j) := fun b i j h => by
    cases b with
    | nil =>
      show Bnd c _ (if i = j then (1 : Rat) else 0)
      split
      · exact bnd1 hc _
      · exact bnd0 hc _
    | cons s b => exact (bodyB hc hT (by have := sv.big; omega) (b := s :: b) (by simp) h).mono hc (by omega)
  refine ⟨fun A i j h => ?_, fun b i j h => up (hbody b i j h) (by omega), fun s b i j k h hk => ?_, fun l hl hll A i j h1 h2 => ?_, fun l hl hll A B => ?_, fun i j h1 h2 t ht => fun a ha => ⟨fun b' hb' => ?_, ?_⟩, fun l hl hll c i j h => ?_⟩
  · by_cases q : i < j
    · exact up (hT A i j q h) (by omega)
    · rw [insT_out q]; exact up (bnd0 hc 0) (by omega)
  · cases b with
    | nil =>
      have e : ∀ k', wor (headsOf rs) row (insT rs row) s i (i + 1 + k') * bodyW (wor (headsOf rs) row (insT rs row)) [] (i + 1 + k') j = if k' = j - i - 1 ∧ i < j then wor (headsOf rs) row (insT rs row) s i j else 0 := by
        intro k'
        show _ * (if i + 1 + k' = j then (1 : Rat) else 0) = _
        by_cases q : i + 1 + k' = j
        · rw [if_pos q, if_pos (by omega), q]; grind
        · rw [if_neg q, if_neg (by omega)]; grind
      refine up (m := 10 * n + 1) (Bnd.sumN hc (m := 10 * n) (by have := sv.big; omega) fun k' hk' => ?_) (by omega)
      rw [e]
      split
      · rename_i q
        exact (worB hc hT q.2 h).mono hc (by omega)
      · exact bnd0 hc _
    | cons t b => exact up (bodyP hc hT (by have := sv.big; omega) (by simp) h hk) (by omega)
  · exact up (endB sv g (D := n) (by omega) hT hl hll h1 (by omega)) (by omega)
  · refine up (m := 2) (Bnd.sumL hc (m := 1) ⟨"", [], 0⟩ (by have := sv.big; omega) fun r hr => ?_) (by omega)
    split
    · exact sv.part r (hl r hr)
    · exact bnd0 hc _
  · exact rows_ok (rs := rs) (R := wayM rs) rfl hrows (fun S hS => way_pivots g hn hS) h3 ht ha hb'
  · have hF : ∀ k, k < liveN rs → Bnd c (10 * (j - i) - 8) ((sysI rs row (insT rs row) i j).F k) := fun k _ => endB sv g (D := n) (by omega) hT (fun r hr => hr) hlen h1 (by omega)
    have := elimB sv g (by omega) sv.inv hF ht ha
    exact ⟨this.nn hc, up this (by omega)⟩
  · refine up (m := 10 * n + 2) (Bnd.sumL hc (m := 10 * n + 1) ⟨"", [], 0⟩ (by have := sv.big; omega) fun r hr => ?_) (by omega)
    split
    · exact ((sv.part r (hl r hr)).mul hc (hbody r.body i j h)).mono hc (by omega)
    · exact bnd0 hc _
omit g hn in
theorem cBits_le (h : liveN rs ≤ 3) : cBits (liveN rs) ≤ 103600 ∧ (liveN rs ≤ 2 → cBits (liveN rs) ≤ 20000) ∧ (liveN rs ≤ 1 → cBits (liveN rs) ≤ 2000) := by
  obtain ⟨c0, c1, c2, c3⟩ := cBits_3
  have hcase : liveN rs = 0 ∨ liveN rs = 1 ∨ liveN rs = 2 ∨ liveN rs = 3 := by omega
  rcases hcase with q | q | q | q <;> rw [q] <;> refine ⟨?_, fun _ => ?_, fun _ => ?_⟩ <;> omega
/-- .. of a grammar of few rules -/
theorem numB_few {row : List Str} {n b : Nat} (hb : ∀ r ∈ rs, Bt b r.part) (hfew : b * rs.length ≤ 54) (hlen : rs.length ≤ 200) (h : (liveN rs ≤ 1 ∧ n ≤ 5) ∨ (liveN rs ≤ 3 ∧ n ≤ 4)) : NumB rs row n := by
  obtain ⟨c, sv, hcb⟩ := serves_of g hn hb hfew
  have hr := (rows_of g hn hb hfew).1
  have h3 : liveN rs ≤ 3 := by omega
  obtain ⟨c3, c2, c1⟩ := cBits_le h3
  refine numB_of g hn sv hcb ?_ (by omega) hr h3 hlen
  have up : ∀ x N : Nat, n ≤ N → cBits (liveN rs) ≤ x → 2 * (10 * N + 2) * x + 1 ≤ okB → 2 * (10 * n + 2) * cBits (liveN rs) + 1 ≤ okB := fun x N h1 h2 h3 => by
    refine Nat.le_trans (Nat.add_le_add_right (Nat.mul_le_mul (show 2 * (10 * n + 2) ≤ 2 * (10 * N + 2) by omega) h2) 1) h3
  rcases h with ⟨q1, q2⟩ | ⟨q1, q2⟩
  · exact up 2000 5 q2 (c1 q1) (by decide)
  · exact up 103600 4 q2 c3 (by decide)
/-- how great one sum is -/
theorem insT_bits {row : List Str} {b : Nat} (hb : ∀ r ∈ rs, Bt b r.part) (hfew : b * rs.length ≤ 54) (hlen : rs.length ≤ 200) (h3 : liveN rs ≤ 3) {A : Str} {i j : Nat} (hij : i < j) (h : j - i ≤ 10) : Bt (2 * (10 * (j - i) - 6) * 103600 + 1) (insT rs row A i j) := by
  obtain ⟨c, sv, hcb⟩ := serves_of g hn hb hfew
  have hc : 1 ≤ c := by have := sv.big; omega
  have h1 := insB sv g (row := row) (by omega) hlen (d := j - i) (by omega) A i j hij (Nat.le_refl _)
  refine (Bnd.bt hc hcb h1).mono ?_
  exact Nat.add_le_add_right (Nat.mul_le_mul_left _ (cBits_le h3).1) 1
end
end G91

/-! Ma11: the program's Sums, as it stands in the store. -/
namespace G91
open PySem PySem.Spec PyProof.Rows L2
/-! keys -/
def tkey (A : Str) (i j : Nat) : List NestedKey := [.text A, .num (i : Int), .num (j : Int)]
def bkey (b : List Str) (i j : Nat) : List NestedKey := [.tup (b.map NestedKey.text), .num (i : Int), .num (j : Int)]
theorem datas_text : ∀ b : List Str, NestedKey.datas (b.map NestedKey.text) = b.map PyData.str
  | [] => rfl
  | s :: b => by
    show NestedKey.data (.text s) :: NestedKey.datas (b.map NestedKey.text) = _
    rw [datas_text b]
    rfl
theorem depth_text : ∀ b : List Str, NestedKey.depthAll (b.map NestedKey.text) = 0
  | [] => rfl
  | s :: b => by
    show max 0 (NestedKey.depthAll (b.map NestedKey.text)) = 0
    rw [depth_text b]
    rfl
theorem tkey_data (A : Str) (i j : Nat) : (NestedKey.tup (tkey A i j)).data = .tuple [.str A, .int (i : Int), .int (j : Int)] := rfl
theorem bkey_data (b : List Str) (i j : Nat) : (NestedKey.tup (bkey b i j)).data = .tuple [bodyD b, .int (i : Int), .int (j : Int)] := by
  show PyData.tuple [.tuple (NestedKey.datas (b.map NestedKey.text)), .int (i : Int), .int (j : Int)] = _
  rw [datas_text]
  rfl
theorem tkey_depth (A : Str) (i j : Nat) : (NestedKey.tup (tkey A i j)).depth ≤ 8 := by show max 0 (max 0 (max 0 0)) + 1 ≤ 8; decide
theorem bkey_depth (b : List Str) (i j : Nat) : (NestedKey.tup (bkey b i j)).depth ≤ 8 := by
  show max (NestedKey.depthAll (b.map NestedKey.text) + 1) (max 0 (max 0 0)) + 1 ≤ 8
  rw [depth_text]
  decide
theorem tkey_inj {A B : Str} {i j k l : Nat} (h : NestedKey.tup (tkey A i j) = .tup (tkey B k l)) : A = B ∧ i = k ∧ j = l := by
  injection h with h
  injection h with h1 h
  injection h with h2 h
  injection h with h3 h
  injection h1 with h1
  injection h2 with h2
  injection h3 with h3
  exact ⟨h1, by omega, by omega⟩
theorem bkey_inj {a b : List Str} {i j k l : Nat} (h : NestedKey.tup (bkey a i j) = .tup (bkey b k l)) : a = b ∧ i = k ∧ j = l := by
  injection h with h
  injection h with h1 h
  injection h with h2 h
  injection h with h3 h
  injection h1 with h1
  injection h2 with h2
  injection h3 with h3
  exact ⟨(List.map_inj_right (fun x y z => by injection z)).mp h1, by omega, by omega⟩
/-! the tables -/
/-- the sums' table holds just what F says -/
structure TblOk (rs : List RuleD) (n : Nat) (T : Str → Nat → Nat → Rat) (F : Str → Nat → Nat → Prop) (kvs : List (NestedKey × Sv)) : Prop where
  nd : (kvs.map (·.1)).Nodup
  key : ∀ x ∈ kvs.map (·.1), ∃ A i j, F A i j ∧ x = .tup (tkey A i j)
  fin : ∀ A i j, F A i j → A ∈ liveL rs ∧ i ≤ n ∧ j ≤ n
  val : ∀ A i j, F A i j → valS kvs (.tup (tkey A i j)) = some (.va (shD (T A i j)))
theorem TblOk.non {rs : List RuleD} {n : Nat} {T : Str → Nat → Nat → Rat} {F : Str → Nat → Nat → Prop} {kvs : List (NestedKey × Sv)} (h : TblOk rs n T F kvs) {A : Str} {i j : Nat} (q : ¬ F A i j) : valS kvs (.tup (tkey A i j)) = none := by
  cases z : valS kvs (.tup (tkey A i j)) with
  | none => rfl
  | some v =>
    have h1 : (.tup (tkey A i j) : NestedKey) ∈ kvs.map (·.1) := valS_mem.mp (by rw [z]; rfl)
    obtain ⟨B, k, l, f, e⟩ := h.key _ h1
    obtain ⟨rfl, rfl, rfl⟩ := tkey_inj e
    exact absurd f q
theorem TblOk.nil {rs : List RuleD} {n : Nat} {T : Str → Nat → Nat → Rat} : TblOk rs n T (fun _ _ _ => False) [] := ⟨List.nodup_nil, (fun _ h => nomatch h), fun _ _ _ h => h.elim, fun _ _ _ h => h.elim⟩
theorem TblOk.put {rs : List RuleD} {n : Nat} {T : Str → Nat → Nat → Rat} {F F' : Str → Nat → Nat → Prop} {kvs : List (NestedKey × Sv)} (h : TblOk rs n T F kvs) {A : Str} {i j : Nat} (hA : A ∈ liveL rs) (hi : i ≤ n) (hj : j ≤ n)
    (hF : ∀ B k l, F' B k l ↔ F B k l ∨ (B = A ∧ k = i ∧ l = j)) : TblOk rs n T F' (putSK kvs (.tup (tkey A i j)) (.va (shD (T A i j)))) where
  nd := nodup_put h.nd
  key := fun x hx => by
    rcases mem_keys_put.mp hx with e | q
    · exact ⟨A, i, j, (hF _ _ _).mpr (.inr ⟨rfl, rfl, rfl⟩), e⟩
    · obtain ⟨B, k, l, f, e⟩ := h.key x q
      exact ⟨B, k, l, (hF _ _ _).mpr (.inl f), e⟩
  fin := fun B k l f => by
    rcases (hF _ _ _).mp f with q | ⟨rfl, rfl, rfl⟩
    · exact h.fin B k l q
    · exact ⟨hA, hi, hj⟩
  val := fun B k l f => by
    rw [valS_put]
    by_cases e : (NestedKey.tup (tkey B k l)) = .tup (tkey A i j)
    · obtain ⟨rfl, rfl, rfl⟩ := tkey_inj e
      rw [if_pos e]
    · rw [if_neg e]
      rcases (hF _ _ _).mp f with q | ⟨rfl, rfl, rfl⟩
      · exact h.val B k l q
      · exact absurd rfl e
theorem keys_few {κ : Type} {kvs : List (κ × Sv)} {l : List κ} (h : (kvs.map (·.1)).Nodup) (q : ∀ x ∈ kvs.map (·.1), x ∈ l) : kvs.length ≤ l.length := by
  have := h.length_le_of_subset q
  rw [List.length_map] at this
  exact this
def tkeys (hs : List Str) (n : Nat) : List NestedKey := hs.flatMap fun A => (List.range (n + 1)).flatMap fun i => (List.range (n + 1)).map fun j => .tup (tkey A i j)
theorem flat_len {α β : Type} {f : α → List β} {c : Nat} : ∀ {l : List α}, (∀ a ∈ l, (f a).length = c) → (l.flatMap f).length = l.length * c
  | [], _ => by simp
  | a :: l, h => by
    rw [List.flatMap_cons, List.length_append, h a List.mem_cons_self, flat_len fun b hb => h b (List.mem_cons_of_mem _ hb), List.length_cons, Nat.add_mul]
    omega
theorem tkeys_len (hs : List Str) (n : Nat) : (tkeys hs n).length = hs.length * ((n + 1) * (n + 1)) :=
  flat_len fun A _ => by
    rw [flat_len (c := n + 1) fun i _ => by simp]
    simp
theorem tkeys_mem {hs : List Str} {n : Nat} {A : Str} {i j : Nat} (hA : A ∈ hs) (hi : i ≤ n) (hj : j ≤ n) : (.tup (tkey A i j) : NestedKey) ∈ tkeys hs n :=
  List.mem_flatMap.mpr ⟨A, hA, List.mem_flatMap.mpr ⟨i, List.mem_range.mpr (by omega), List.mem_map.mpr ⟨j, List.mem_range.mpr (by omega), rfl⟩⟩⟩
theorem liveL_len (rs : List RuleD) : (liveL rs).length ≤ rs.length := Nat.le_trans (List.length_filter_le _ _) (headsOf_len rs)
theorem TblOk.few {rs : List RuleD} {n : Nat} {T : Str → Nat → Nat → Rat} {F : Str → Nat → Nat → Prop} {kvs : List (NestedKey × Sv)} (h : TblOk rs n T F kvs) (hr : rs.length ≤ 30) (hn : n ≤ 10) : kvs.length < 100000 := by
  have h1 := keys_few (l := tkeys (liveL rs) n) h.nd fun x hx => by
    obtain ⟨A, i, j, f, e⟩ := h.key x hx
    obtain ⟨a, b, c⟩ := h.fin A i j f
    rw [e]
    exact tkeys_mem a b c
  rw [tkeys_len] at h1
  have h2 := liveL_len rs
  have h3 : (n + 1) * (n + 1) ≤ 11 * 11 := Nat.mul_le_mul (by omega) (by omega)
  have h4 : (liveL rs).length * ((n + 1) * (n + 1)) ≤ 30 * (11 * 11) := Nat.mul_le_mul (by omega) h3
  omega
/-- the parts of bodies -/
def infL (rs : List RuleD) : List (List Str) := rs.flatMap fun r => (List.range 5).flatMap fun i => (List.range 5).map fun l => (r.body.drop i).take l
theorem infL_len (rs : List RuleD) : (infL rs).length = rs.length * 25 := flat_len fun r _ => by
  rw [flat_len (c := 5) fun i _ => by simp]
  simp
theorem infL_mem {rs : List RuleD} {r : RuleD} (hr : r ∈ rs) {i l : Nat} (hi : i ≤ 4) (hl : l ≤ 4) : (r.body.drop i).take l ∈ infL rs :=
  List.mem_flatMap.mpr ⟨r, hr, List.mem_flatMap.mpr ⟨i, List.mem_range.mpr (by omega), List.mem_map.mpr ⟨l, List.mem_range.mpr (by omega), rfl⟩⟩⟩
section
variable {st : Str} {rs : List RuleD} (g : GoodG st rs)
include g
theorem body_four {r : RuleD} (hr : r ∈ rs) : 1 ≤ r.body.length ∧ r.body.length ≤ 4 := by
  have h := g.ok r hr
  unfold goodRule at h
  simp only [Bool.and_eq_true, decide_eq_true_eq] at h
  exact ⟨h.1.1.2.1, h.1.1.2.2⟩
theorem infL_body {r : RuleD} (hr : r ∈ rs) : r.body ∈ infL rs := by
  have h := body_four g hr
  have := infL_mem hr (i := 0) (l := r.body.length) (by omega) h.2
  rwa [List.drop_zero, List.take_length] at this
theorem infL_tail {s : Str} {b : List Str} (h : s :: b ∈ infL rs) : b ∈ infL rs := by
  obtain ⟨r, hr, h⟩ := List.mem_flatMap.mp h
  obtain ⟨i, hi, h⟩ := List.mem_flatMap.mp h
  obtain ⟨l, hl, h⟩ := List.mem_map.mp h
  have hi := List.mem_range.mp hi
  have hl := List.mem_range.mp hl
  have hb := body_four g hr
  have e : b = (r.body.drop (i + 1)).take (l - 1) := by
    have := congrArg List.tail h
    rw [List.tail_cons] at this
    rw [← this]
    apply List.ext_getElem?
    intro k
    rw [List.getElem?_tail, List.getElem?_take, List.getElem?_take, List.getElem?_drop, List.getElem?_drop]
    have e1 : i + (k + 1) = i + 1 + k := by omega
    rw [e1]
    by_cases q : k + 1 < l
    · rw [if_pos q, if_pos (by omega)]
    · rw [if_neg q, if_neg (by omega)]
  rw [e]
  by_cases q : i + 1 ≤ 4
  · exact infL_mem hr q (by omega)
  · exfalso
    have : (r.body.drop i).length = 0 := by rw [List.length_drop]; omega
    have h0 : r.body.drop i = [] := List.eq_nil_of_length_eq_zero this
    rw [h0] at h
    simp at h
theorem infL_few {b : List Str} (h : b ∈ infL rs) : b.length ≤ 4 := by
  obtain ⟨r, hr, h⟩ := List.mem_flatMap.mp h
  obtain ⟨i, hi, h⟩ := List.mem_flatMap.mp h
  obtain ⟨l, hl, rfl⟩ := List.mem_map.mp h
  have hl := List.mem_range.mp hl
  rw [List.length_take]
  omega
end
theorem infL_txt {rs : List RuleD} (ho : ∀ r ∈ rs, RuleOk r) {b : List Str} (h : b ∈ infL rs) : ∀ s ∈ b, TxtOk s := by
  obtain ⟨r, hr, h⟩ := List.mem_flatMap.mp h
  obtain ⟨i, hi, h⟩ := List.mem_flatMap.mp h
  obtain ⟨l, hl, rfl⟩ := List.mem_map.mp h
  exact fun s hs => (ho r hr).body s (List.mem_of_mem_drop (List.mem_of_mem_take hs))
/-- the memo of bodies -/
structure MemOk (rs : List RuleD) (n : Nat) (W : Str → Nat → Nat → Rat) (kvs : List (NestedKey × Sv)) : Prop where
  nd : (kvs.map (·.1)).Nodup
  key : ∀ x ∈ kvs.map (·.1), ∃ b i j, b ∈ infL rs ∧ i ≤ n ∧ j ≤ n ∧ x = .tup (bkey b i j)
  val : ∀ b i j v, valS kvs (.tup (bkey b i j)) = some v → v = .va (shD (bodyW W b i j))
theorem MemOk.nil {rs : List RuleD} {n : Nat} {W : Str → Nat → Nat → Rat} : MemOk rs n W [] := ⟨List.nodup_nil, (fun _ h => nomatch h), fun _ _ _ _ h => nomatch h⟩
theorem MemOk.put {rs : List RuleD} {n : Nat} {W : Str → Nat → Nat → Rat} {kvs : List (NestedKey × Sv)} (h : MemOk rs n W kvs) {b : List Str} {i j : Nat} (hb : b ∈ infL rs) (hi : i ≤ n) (hj : j ≤ n) : MemOk rs n W (putSK kvs (.tup (bkey b i j)) (.va (shD (bodyW W b i j)))) where
  nd := nodup_put h.nd
  key := fun x hx => by
    rcases mem_keys_put.mp hx with e | q
    · exact ⟨b, i, j, hb, hi, hj, e⟩
    · exact h.key x q
  val := fun c k l v hv => by
    rw [valS_put] at hv
    by_cases e : (NestedKey.tup (bkey c k l)) = .tup (bkey b i j)
    · obtain ⟨rfl, rfl, rfl⟩ := bkey_inj e
      rw [if_pos e] at hv
      exact (Option.some.inj hv).symm
    · rw [if_neg e] at hv
      exact h.val c k l v hv
def bkeys (bs : List (List Str)) (n : Nat) : List NestedKey := bs.flatMap fun A => (List.range (n + 1)).flatMap fun i => (List.range (n + 1)).map fun j => .tup (bkey A i j)
theorem MemOk.few {rs : List RuleD} {n : Nat} {W : Str → Nat → Nat → Rat} {kvs : List (NestedKey × Sv)} (h : MemOk rs n W kvs) (hr : rs.length ≤ 30) (hn : n ≤ 10) : kvs.length < 100000 := by
  have h1 := keys_few (l := bkeys (infL rs) n) h.nd fun x hx => by
    obtain ⟨b, i, j, hb, hi, hj, e⟩ := h.key x hx
    rw [e]
    exact List.mem_flatMap.mpr ⟨b, hb, List.mem_flatMap.mpr ⟨i, List.mem_range.mpr (by omega), List.mem_map.mpr ⟨j, List.mem_range.mpr (by omega), rfl⟩⟩⟩
  have h2 : (bkeys (infL rs) n).length = (infL rs).length * ((n + 1) * (n + 1)) := flat_len fun A _ => by
    rw [flat_len (c := n + 1) fun i _ => by simp]
    simp
  rw [h2, infL_len] at h1
  have h3 : (n + 1) * (n + 1) ≤ 11 * 11 := Nat.mul_le_mul (by omega) (by omega)
  have h4 : rs.length * 25 * ((n + 1) * (n + 1)) ≤ 30 * 25 * (11 * 11) := Nat.mul_le_mul (by omega) h3
  omega
/-! the object -/
noncomputable def sFs (g : Addr) (row : List Str) (rs : List RuleD) (tb bd : Addr) : List (Str × Sv) := [("grammar", .rf (.ref g)), ("row", .va (bodyD row)), ("listed", .va (.list (rulesD rs))), ("lively", .va (strsD (liveL rs))), ("table", .rf (.ref tb)), ("bodies", .rf (.ref bd))]
noncomputable abbrev worT (rs : List RuleD) (row : List Str) : Str → Nat → Nat → Rat := wor (headsOf rs) row (insT rs row)
structure SumsAt (K : PySem.W.Frag) (w : World) (M : Mm) (a tb bd g : Addr) (st : Str) (rs : List RuleD) (row : List Str) (F : Str → Nat → Nat → Prop) : Prop where
  obj : M a = some (.ins (He.ga K "Sums") (sFs g row rs tb bd))
  tbl : ∃ kvs, M tb = some (.dN w kvs) ∧ TblOk rs row.length (insT rs row) F kvs
  mem : ∃ kvs, M bd = some (.dN w kvs) ∧ MemOk rs row.length (worT rs row) kvs
  ne : tb ≠ bd
  gr : GrAt K M g st rs
/-- what holds of grammar and row all the time -/
structure RowOk (rs : List RuleD) (row : List Str) : Prop where
  num : NumB rs row row.length
  few : row.length ≤ 10
  txt : ∀ s ∈ row, TxtOk s
theorem GrAt.put {K : PySem.W.Frag} {M : Mm} {g : Addr} {st : Str} {rs : List RuleD} (h : GrAt K M g st rs) {p : Addr} {w : World} {kvs : List (NestedKey × Sv)} {o : Ob} (hp : M p = some (.dN w kvs)) : GrAt K (mup M p o) g st rs := by
  obtain ⟨L, Hd, Lv, l, a, b, c, d, e⟩ := h.at_
  have ne : ∀ {x : Addr} {u : Ob}, M x = some u → (∀ w' k', u ≠ .dN w' k') → x ≠ p := fun hx hu z => by
    subst z
    rw [hx] at hp
    exact hu _ _ (Option.some.inj hp)
  exact ⟨⟨L, Hd, Lv, l, by rw [mup_ne (ne a fun _ _ z => nomatch z)]; exact a, by rw [mup_ne (ne b fun _ _ z => nomatch z)]; exact b, by rw [mup_ne (ne c fun _ _ z => nomatch z)]; exact c, by rw [mup_ne (ne d fun _ _ z => nomatch z)]; exact d, e⟩, h.good, h.ok⟩
section
variable {K : PySem.W.Frag} {w : World} {M : Mm} {a tb bd g : Addr} {st : Str} {rs : List RuleD} {row : List Str} {F F' : Str → Nat → Nat → Prop}
theorem SumsAt.mono {M' : Mm} (h : SumsAt K w M a tb bd g st rs row F) (k : Mext M M') : SumsAt K w M' a tb bd g st rs row F := by
  obtain ⟨kvs, t1, t2⟩ := h.tbl
  obtain ⟨kvb, b1, b2⟩ := h.mem
  exact ⟨k _ _ h.obj, ⟨kvs, k _ _ t1, t2⟩, ⟨kvb, k _ _ b1, b2⟩, h.ne, h.gr.mono k⟩
theorem SumsAt.memo (h : SumsAt K w M a tb bd g st rs row F) {kvb : List (NestedKey × Sv)} (hb : MemOk rs row.length (worT rs row) kvb) : SumsAt K w (mup M bd (.dN w kvb)) a tb bd g st rs row F := by
  obtain ⟨kvs, t1, t2⟩ := h.tbl
  obtain ⟨kvb0, b1, b2⟩ := h.mem
  have hab : a ≠ bd := fun z => by
    have := h.obj
    rw [z, b1] at this
    cases this
  exact ⟨by rw [mup_ne hab]; exact h.obj, ⟨kvs, by rw [mup_ne h.ne]; exact t1, t2⟩, ⟨kvb, mup_same, hb⟩, h.ne, h.gr.put b1⟩
theorem SumsAt.tab (h : SumsAt K w M a tb bd g st rs row F) {kvs : List (NestedKey × Sv)} (hb : TblOk rs row.length (insT rs row) F' kvs) : SumsAt K w (mup M tb (.dN w kvs)) a tb bd g st rs row F' := by
  obtain ⟨kvs0, t1, t2⟩ := h.tbl
  obtain ⟨kvb0, b1, b2⟩ := h.mem
  have hab : a ≠ tb := fun z => by
    have := h.obj
    rw [z, t1] at this
    cases this
  exact ⟨by rw [mup_ne hab]; exact h.obj, ⟨kvs, mup_same, hb⟩, ⟨kvb0, by rw [mup_ne (Ne.symm h.ne)]; exact b1, b2⟩, h.ne, h.gr.put t1⟩
end
theorem GrAt.obj {K : PySem.W.Frag} {M : Mm} {g : Addr} {st : Str} {rs : List RuleD} (h : GrAt K M g st rs) : ∃ fs, M g = some (.ins (He.ga K "Grammar") fs) ∧ fs.lookup ("rules" : Str) = none ∧ fs.lookup ("heads" : Str) = none ∧ fs.lookup ("start" : Str) = none ∧ fs.lookup ("live" : Str) = none ∧ fs.lookup ("live_rules" : Str) = none := by
  obtain ⟨L, Hd, Lv, l, mg', _⟩ := h.at_
  exact ⟨_, mg', rfl, rfl, rfl, rfl, rfl⟩
/-! the live rules -/
theorem sumL_filter {α : Type} {c : α → Bool} {f : α → Rat} : ∀ {l : List α}, (∀ a ∈ l, c a = false → f a = 0) → sumL (l.filter c) f = sumL l f
  | [], _ => rfl
  | a :: l, h => by
    have ih := sumL_filter (c := c) (f := f) (l := l) fun b hb => h b (List.mem_cons_of_mem _ hb)
    cases hc : c a with
    | true => rw [List.filter_cons_of_pos hc]; show f a + _ = f a + _; rw [ih]
    | false =>
      rw [List.filter_cons_of_neg (by rw [hc]; exact Bool.false_ne_true)]
      show _ = f a + _
      rw [ih, h a List.mem_cons_self hc]
      grind
theorem step_live {rs : List RuleD} {A : Str} {r : RuleD} (h : liveR rs r = false) : stepOf rs A r = false := by unfold stepOf; rw [h]; rfl
theorem rest_live {rs : List RuleD} {A : Str} {r : RuleD} (h : liveR rs r = false) : restOf rs A r = false := by unfold restOf; rw [h]; rfl
theorem pos_at {rs : List RuleD} {A : Str} (hA : A ∈ liveL rs) : ((liveL rs).map PyData.str)[pos rs A]? = some (.str A) ∧ ∀ (m : Nat) (z : PyData), m < pos rs A → ((liveL rs).map PyData.str)[m]? = some z → PyData.eqv z (.str A) = false := by
  have h1 := pos_lt hA
  have h2 : (liveL rs)[pos rs A]'h1 = A := List.getElem_idxOf h1
  refine ⟨by rw [List.getElem?_map, List.getElem?_eq_getElem h1, h2]; rfl, fun m z hm hz => ?_⟩
  have hm2 : m < (liveL rs).length := by
    have : pos rs A < (liveL rs).length := h1
    omega
  rw [List.getElem?_map, List.getElem?_eq_getElem hm2] at hz
  have e : z = .str (liveL rs)[m] := (Option.some.inj hz).symm
  rw [e, eqv_str]
  refine decide_eq_false fun q => ?_
  have : m = pos rs A := (List.getElem_inj (liveL_nd rs)).mp (q.trans h2.symm)
  omega
end G91

/-! Ma12: bodies cut at a symbol. -/
namespace G91
open PySem PySem.Spec PyProof.Rows L2
section
variable {W : Str → Nat → Nat → Rat}
/-- all lesser numbers: terms beyond count nought -/
theorem sumN_more {f : Nat → Rat} {m n : Nat} (h : m ≤ n) (q : ∀ k, m ≤ k → k < n → f k = 0) : sumN n f = sumN m f := sumN_trunc h q
/-- from a place on -/
theorem sumN_shift {f : Nat → Rat} {a : Nat} : ∀ {n : Nat}, (∀ k, k < a → f k = 0) → sumN (a + n) f = sumN n fun k => f (a + k)
  | 0, h => sumN_zero h
  | n + 1, h => by
    show sumN (a + n) f + f (a + n) = sumN n (fun k => f (a + k)) + f (a + n)
    rw [sumN_shift h]
theorem one_out {s : Str} {i m : Nat} (h : ¬ i < m) : bodyW W [s] i m = 0 := by rw [bodyW_one, if_neg h]
theorem nil_at {i j : Nat} : bodyW W [] i j = if i = j then 1 else 0 := rfl
/-- a body's first symbol ends somewhere -/
theorem bodyW_consN {s : Str} {b : List Str} {i j N : Nat} (hN : j < N) : bodyW W (s :: b) i j = sumN N fun m => bodyW W [s] i m * bodyW W b m j := by
  have e1 : sumN N (fun m => bodyW W [s] i m * bodyW W b m j) = sumN (j + 1) fun m => bodyW W [s] i m * bodyW W b m j := sumN_more (by omega) fun k h1 h2 => by
    rw [bodyW_short (b := b) (by omega)]; grind
  rw [e1]
  by_cases q : i ≤ j
  · have e2 : j + 1 = (i + 1) + (j - i) := by omega
    rw [e2, sumN_shift (fun k hk => by rw [one_out (by omega)]; grind)]
    refine sumN_congr fun k hk => ?_
    rw [bodyW_one, if_pos (by omega)]
  · rw [bodyW_short (by simp; omega), sumN_zero]
    intro k hk
    rw [one_out (by omega)]; grind
/-- two bodies, one behind the other -/
theorem bodyW_app {b : List Str} {j N : Nat} (hN : j < N) : ∀ {a : List Str} {i : Nat}, bodyW W (a ++ b) i j = sumN N fun m => bodyW W a i m * bodyW W b m j
  | [], i => by
    by_cases q : i < N
    · have e : (fun m => bodyW W [] i m * bodyW W b m j) = fun m => if m = i then bodyW W b i j else 0 := by
        funext m
        rw [nil_at]
        by_cases z : i = m
        · subst z; rw [if_pos rfl, if_pos rfl]; grind
        · rw [if_neg z, if_neg (fun y => z y.symm)]; grind
      rw [e, sumN_single q]
      rfl
    · rw [sumN_zero fun m hm => by rw [nil_at, if_neg (by omega)]; grind]
      show bodyW W b i j = 0
      exact bodyW_short (by omega)
  | s :: a, i => by
    show bodyW W (s :: (a ++ b)) i j = _
    rw [bodyW_consN hN]
    have e1 : (fun m => bodyW W [s] i m * bodyW W (a ++ b) m j) = fun m => sumN N fun l => bodyW W [s] i m * bodyW W a m l * bodyW W b l j := by
      funext m
      rw [bodyW_app hN (a := a), ← sumN_mul]
      apply sumN_congr
      intro l _
      grind
    rw [e1, sumN_swap]
    refine sumN_congr fun l hl => ?_
    rw [bodyW_consN (s := s) (b := a) (j := l) hl]
    have e2 : (fun m => bodyW W [s] i m * bodyW W a m l * bodyW W b l j) = fun m => bodyW W b l j * (bodyW W [s] i m * bodyW W a m l) := by funext m; grind
    rw [e2, sumN_mul]
    grind
/-- a body's symbols, each with what is ahead and behind -/
def splits : List Str → List (List Str × Str × List Str)
  | [] => []
  | s :: b => ([], s, b) :: (splits b).map fun x => (s :: x.1, x.2.1, x.2.2)
theorem splits_app : ∀ {b : List Str} {x : List Str × Str × List Str}, x ∈ splits b → x.1 ++ x.2.1 :: x.2.2 = b
  | [], _, h => nomatch h
  | s :: b, x, h => by
    rcases List.mem_cons.mp h with e | q
    · subst e; rfl
    · obtain ⟨y, hy, rfl⟩ := List.mem_map.mp q
      show s :: (y.1 ++ y.2.1 :: y.2.2) = s :: b
      rw [splits_app hy]
theorem splits_len : ∀ b : List Str, (splits b).length = b.length
  | [] => rfl
  | s :: b => by
    show ((splits b).map _).length + 1 = b.length + 1
    rw [List.length_map, splits_len b]
theorem splits_at : ∀ {b : List Str} {p : Nat} (h : p < b.length), (splits b)[p]? = some (b.take p, b[p], b.drop (p + 1))
  | [], p, h => by simp at h
  | s :: b, 0, h => rfl
  | s :: b, p + 1, h => by
    have h' : p < b.length := by simpa using h
    show ((splits b).map _)[p]? = _
    rw [List.getElem?_map, splits_at h']
    rfl
/-- the worth, by one symbol's stretch -/
theorem bodyW_split {a c : List Str} {s : Str} {i j N : Nat} (hN : j < N) : bodyW W (a ++ s :: c) i j = sumN N fun f => sumN N fun l => bodyW W a i f * bodyW W [s] f l * bodyW W c l j := by
  rw [bodyW_app hN]
  refine sumN_congr fun f hf => ?_
  rw [bodyW_consN hN, ← sumN_mul]
  refine sumN_congr fun l hl => ?_
  grind
/-- just one symbol's stretch holds a place -/
theorem bodyW_cover {p j N : Nat} (hN : j < N) (hp : p < j) : ∀ {b : List Str} {i : Nat}, i ≤ p → bodyW W b i j = sumL (splits b) fun x => sumN N fun f => sumN N fun l => if f ≤ p ∧ p < l then bodyW W x.1 i f * bodyW W [x.2.1] f l * bodyW W x.2.2 l j else 0
  | [], i, hi => by
    show (if i = j then (1 : Rat) else 0) = 0
    rw [if_neg (by omega)]
  | s :: b, i, hi => by
    show bodyW W (s :: b) i j = (sumN N fun f => sumN N fun l => if f ≤ p ∧ p < l then bodyW W [] i f * bodyW W [s] f l * bodyW W b l j else 0) + sumL ((splits b).map fun x => (s :: x.1, x.2.1, x.2.2)) _
    rw [sumL_map]
    have eA : (sumN N fun f => sumN N fun l => if f ≤ p ∧ p < l then bodyW W [] i f * bodyW W [s] f l * bodyW W b l j else 0) = sumN N fun l => if p < l then bodyW W [s] i l * bodyW W b l j else 0 := by
      have e : (fun f => sumN N fun l => if f ≤ p ∧ p < l then bodyW W [] i f * bodyW W [s] f l * bodyW W b l j else 0) = fun f => if f = i then (sumN N fun l => if p < l then bodyW W [s] i l * bodyW W b l j else 0) else 0 := by
        funext f
        by_cases z : f = i
        · subst z
          rw [if_pos rfl]
          refine sumN_congr fun l _ => ?_
          have e0 : bodyW W [] f f = 1 := by rw [nil_at, if_pos rfl]
          rw [e0]
          by_cases y : p < l
          · rw [if_pos ⟨hi, y⟩, if_pos y]; grind
          · rw [if_neg (fun q => y q.2), if_neg y]
        · rw [if_neg z]
          refine sumN_zero fun l _ => ?_
          have e0 : bodyW W [] i f = 0 := by rw [nil_at, if_neg (fun y => z y.symm)]
          rw [e0]
          split <;> grind
      rw [e, sumN_single (by omega)]
    have eB : sumL (splits b) (fun x => sumN N fun f => sumN N fun l => if f ≤ p ∧ p < l then bodyW W (s :: x.1) i f * bodyW W [x.2.1] f l * bodyW W x.2.2 l j else 0) = sumN N fun m => if m ≤ p then bodyW W [s] i m * bodyW W b m j else 0 := by
      have e1 : ∀ x ∈ splits b, (sumN N fun f => sumN N fun l => if f ≤ p ∧ p < l then bodyW W (s :: x.1) i f * bodyW W [x.2.1] f l * bodyW W x.2.2 l j else 0) = sumN N fun m => if m ≤ p then bodyW W [s] i m * (sumN N fun f => sumN N fun l => if f ≤ p ∧ p < l then bodyW W x.1 m f * bodyW W [x.2.1] f l * bodyW W x.2.2 l j else 0) else 0 := by
        intro x _
        have e2 : ∀ m, (if m ≤ p then bodyW W [s] i m * (sumN N fun f => sumN N fun l => if f ≤ p ∧ p < l then bodyW W x.1 m f * bodyW W [x.2.1] f l * bodyW W x.2.2 l j else 0) else 0) = sumN N fun f => sumN N fun l => if f ≤ p ∧ p < l then bodyW W [s] i m * bodyW W x.1 m f * bodyW W [x.2.1] f l * bodyW W x.2.2 l j else 0 := by
          intro m
          by_cases z : m ≤ p
          · rw [if_pos z, ← sumN_mul]
            refine sumN_congr fun f _ => ?_
            rw [← sumN_mul]
            refine sumN_congr fun l _ => ?_
            split <;> grind
          · rw [if_neg z]
            refine (sumN_zero fun f _ => sumN_zero fun l _ => ?_).symm
            by_cases y : f ≤ p ∧ p < l
            · rw [if_pos y, bodyW_short (b := x.1) (by omega)]; grind
            · rw [if_neg y]
        rw [sumN_congr (n := N) fun m _ => e2 m]
        conv => rhs; rw [sumN_swap]
        refine sumN_congr fun f hf => ?_
        conv => rhs; rw [sumN_swap]
        refine sumN_congr fun l _ => ?_
        by_cases y : f ≤ p ∧ p < l
        · rw [if_pos y, bodyW_consN (s := s) (b := x.1) (j := f) hf]
          have e3 : (fun m => if f ≤ p ∧ p < l then bodyW W [s] i m * bodyW W x.1 m f * bodyW W [x.2.1] f l * bodyW W x.2.2 l j else 0) = fun m => (bodyW W [x.2.1] f l * bodyW W x.2.2 l j) * (bodyW W [s] i m * bodyW W x.1 m f) := by
            funext m
            rw [if_pos y]; grind
          rw [e3, sumN_mul]
          grind
        · rw [if_neg y]
          refine (sumN_zero fun m _ => if_neg y).symm
      rw [sumL_congr e1, ← sumN_sumL]
      refine sumN_congr fun m hm => ?_
      by_cases z : m ≤ p
      · rw [if_pos z, bodyW_cover hN hp (b := b) z, ← sumL_mul]
        refine sumL_congr fun x _ => ?_
        rw [if_pos z]
      · rw [if_neg z]
        exact sumL_zero fun x _ => if_neg z
    rw [eA, eB, ← sumN_add, bodyW_consN hN]
    refine sumN_congr fun m _ => ?_
    by_cases z : p < m
    · rw [if_pos z, if_neg (by omega)]; grind
    · rw [if_neg z, if_pos (by omega)]; grind
end
end G91

/-! Ma13: sums beyond. -/
namespace G91
open PySem PySem.Spec PyProof.Rows L2
/-- what a rule gives to a symbol of its body at a stretch -/
def aroundX (W : Str → Nat → Nat → Rat) (n : Nat) (U : Str → Nat → Nat → Rat) (A : Str) (r : RuleD) (i j : Nat) : Rat :=
  sumL (splits r.body) fun x => if x.2.1 = A then sumN (n + 1) fun f => sumN (n + 1) fun l => bodyW W x.1 f i * bodyW W x.2.2 j l * (r.part * U r.head f l) else 0
noncomputable def startO (st : Str) (n : Nat) (A : Str) (i j : Nat) : Rat := if A = st ∧ i = 0 ∧ j = n then 1 else 0
def longR (r : RuleD) : Bool := decide (2 ≤ r.body.length)
noncomputable def endO (rs : List RuleD) (row : List Str) (st : Str) (U : Str → Nat → Nat → Rat) (A : Str) (i j : Nat) : Rat :=
  startO st row.length A i j + sumL rs fun r => if liveR rs r && longR r then aroundX (worT rs row) row.length U A r i j else 0
noncomputable def sysO (rs : List RuleD) (row : List Str) (st : Str) (U : Str → Nat → Nat → Rat) (i j : Nat) : Sy := ⟨fun k l => wayM rs l k, fun k => endO rs row st U (hd rs k) i j⟩
noncomputable def outS (rs : List RuleD) (row : List Str) (st : Str) : Nat → Str → Nat → Nat → Rat
  | 0 => fun _ _ _ => 0
  | s + 1 => fun A i j => if (i < j ∧ j ≤ row.length ∧ j - i + s = row.length) ∧ A ∈ liveL rs then (gSt (sysO rs row st (outS rs row st s) i j) (liveN rs)).F (pos rs A) else outS rs row st s A i j
noncomputable def outT (rs : List RuleD) (row : List Str) (st : Str) : Str → Nat → Nat → Rat := outS rs row st row.length
section
variable {rs : List RuleD} {row : List Str} {st : Str}
theorem outS_out {A : Str} {i j : Nat} (h : ¬ (i < j ∧ j ≤ row.length)) : ∀ s, outS rs row st s A i j = 0
  | 0 => rfl
  | s + 1 => by
    show (if _ then _ else outS rs row st s A i j) = 0
    rw [if_neg (fun z => h ⟨z.1.1, z.1.2.1⟩), outS_out h s]
theorem outS_low {A : Str} {i j : Nat} : ∀ s, j - i + s ≤ row.length → outS rs row st s A i j = 0
  | 0, _ => rfl
  | s + 1, h => by
    show (if _ then _ else outS rs row st s A i j) = 0
    rw [if_neg (fun z => by omega), outS_low s (by omega)]
theorem outS_eq {A : Str} {i j : Nat} (hj : j ≤ row.length) : ∀ d s, s + d = row.length → row.length < j - i + s → outS rs row st s A i j = outT rs row st A i j
  | 0, s, h, _ => by unfold outT; rw [← h]; rfl
  | d + 1, s, h, h2 => by
    rw [← outS_eq hj d (s + 1) (by omega) (by omega)]
    show _ = (if _ then _ else outS rs row st s A i j)
    rw [if_neg (fun z => by omega)]
theorem outT_out {A : Str} {i j : Nat} (h : ¬ (i < j ∧ j ≤ row.length)) : outT rs row st A i j = 0 := outS_out h _
theorem outT_dead {A : Str} {i j : Nat} (h : A ∉ liveL rs) : outT rs row st A i j = 0 := by
  have : ∀ s, outS rs row st s A i j = 0 := by
    intro s
    induction s with
    | zero => rfl
    | succ s ih =>
      show (if _ then _ else outS rs row st s A i j) = 0
      rw [if_neg (fun z => h z.2), ih]
  exact this _
theorem around_congr {W U U' : Str → Nat → Nat → Rat} {n : Nat} {A : Str} {r : RuleD} {i j : Nat} (hl : 2 ≤ r.body.length) (q : ∀ f l, f ≤ i → j ≤ l → l ≤ n → (f, l) ≠ (i, j) → U r.head f l = U' r.head f l) : aroundX W n U A r i j = aroundX W n U' A r i j := by
  refine sumL_congr fun x hx => ?_
  by_cases hA : x.2.1 = A
  · rw [if_pos hA, if_pos hA]
    refine sumN_congr fun f hf => sumN_congr fun l hl' => ?_
    by_cases h1 : f ≤ i
    · by_cases h2 : j ≤ l
      · by_cases h3 : (f, l) = (i, j)
        · obtain ⟨rfl, rfl⟩ := Prod.mk.inj h3
          have hs := splits_app hx
          have hlen : x.1.length + (x.2.2.length + 1) = r.body.length := by
            have := congrArg List.length hs
            rw [List.length_append, List.length_cons] at this
            exact this
          have hz : bodyW W x.1 f f * bodyW W x.2.2 l l = 0 := by
            by_cases e : x.1.length = 0
            · rw [bodyW_short (b := x.2.2) (by omega)]; grind
            · rw [bodyW_short (b := x.1) (by omega)]; grind
          rw [hz]; grind
        · rw [q f l h1 h2 (by omega) h3]
      · rw [bodyW_short (b := x.2.2) (i := j) (j := l) (by omega)]; grind
    · rw [bodyW_short (b := x.1) (i := f) (j := i) (by omega)]; grind
  · rw [if_neg hA, if_neg hA]
theorem endO_congr {U U' : Str → Nat → Nat → Rat} {A : Str} {i j : Nat} (q : ∀ B ∈ liveL rs, ∀ f l, f ≤ i → j ≤ l → l ≤ row.length → (f, l) ≠ (i, j) → U B f l = U' B f l) : endO rs row st U A i j = endO rs row st U' A i j := by
  unfold endO
  congr 1
  refine sumL_congr fun r _ => ?_
  cases h : liveR rs r && longR r with
  | false => rw [if_neg Bool.false_ne_true, if_neg Bool.false_ne_true]
  | true =>
    rw [if_pos rfl, if_pos rfl]
    rw [Bool.and_eq_true] at h
    exact around_congr (of_decide_eq_true h.2) (q r.head (mem_liveL.mpr (liveR_iff.mp h.1).1))
theorem outT_sys {A : Str} {i j : Nat} (hA : A ∈ liveL rs) (h : i < j) (hj : j ≤ row.length) : outT rs row st A i j = (gSt (sysO rs row st (outT rs row st) i j) (liveN rs)).F (pos rs A) := by
  obtain ⟨s, hs⟩ : ∃ s, j - i + s = row.length := ⟨row.length - (j - i), by omega⟩
  have e : sysO rs row st (outS rs row st s) i j = sysO rs row st (outT rs row st) i j := by
    unfold sysO
    congr 1
    funext k
    refine endO_congr fun B _ f l h1 h2 h3 h4 => ?_
    refine outS_eq h3 (row.length - s) s (by omega) ?_
    have : ¬ (f = i ∧ l = j) := fun z => h4 (by rw [z.1, z.2])
    omega
  rw [← outS_eq hj (row.length - (s + 1)) (s + 1) (by omega) (by omega)]
  show (if _ then _ else _) = _
  rw [if_pos ⟨⟨h, hj, hs⟩, hA⟩, e]
theorem way_turn {A : Str} (hA : A ∈ liveL rs) {y : Str → Rat} : sumL (liveL rs) (fun B => wayP rs B A * y B) = sumL rs fun r => if liveR rs r && decide (r.body = [A]) then r.part * y r.head else 0 := by
  have e : (fun B => wayP rs B A * y B) = fun B => sumL rs fun r => if stepOf rs B r && decide (r.body = [A]) then r.part * y B else 0 := by
    funext B
    unfold wayP
    rw [Rat.mul_comm, ← sumL_mul]
    apply sumL_congr
    intro r _
    split <;> grind
  rw [e, sumL_swap]
  apply sumL_congr
  intro r hr
  by_cases hb : r.body = [A]
  · rw [decide_eq_true hb, Bool.and_true]
    have hst : isStep rs r = true := isStep_iff.mpr ⟨A, live_head (mem_liveL.mp hA), hb⟩
    cases h : liveR rs r with
    | false =>
      refine sumL_zero fun B _ => ?_
      rw [step_live h]; rfl
    | true =>
      have hh : r.head ∈ liveL rs := mem_liveL.mpr (liveR_iff.mp h).1
      rw [if_pos rfl]
      have e2 : ∀ B ∈ liveL rs, (if stepOf rs B r && true then r.part * y B else 0) = if B = r.head then r.part * y B else 0 := by
        intro B _
        by_cases z : B = r.head
        · have : stepOf rs B r = true := by unfold stepOf; rw [h, hst, decide_eq_true z.symm]; rfl
          rw [if_pos z, this]; rfl
        · have : stepOf rs B r = false := by
            cases q : stepOf rs B r with
            | false => rfl
            | true => exact absurd (stepOf_head q).symm z
          rw [if_neg z, this]; rfl
      rw [sumL_congr e2, sumL_one (liveL_nd rs) hh]
  · rw [decide_eq_false hb]
    rw [sumL_zero fun B _ => by simp]
    simp
variable (g : GoodG st rs) (hn : ∀ r ∈ rs, 0 ≤ r.part)
include g hn
theorem outT_eq {A : Str} {i j : Nat} (hA : A ∈ liveL rs) (h : i < j) (hj : j ≤ row.length) : outT rs row st A i j = endO rs row st (outT rs row st) A i j + sumL (liveL rs) fun B => wayP rs B A * outT rs row st B i j := by
  have hs := solves_of (turn_pivots g hn (S := sysO rs row st (outT rs row st) i j) rfl) _ (pos_lt hA)
  rw [← outT_sys hA h hj] at hs
  rw [hs, sum_hd]
  show endO rs row st _ (hd rs (pos rs A)) i j + _ = _
  rw [hd_pos hA]
  congr 1
  apply sumN_congr
  intro k hk
  show wayM rs k (pos rs A) * _ = _
  unfold wayM
  rw [hd_pos hA, outT_sys (hd_mem hk) h hj, pos_hd hk]
theorem around_nn {n : Nat} {U : Str → Nat → Nat → Rat} (hU : ∀ A i j, 0 ≤ U A i j) {A : Str} {r : RuleD} (hr : r ∈ rs) {i j : Nat} : 0 ≤ aroundX (worT rs row) n U A r i j := by
  have hW : ∀ s x y, 0 ≤ worT rs row s x y := fun s x y => wor_nn (fun A u v => insT_nn g hn A u v) s x y
  refine sumL_nn fun x _ => ?_
  split
  · exact sumN_nn fun f _ => sumN_nn fun l _ => Rat.mul_nonneg (Rat.mul_nonneg (bodyW_nn hW) (bodyW_nn hW)) (Rat.mul_nonneg (hn r hr) (hU _ _ _))
  · exact nn0
omit g hn in
theorem startO_nn {n : Nat} {A : Str} {i j : Nat} : 0 ≤ startO st n A i j := by
  unfold startO
  split
  · exact nn1
  · exact nn0
theorem outT_nn (A : Str) (i j : Nat) : 0 ≤ outT rs row st A i j := by
  have : ∀ s A i j, 0 ≤ outS rs row st s A i j := by
    intro s
    induction s with
    | zero => intro A i j; exact nn0
    | succ s ih =>
      intro A i j
      show 0 ≤ (if _ then _ else outS rs row st s A i j)
      split
      · rename_i q
        refine gSt_F_nn (n := liveN rs) (fun a b _ _ => wayP_nn hn _ _) (fun k _ => ?_) (Nat.le_refl _) (turn_pivots g hn rfl) _ (pos_lt q.2)
        have h1 : 0 ≤ sumL rs fun r => if liveR rs r && longR r then aroundX (worT rs row) row.length (outS rs row st s) (hd rs k) r i j else 0 := sumL_nn fun r hr => by
          split
          · exact around_nn g hn ih hr
          · exact nn0
        have h2 := startO_nn (st := st) (n := row.length) (A := hd rs k) (i := i) (j := j)
        show 0 ≤ startO st row.length (hd rs k) i j + _
        grind
      · exact ih A i j
  exact this _ A i j
omit g hn in
theorem around_one {W U : Str → Nat → Nat → Rat} {n : Nat} {A : Str} {r : RuleD} {i j : Nat} {s : Str} (hb : r.body = [s]) (hi : i ≤ n) (hj : j ≤ n) : aroundX W n U A r i j = if s = A then r.part * U r.head i j else 0 := by
  unfold aroundX
  rw [hb]
  show (if s = A then _ else (0 : Rat)) + 0 = _
  rw [Rat.add_zero]
  by_cases h : s = A
  · rw [if_pos h, if_pos h]
    have e : (fun f => sumN (n + 1) fun l => bodyW W [] f i * bodyW W [] j l * (r.part * U r.head f l)) = fun f => if f = i then (sumN (n + 1) fun l => if l = j then r.part * U r.head i j else 0) else 0 := by
      funext f
      by_cases z : f = i
      · subst z
        rw [if_pos rfl]
        refine sumN_congr fun l _ => ?_
        by_cases y : l = j
        · subst y
          have e0 : bodyW W [] f f = 1 := by rw [nil_at, if_pos rfl]
          have e1 : bodyW W [] l l = 1 := by rw [nil_at, if_pos rfl]
          rw [if_pos rfl, e0, e1]; grind
        · have e0 : bodyW W [] j l = 0 := by rw [nil_at, if_neg (fun q => y q.symm)]
          rw [if_neg y, e0]; grind
      · rw [if_neg z]
        refine sumN_zero fun l _ => ?_
        have e0 : bodyW W [] f i = 0 := by rw [nil_at, if_neg z]
        rw [e0]; grind
    rw [e, sumN_single (by omega), sumN_single (by omega)]
  · rw [if_neg h, if_neg h]
/-- over all live rules -/
theorem outT_fit {A : Str} {i j : Nat} (hA : A ∈ liveL rs) (h : i < j) (hj : j ≤ row.length) : outT rs row st A i j = startO st row.length A i j + sumL rs fun r => if liveR rs r then aroundX (worT rs row) row.length (outT rs row st) A r i j else 0 := by
  rw [outT_eq g hn hA h hj, way_turn hA]
  unfold endO
  rw [Rat.add_assoc, ← sumL_add]
  congr 1
  refine sumL_congr fun r hr => ?_
  have hb := body_four g hr
  cases hl : liveR rs r with
  | false => simp; grind
  | true =>
    rw [Bool.true_and, Bool.true_and, if_pos rfl]
    by_cases h2 : 2 ≤ r.body.length
    · have e1 : longR r = true := decide_eq_true h2
      have e2 : decide (r.body = [A]) = false := decide_eq_false fun z => by rw [z] at h2; simp at h2
      rw [e1, e2, if_pos rfl, if_neg Bool.false_ne_true]
      grind
    · have e1 : longR r = false := decide_eq_false h2
      obtain ⟨s, hs⟩ : ∃ s, r.body = [s] := by
        match hb' : r.body, hb.1, h2 with
        | [s], _, _ => exact ⟨s, rfl⟩
        | [], q, _ => simp at q
        | _ :: _ :: _, _, q => simp at q
      rw [e1, if_neg Bool.false_ne_true, around_one hs (by omega) hj, hs]
      by_cases z : s = A
      · subst z
        rw [if_pos rfl, if_pos (by simp)]; grind
      · have : ¬ [s] = [A] := fun y => z (List.cons.inj y).1
        rw [if_neg z, if_neg (by simp [z])]; grind
end
end G91

/-! Ma14: how great the sums beyond are. -/
namespace G91
open PySem PySem.Spec PyProof.Rows L2
def termO (W U : Str → Nat → Nat → Rat) (r : RuleD) (x : List Str × Str × List Str) (i j f l : Nat) : Rat := bodyW W x.1 f i * bodyW W x.2.2 j l * (r.part * U r.head f l)
theorem around_term {W U : Str → Nat → Nat → Rat} {n : Nat} {A : Str} {r : RuleD} {i j : Nat} : aroundX W n U A r i j = sumL (splits r.body) fun x => if x.2.1 = A then sumN (n + 1) fun f => sumN (n + 1) fun l => termO W U r x i j f l else 0 := rfl
theorem bnd_add {c m : Nat} {r s : Rat} (hc : 2 ≤ c) (h : Bnd c m r) (g : Bnd c m s) : Bnd c (m + 1) (r + s) := by
  have h1 := Bnd.sumN (c := c) (m := m) (show 1 ≤ c by omega) (n := 2) (f := fun k => if k = 0 then r else s) hc fun k hk => by
    by_cases q : k = 0
    · rw [if_pos q]; exact h
    · rw [if_neg q]; exact g
  have e : sumN 2 (fun k => if k = 0 then r else s) = r + s := by
    show (0 + (if 0 = 0 then r else s)) + (if 1 = 0 then r else s) = _
    rw [if_pos rfl, if_neg (by decide)]; grind
  rwa [e] at h1
section
variable {c : Nat} {st : Str} {rs : List RuleD} {row : List Str} (sv : Serves c rs) (g : GoodG st rs)
include sv g
theorem bodyZ {D : Nat} (hD : D ≤ 199) {b : List Str} {i j : Nat} (h : j - i ≤ D) : (b ≠ [] → Bnd c (10 * (j - i) - 6) (bodyW (worT rs row) b i j)) ∧ Bnd c (10 * (j - i)) (bodyW (worT rs row) b i j) := by
  have hc : 1 ≤ c := by have := sv.big; omega
  have hm : liveN rs ≤ 200 := Nat.le_trans (liveL_len rs) (by have := g.few2; omega)
  have hl : rs.length ≤ 200 := by have := g.few2; omega
  have h1 : b ≠ [] → Bnd c (10 * (j - i) - 6) (bodyW (worT rs row) b i j) := fun hb => by
    have hT : ∀ A a e, a < e → e - a ≤ D → Bnd c (10 * (e - a) - 6) (insT rs row A a e) := fun A a e h1 h2 => insB sv g hm hl (d := D) (by omega) A a e h1 h2
    have := bodyB hc (hs := headsOf rs) (row := row) hT (by have := sv.big; omega) hb h
    refine this.mono hc ?_
    have : 1 ≤ b.length := List.length_pos_iff.mpr hb
    omega
  refine ⟨h1, ?_⟩
  by_cases hb : b = []
  · subst hb
    rw [nil_at]
    split
    · exact bnd1 hc _
    · exact bnd0 hc _
  · exact (h1 hb).mono hc (by omega)
theorem termB {n : Nat} (hn : n ≤ 199) {U : Str → Nat → Nat → Rat} {i j : Nat} (hij : i < j) (hU : ∀ B f l, f < l → l ≤ n → j - i < l - f → Bnd c (12 * (n - (l - f)) + 7) (U B f l)) {r : RuleD} (hr : r ∈ rs) (hl2 : 2 ≤ r.body.length) {x : List Str × Str × List Str} (hx : x ∈ splits r.body) {f l : Nat} (hl : l ≤ n) :
    Bnd c (12 * (n - (j - i))) (termO (worT rs row) U r x i j f l) := by
  have hc : 1 ≤ c := by have := sv.big; omega
  have hs := splits_app hx
  have hlen : x.1.length + (x.2.2.length + 1) = r.body.length := by
    have := congrArg List.length hs
    rw [List.length_append, List.length_cons] at this
    exact this
  have hz : ∀ {y : Rat}, y = 0 → Bnd c (12 * (n - (j - i))) y := fun h => by rw [h]; exact bnd0 hc _
  by_cases h1 : f ≤ i
  · by_cases h2 : j ≤ l
    · have hd : l - f = (j - i) + ((i - f) + (l - j)) := by omega
      by_cases h3 : x.1 = []
      · by_cases h4 : f = i
        · have h5 : x.2.2 ≠ [] := fun z => by rw [h3, z] at hlen; simp at hlen; omega
          by_cases h6 : l = j
          · refine hz ?_
            unfold termO
            rw [bodyW_short (b := x.2.2) (by have := List.length_pos_iff.mpr h5; omega)]; grind
          · have p1 := (bodyZ sv g (row := row) (b := x.1) (i := f) (j := i) hn (by omega)).2
            have p2 := (bodyZ sv g (row := row) (b := x.2.2) (i := j) (j := l) hn (by omega)).1 h5
            have p3 := hU r.head f l (by omega) hl (by omega)
            refine ((p1.mul hc p2).mul hc ((sv.part r hr).mul hc p3)).mono hc ?_
            omega
        · refine hz ?_
          unfold termO
          rw [h3, nil_at, if_neg h4]; grind
      · by_cases h4 : f = i
        · refine hz ?_
          unfold termO
          rw [bodyW_short (b := x.1) (by have := List.length_pos_iff.mpr h3; omega)]; grind
        · have p1 := (bodyZ sv g (row := row) (b := x.1) (i := f) (j := i) hn (by omega)).1 h3
          have p2 := (bodyZ sv g (row := row) (b := x.2.2) (i := j) (j := l) hn (by omega)).2
          have p3 := hU r.head f l (by omega) hl (by omega)
          refine ((p1.mul hc p2).mul hc ((sv.part r hr).mul hc p3)).mono hc ?_
          omega
    · refine hz ?_
      unfold termO
      rw [bodyW_short (b := x.2.2) (by omega)]; grind
  · refine hz ?_
    unfold termO
    rw [bodyW_short (b := x.1) (by omega)]; grind
/-- a part of what a place gives -/
theorem aroundB {n : Nat} (hn : n ≤ 198) {U : Str → Nat → Nat → Rat} {i j : Nat} (hij : i < j) (hU : ∀ B f l, f < l → l ≤ n → j - i < l - f → Bnd c (12 * (n - (l - f)) + 7) (U B f l)) {r : RuleD} (hr : r ∈ rs) (hl2 : 2 ≤ r.body.length) {x : List Str × Str × List Str} (hx : x ∈ splits r.body) {f l : Nat} (hf : f ≤ n + 1) (hl : l ≤ n + 1) :
    Bnd c (12 * (n - (j - i)) + 3) (sumN f (fun f => sumN (n + 1) fun l => termO (worT rs row) U r x i j f l) + sumN l fun l => termO (worT rs row) U r x i j f l) ∧ Bnd c (12 * (n - (j - i)) + 2) (sumN f (fun f => sumN (n + 1) fun l => termO (worT rs row) U r x i j f l)) := by
  have hb := sv.big
  have hc : 1 ≤ c := by omega
  have hT : ∀ f l, l < n + 1 → Bnd c (12 * (n - (j - i))) (termO (worT rs row) U r x i j f l) := fun f l h => termB sv g (by omega) hij hU hr hl2 hx (by omega)
  have h1 : Bnd c (12 * (n - (j - i)) + 2) (sumN f (fun f => sumN (n + 1) fun l => termO (worT rs row) U r x i j f l)) := Bnd.sumN hc (by omega) fun f _ => Bnd.sumN hc (by omega) fun l hl => hT f l hl
  refine ⟨bnd_add (by omega) h1 ((Bnd.sumN hc (by omega) fun l hl => hT f l (by omega)).mono hc (by omega)), h1⟩
/-- .. of what the rules so far give -/
theorem endsB {n : Nat} (hn : n ≤ 198) {U : Str → Nat → Nat → Rat} {i j : Nat} (hij : i < j) (hU : ∀ B f l, f < l → l ≤ n → j - i < l - f → Bnd c (12 * (n - (l - f)) + 7) (U B f l)) {A : Str} {L : List RuleD} (hL : ∀ r ∈ L, r ∈ rs) (hlen : L.length ≤ 200) {P : List (List Str × Str × List Str)} {q : RuleD} (hq : q ∈ rs) (hlq : P = [] ∨ 2 ≤ q.body.length) (hP : ∀ x ∈ P, x ∈ splits q.body) (hPl : P.length ≤ 200) :
    Bnd c (12 * (n - (j - i)) + 5) (startO st n A i j + sumL L (fun r => if liveR rs r && longR r then aroundX (worT rs row) n U A r i j else 0) + sumL P fun x => if x.2.1 = A then sumN (n + 1) fun f => sumN (n + 1) fun l => termO (worT rs row) U q x i j f l else 0) := by
  have hb := sv.big
  have hc : 1 ≤ c := by omega
  have h0 : Bnd c (12 * (n - (j - i)) + 3) (startO st n A i j) := by
    unfold startO
    split
    · exact bnd1 hc _
    · exact bnd0 hc _
  have h1 : ∀ r ∈ rs, 2 ≤ r.body.length → ∀ x ∈ splits r.body, Bnd c (12 * (n - (j - i)) + 2) (if x.2.1 = A then sumN (n + 1) fun f => sumN (n + 1) fun l => termO (worT rs row) U r x i j f l else 0) := fun r hr h2 x hx => by
    split
    · exact (aroundB sv g hn hij hU hr h2 hx (Nat.le_refl _) (Nat.le_refl _)).2
    · exact bnd0 hc _
  have h2 : Bnd c (12 * (n - (j - i)) + 4) (sumL L (fun r => if liveR rs r && longR r then aroundX (worT rs row) n U A r i j else 0)) := by
    refine Bnd.sumL hc (m := 12 * (n - (j - i)) + 3) ⟨"", [], 0⟩ (by omega) fun r hr => ?_
    cases z : liveR rs r && longR r with
    | false => rw [if_neg Bool.false_ne_true]; exact bnd0 hc _
    | true =>
      rw [if_pos rfl, around_term]
      rw [Bool.and_eq_true] at z
      have h4 := body_four g (hL r hr)
      exact Bnd.sumL hc (m := 12 * (n - (j - i)) + 2) ([], "", []) (by rw [splits_len]; omega) fun x hx => h1 r (hL r hr) (of_decide_eq_true z.2) x hx
  have h3 : Bnd c (12 * (n - (j - i)) + 3) (sumL P fun x => if x.2.1 = A then sumN (n + 1) fun f => sumN (n + 1) fun l => termO (worT rs row) U q x i j f l else 0) := by
    rcases hlq with e | e
    · subst e; exact bnd0 hc _
    · exact Bnd.sumL hc (m := 12 * (n - (j - i)) + 2) ([], "", []) (by omega) fun x hx => h1 q hq e x (hP x hx)
  have h5 := Bnd.sumN (c := c) hc (n := 3) (m := 12 * (n - (j - i)) + 4) (f := fun k => if k = 0 then startO st n A i j else if k = 1 then sumL L (fun r => if liveR rs r && longR r then aroundX (worT rs row) n U A r i j else 0) else sumL P fun x => if x.2.1 = A then sumN (n + 1) fun f => sumN (n + 1) fun l => termO (worT rs row) U q x i j f l else 0) (by omega) fun k _ => by
    by_cases q : k = 0
    · rw [if_pos q]; exact h0.mono hc (by omega)
    · rw [if_neg q]
      by_cases q : k = 1
      · rw [if_pos q]; exact h2
      · rw [if_neg q]; exact h3.mono hc (by omega)
  have e : ∀ a b d : Rat, sumN 3 (fun k => if k = 0 then a else if k = 1 then b else d) = a + b + d := fun a b d => by
    show (((0 : Rat) + (if 0 = 0 then a else _)) + (if 1 = 0 then a else if 1 = 1 then b else d)) + (if 2 = 0 then a else if 2 = 1 then b else d) = _
    rw [if_pos rfl, if_neg (by decide), if_pos rfl, if_neg (by decide), if_neg (by decide)]
    grind
  rwa [e] at h5
theorem outB (hn : row.length ≤ 198) (hm : liveN rs ≤ 200) : ∀ {d : Nat} (A : Str) (i j : Nat), i < j → j ≤ row.length → row.length - (j - i) ≤ d → Bnd c (12 * (row.length - (j - i)) + 7) (outT rs row st A i j) := by
  intro d
  induction d with
  | zero =>
    intro A i j h hj hdd
    have hb := sv.big
    have hc : 1 ≤ c := by omega
    by_cases hA : A ∈ liveL rs
    · rw [outT_sys hA h hj]
      have hF : ∀ k, k < liveN rs → Bnd c (12 * (row.length - (j - i)) + 5) ((sysO rs row st (outT rs row st) i j).F k) := fun k hk => by
        have h4 := live_head (mem_liveL.mp hA)
        obtain ⟨r, hr, _⟩ := mem_headsOf.mp h4
        have := endsB sv g (row := row) (U := outT rs row st) hn h (fun B f l h1 h2 h3 => by omega) (A := hd rs k) (L := rs) (fun r h => h) (by have := g.few2; omega) (P := []) hr (.inl rfl) (fun _ h => nomatch h) (by simp)
        rw [show sumL ([] : List (List Str × Str × List Str)) _ = 0 from rfl, Rat.add_zero] at this
        exact this
      exact (elimB sv g hm sv.tin hF (Nat.le_refl _) (pos_lt hA)).mono hc (by omega)
    · rw [outT_dead hA]; exact bnd0 hc _
  | succ d ih =>
    intro A i j h hj hdd
    have hb := sv.big
    have hc : 1 ≤ c := by omega
    by_cases hA : A ∈ liveL rs
    · rw [outT_sys hA h hj]
      have hF : ∀ k, k < liveN rs → Bnd c (12 * (row.length - (j - i)) + 5) ((sysO rs row st (outT rs row st) i j).F k) := fun k hk => by
        have h4 := live_head (mem_liveL.mp hA)
        obtain ⟨r, hr, _⟩ := mem_headsOf.mp h4
        have := endsB sv g (row := row) (U := outT rs row st) hn h (fun B f l h1 h2 h3 => ih B f l h1 h2 (by omega)) (A := hd rs k) (L := rs) (fun r h => h) (by have := g.few2; omega) (P := []) hr (.inl rfl) (fun _ h => nomatch h) (by simp)
        rw [show sumL ([] : List (List Str × Str × List Str)) _ = 0 from rfl, Rat.add_zero] at this
        exact this
      exact (elimB sv g hm sv.tin hF (Nat.le_refl _) (pos_lt hA)).mono hc (by omega)
    · rw [outT_dead hA]; exact bnd0 hc _
end
/-- what a rule's uses come to at a stretch -/
noncomputable def useX (rs : List RuleD) (row : List Str) (st : Str) (r : RuleD) (i j : Nat) : Rat := outT rs row st r.head i j * bodyW (worT rs row) r.body i j * r.part
/-- what the walk of the sums beyond leans on -/
structure NumP (rs : List RuleD) (row : List Str) (st : Str) : Prop where
  o : ∀ A i j, Bt okB (outT rs row st A i j)
  p : ∀ r ∈ rs, 2 ≤ r.body.length → ∀ x ∈ splits r.body, ∀ i j f l, i < j → f ≤ row.length + 1 → l ≤ row.length + 1 → Bt okB (sumN f (fun f => sumN (row.length + 1) fun l => termO (worT rs row) (outT rs row st) r x i j f l) + sumN l fun l => termO (worT rs row) (outT rs row st) r x i j f l)
  e : ∀ L : List RuleD, (∀ r ∈ L, r ∈ rs) → L.length ≤ 200 → ∀ q ∈ rs, ∀ P, (P = [] ∨ 2 ≤ q.body.length) → (∀ x ∈ P, x ∈ splits q.body) → P.length ≤ 200 → ∀ A i j, i < j → Bt okB (startO st row.length A i j + sumL L (fun r => if liveR rs r && longR r then aroundX (worT rs row) row.length (outT rs row st) A r i j else 0) + sumL P fun x => if x.2.1 = A then sumN (row.length + 1) fun f => sumN (row.length + 1) fun l => termO (worT rs row) (outT rs row st) q x i j f l else 0)
  s : ∀ i j, i < j → ∀ t, t ≤ liveN rs → SyOk (liveN rs) (gSt (sysO rs row st (outT rs row st) i j) t)
  m : ∀ A i j, Bt okB (insT rs row A i j * outT rs row st A i j)
  h : ∀ A, Bt okB (sumN (row.length + 1) fun i => sumN (row.length + 1) fun j => insT rs row A i j * outT rs row st A i j)
  hp : ∀ A b e, b ≤ row.length + 1 → e ≤ row.length + 1 → Bt okB (sumN b (fun i => sumN (row.length + 1) fun j => insT rs row A i j * outT rs row st A i j) + sumN e fun j => insT rs row A b j * outT rs row st A b j)
  u : ∀ r ∈ rs, ∀ b e, b ≤ row.length + 1 → e ≤ row.length + 1 → Bt okB (sumN b (fun i => sumN (row.length + 1) fun j => useX rs row st r i j) + sumN e fun j => useX rs row st r b j)
section
variable {st : Str} {rs : List RuleD} (g : GoodG st rs) (hn : ∀ r ∈ rs, 0 ≤ r.part)
include g hn
theorem numP_of {row : List Str} {c bb : Nat} (sv : Serves c rs) (hcb : c < 2 ^ bb) (hbits : 2 * (12 * row.length + 3) * bb + 1 ≤ okB) (hn5 : row.length ≤ 100) (hrows : ∀ k, k < liveN rs → Row 55 (liveN rs) (fun l => wayM rs l k)) (h3 : liveN rs ≤ 3) : NumP rs row st := by
  have hb := sv.big
  have hc : 1 ≤ c := by omega
  have hlen : rs.length ≤ 200 := by have := g.few2; omega
  have hO : ∀ A i j, i < j → j ≤ row.length → Bnd c (12 * (row.length - (j - i)) + 7) (outT rs row st A i j) := fun A i j h hj => outB sv g (by omega) (by omega) (d := row.length) A i j h hj (by omega)
  have hI : ∀ A a e, a < e → e - a ≤ row.length → Bnd c (10 * (e - a) - 6) (insT rs row A a e) := fun A a e h1 h2 => insB sv g (by omega) hlen (d := row.length) (by omega) A a e h1 h2
  have up : ∀ {m : Nat} {r : Rat}, Bnd c m r → m ≤ 12 * row.length + 3 → Bt okB r := fun {m r} h hm => (Bnd.bt hc hcb (h.mono hc hm)).mono hbits
  have hU : ∀ i j : Nat, ∀ B f l, f < l → l ≤ row.length → j - i < l - f → Bnd c (12 * (row.length - (l - f)) + 7) (outT rs row st B f l) := fun i j B f l h1 h2 _ => hO B f l h1 h2
  have hM : ∀ A i j, Bnd c (12 * row.length - 1) (insT rs row A i j * outT rs row st A i j) := fun A i j => by
    by_cases q : i < j ∧ j ≤ row.length
    · exact ((hI A i j q.1 (by omega)).mul hc (hO A i j q.1 q.2)).mono hc (by omega)
    · rw [outT_out q, Rat.mul_zero]; exact bnd0 hc _
  have hUse : ∀ r ∈ rs, ∀ i j, Bnd c (12 * row.length) (useX rs row st r i j) := fun r hr i j => by
    unfold useX
    have h4 := body_four g hr
    by_cases q : i < j ∧ j ≤ row.length
    · have p2 := (bodyZ sv g (row := row) (b := r.body) (i := i) (j := j) (D := row.length) (by omega) (by omega)).1 (by intro z; rw [z] at h4; simp at h4)
      refine (((hO r.head i j q.1 q.2).mul hc p2).mul hc (sv.part r hr)).mono hc (by omega)
    · rw [outT_out q, Rat.zero_mul, Rat.zero_mul]; exact bnd0 hc _
  have hij : ∀ {i j : Nat}, i < j → 12 * (row.length - (j - i)) + 5 ≤ 12 * row.length + 3 ∨ row.length = 0 := fun {i j} h => by omega
  refine ⟨fun A i j => ?_, fun r hr h2 x hx i j f l h hf hl => ?_, fun L hL hLl q hq P hP hPs hPl A i j h => ?_, fun i j h t ht => fun a ha => ⟨fun b' hb' => ?_, ?_⟩, fun A i j => up (hM A i j) (by omega), fun A => ?_, fun A b e hb' he => ?_, fun r hr b e hb' he => ?_⟩
  · by_cases q : i < j ∧ j ≤ row.length
    · exact up (hO A i j q.1 q.2) (by omega)
    · rw [outT_out q]; exact up (bnd0 hc 0) (by omega)
  · exact up (aroundB sv g (by omega) h (hU i j) hr h2 hx hf hl).1 (by omega)
  · rcases hij h with z | z
    · exact up (endsB sv g (by omega) h (hU i j) hL hLl hq hP hPs hPl) z
    · -- no row at all
      have e0 : ∀ x : RuleD, ∀ y ∈ splits x.body, 2 ≤ x.body.length → x ∈ rs → (if y.2.1 = A then sumN (row.length + 1) fun f => sumN (row.length + 1) fun l => termO (worT rs row) (outT rs row st) x y i j f l else 0) = 0 := fun x y _ _ _ => by
        split
        · refine sumN_zero fun f _ => sumN_zero fun l hl => ?_
          unfold termO
          rw [outT_out (by omega)]; grind
        · rfl
      rw [sumL_zero fun r hr => ?_, sumL_zero fun x hx => ?_, Rat.add_zero, Rat.add_zero]
      · refine up (m := 0) ?_ (by omega)
        unfold startO
        split
        · exact bnd1 hc _
        · exact bnd0 hc _
      · rcases hP with e | e
        · subst e; exact nomatch hx
        · exact e0 q x (hPs x hx) e hq
      · cases z : liveR rs r && longR r with
        | false => rw [if_neg Bool.false_ne_true]
        | true =>
          rw [if_pos rfl, around_term]
          rw [Bool.and_eq_true] at z
          exact sumL_zero fun x hx => e0 r x hx (of_decide_eq_true z.2) (hL r hr)
  · exact rows_ok (rs := rs) (R := fun k l => wayM rs l k) rfl hrows (fun S hS => turn_pivots g hn hS) h3 ht ha hb'
  · by_cases hr0 : row.length = 0
    · have hF : ∀ k, k < liveN rs → Bnd c 0 ((sysO rs row st (outT rs row st) i j).F k) := fun k _ => by
        show Bnd c 0 (startO st row.length (hd rs k) i j + _)
        rw [sumL_zero fun r hr => ?_, Rat.add_zero]
        · unfold startO
          split
          · exact bnd1 hc _
          · exact bnd0 hc _
        · cases z : liveR rs r && longR r with
          | false => rw [if_neg Bool.false_ne_true]
          | true =>
            rw [if_pos rfl, around_term]
            refine sumL_zero fun x hx => ?_
            split
            · refine sumN_zero fun f _ => sumN_zero fun l hl => ?_
              unfold termO
              rw [outT_out (by omega)]; grind
            · rfl
      have := elimB sv g (by omega) sv.tin hF ht ha
      exact ⟨this.nn hc, up this (by omega)⟩
    · have hF : ∀ k, k < liveN rs → Bnd c (12 * (row.length - (j - i)) + 5) ((sysO rs row st (outT rs row st) i j).F k) := fun k hk => by
        have h4 := live_head (mem_liveL.mp (hd_mem hk))
        obtain ⟨r, hr, _⟩ := mem_headsOf.mp h4
        have := endsB sv g (row := row) (U := outT rs row st) (by omega) h (hU i j) (A := hd rs k) (L := rs) (fun r h => h) hlen (P := []) hr (.inl rfl) (fun _ h => nomatch h) (by simp)
        rw [show sumL ([] : List (List Str × Str × List Str)) _ = 0 from rfl, Rat.add_zero] at this
        exact this
      have := elimB sv g (by omega) sv.tin hF ht ha
      exact ⟨this.nn hc, up this (by omega)⟩
  · exact up (m := 12 * row.length + 2) ((Bnd.sumN hc (m := 12 * row.length - 1 + 1) (by omega) fun i _ => Bnd.sumN hc (by omega) fun j _ => hM A i j).mono hc (by omega)) (by omega)
  · have h1 : Bnd c (12 * row.length + 2) (sumN b (fun i => sumN (row.length + 1) fun j => insT rs row A i j * outT rs row st A i j)) := (Bnd.sumN hc (m := 12 * row.length - 1 + 1) (by omega) fun i _ => Bnd.sumN hc (by omega) fun j _ => hM A i j).mono hc (by omega)
    have h2 : Bnd c (12 * row.length + 2) (sumN e fun j => insT rs row A b j * outT rs row st A b j) := (Bnd.sumN hc (m := 12 * row.length - 1) (by omega) fun j _ => hM A b j).mono hc (by omega)
    exact up (bnd_add (by omega) h1 h2) (by omega)
  · have h1 : Bnd c (12 * row.length + 2) (sumN b (fun i => sumN (row.length + 1) fun j => useX rs row st r i j)) := Bnd.sumN hc (by omega) fun i _ => Bnd.sumN hc (by omega) fun j _ => hUse r hr i j
    have h2 : Bnd c (12 * row.length + 2) (sumN e fun j => useX rs row st r b j) := (Bnd.sumN hc (by omega) fun j _ => hUse r hr b j).mono hc (by omega)
    exact up (bnd_add (by omega) h1 h2) (by omega)
/-- .. of a grammar of few rules -/
theorem numP_few {row : List Str} {b : Nat} (hb : ∀ r ∈ rs, Bt b r.part) (hfew : b * rs.length ≤ 54) (h : (liveN rs ≤ 1 ∧ row.length ≤ 5) ∨ (liveN rs ≤ 2 ∧ row.length ≤ 4) ∨ (liveN rs ≤ 3 ∧ row.length ≤ 3)) : NumP rs row st := by
  obtain ⟨c, sv, hcb⟩ := serves_of g hn hb hfew
  have hr := (rows_of g hn hb hfew).2
  have h3 : liveN rs ≤ 3 := by omega
  obtain ⟨c3, c2, c1⟩ := cBits_le h3
  refine numP_of g hn sv hcb ?_ (by omega) hr h3
  have up : ∀ x N : Nat, row.length ≤ N → cBits (liveN rs) ≤ x → 2 * (12 * N + 3) * x + 1 ≤ okB → 2 * (12 * row.length + 3) * cBits (liveN rs) + 1 ≤ okB := fun x N h1 h2 h3 =>
    Nat.le_trans (Nat.add_le_add_right (Nat.mul_le_mul (show 2 * (12 * row.length + 3) ≤ 2 * (12 * N + 3) by omega) h2) 1) h3
  rcases h with ⟨q1, q2⟩ | ⟨q1, q2⟩ | ⟨q1, q2⟩
  · exact up 2000 5 q2 (c1 q1) (by decide)
  · exact up 20000 4 q2 (c2 q1) (by decide)
  · exact up 103600 3 q2 c3 (by decide)
end
end G91

/-! Ma15: how great a law's sums around a symbol are. -/
namespace G91
open PySem PySem.Spec PyProof.Rows L2
noncomputable def arF (rs : List RuleD) (row : List Str) (st : Str) (r : RuleD) (x : List Str × Str × List Str) (i j : Nat) : Rat := sumN (row.length + 1) fun f => sumN (row.length + 1) fun l => termO (worT rs row) (outT rs row st) r x i j f l
/-- what the walk of a law's sums around leans on -/
structure NumA (rs : List RuleD) (row : List Str) (st : Str) : Prop where
  a : ∀ c0 : Rat, (c0 = 0 ∨ c0 = 1) → ∀ L : List RuleD, (∀ r ∈ L, r ∈ rs ∨ r.body = []) → L.length ≤ 200 → ∀ r ∈ rs, ∀ x ∈ splits r.body, ∀ P : List (List Str × Str × List Str), (∀ x ∈ P, x ∈ splits r.body) → P.length ≤ 200 → ∀ A i j f l, i < j → f ≤ row.length + 1 → l ≤ row.length + 1 →
    Bt okB (c0 + sumL L (fun r => aroundX (worT rs row) row.length (outT rs row st) A r i j) + sumL P (fun x => if x.2.1 = A then arF rs row st r x i j else 0) + (sumN f (fun f => sumN (row.length + 1) fun l => termO (worT rs row) (outT rs row st) r x i j f l) + sumN l fun l => termO (worT rs row) (outT rs row st) r x i j f l))
section
variable {st : Str} {rs : List RuleD} (g : GoodG st rs) (hn : ∀ r ∈ rs, 0 ≤ r.part)
include g hn
theorem numA_of {row : List Str} {c bb : Nat} (sv : Serves c rs) (hcb : c < 2 ^ bb) (hbits : 2 * (12 * row.length + 3) * bb + 1 ≤ okB) (hn5 : row.length ≤ 100) (h1n : 1 ≤ row.length) (h3 : liveN rs ≤ 3) : NumA rs row st := by
  have hb := sv.big
  have hc : 1 ≤ c := by omega
  have hO : ∀ A i j, i < j → j ≤ row.length → Bnd c (12 * (row.length - (j - i)) + 7) (outT rs row st A i j) := fun A i j h hj => outB sv g (by omega) (by omega) (d := row.length) A i j h hj (by omega)
  have up : ∀ {m : Nat} {r : Rat}, Bnd c m r → m ≤ 12 * row.length + 3 → Bt okB r := fun {m r} h hm => (Bnd.bt hc hcb (h.mono hc hm)).mono hbits
  refine ⟨fun c0 h0 L hL hLl r hr x hx P hP hPl A i j f l hij hf hl => ?_⟩
  have hT : ∀ r ∈ rs, ∀ x ∈ splits r.body, ∀ f l, l ≤ row.length → Bnd c (12 * row.length - 4) (termO (worT rs row) (outT rs row st) r x i j f l) := by
    intro r hr x hx f l hl
    have hs := splits_app hx
    have hlen : x.1.length + (x.2.2.length + 1) = r.body.length := by
      have := congrArg List.length hs
      rw [List.length_append, List.length_cons] at this
      exact this
    by_cases h2 : 2 ≤ r.body.length
    · exact (termB sv g (row := row) (by omega) hij (fun B f l h1 h2 _ => hO B f l h1 h2) hr h2 hx hl).mono hc (by omega)
    · have hb4 := body_four g hr
      have e1 : x.1 = [] := List.eq_nil_of_length_eq_zero (by omega)
      have e2 : x.2.2 = [] := List.eq_nil_of_length_eq_zero (by omega)
      unfold termO
      rw [e1, e2]
      by_cases q : f = i ∧ j = l
      · obtain ⟨rfl, rfl⟩ := q
        rw [nil_at, if_pos rfl, nil_at, if_pos rfl]
        by_cases q : f < j ∧ j ≤ row.length
        · have := (sv.part r hr).mul hc (hO r.head f j q.1 q.2)
          have e3 : (1 : Rat) * 1 * (r.part * outT rs row st r.head f j) = r.part * outT rs row st r.head f j := by grind
          rw [e3]
          exact this.mono hc (by omega)
        · omega
      · have e3 : bodyW (worT rs row) [] f i * bodyW (worT rs row) [] j l = 0 := by
          rw [nil_at, nil_at]
          by_cases q1 : f = i
          · rw [if_neg (fun z => q ⟨q1, z⟩)]; grind
          · rw [if_neg q1]; grind
        rw [e3, Rat.zero_mul]
        exact bnd0 hc _
  have hA : ∀ r ∈ rs, ∀ x ∈ splits r.body, Bnd c (12 * row.length - 4 + 2) (if x.2.1 = A then arF rs row st r x i j else 0) := fun r hr x hx => by
    split
    · unfold arF
      exact Bnd.sumN hc (m := 12 * row.length - 4 + 1) (by omega) fun f _ => Bnd.sumN hc (by omega) fun l hl => hT r hr x hx f l (by omega)
    · exact bnd0 hc _
  have b1 : Bnd c (12 * row.length - 4 + 4) c0 := by
    rcases h0 with e | e <;> rw [e]
    · exact bnd0 hc _
    · exact bnd1 hc _
  have b2 : Bnd c (12 * row.length - 4 + 4) (sumL L (fun r => aroundX (worT rs row) row.length (outT rs row st) A r i j)) := by
    refine Bnd.sumL hc (m := 12 * row.length - 4 + 3) ⟨"", [], 0⟩ (by omega) fun r hr => ?_
    rcases hL r hr with q | q
    · have h4 := body_four g q
      show Bnd c _ (sumL (splits r.body) fun x => if x.2.1 = A then arF rs row st r x i j else 0)
      exact Bnd.sumL hc (m := 12 * row.length - 4 + 2) ([], "", []) (by rw [splits_len]; omega) fun x hx => hA r q x hx
    · unfold aroundX
      rw [q]
      exact bnd0 hc _
  have b3 : Bnd c (12 * row.length - 4 + 4) (sumL P (fun x => if x.2.1 = A then arF rs row st r x i j else 0)) := by
    have : Bnd c (12 * row.length - 4 + 2 + 1) (sumL P (fun x => if x.2.1 = A then arF rs row st r x i j else 0)) := Bnd.sumL hc ([], "", []) (by omega) fun x hx => hA r hr x (hP x hx)
    exact this.mono hc (by omega)
  have b4 : Bnd c (12 * row.length - 4 + 4) (sumN f (fun f => sumN (row.length + 1) fun l => termO (worT rs row) (outT rs row st) r x i j f l) + sumN l fun l => termO (worT rs row) (outT rs row st) r x i j f l) := by
    have h1 : Bnd c (12 * row.length - 4 + 2) (sumN f (fun f => sumN (row.length + 1) fun l => termO (worT rs row) (outT rs row st) r x i j f l)) := Bnd.sumN hc (m := 12 * row.length - 4 + 1) (by omega) fun f _ => Bnd.sumN hc (by omega) fun l hl => hT r hr x hx f l (by omega)
    have h2 : Bnd c (12 * row.length - 4 + 1) (sumN l fun l => termO (worT rs row) (outT rs row st) r x i j f l) := Bnd.sumN hc (by omega) fun l' hl' => hT r hr x hx f l' (by omega)
    exact (bnd_add (by omega) h1 (h2.mono hc (by omega))).mono hc (by omega)
  refine up (bnd_add (m := 12 * row.length - 4 + 6) (by omega) (bnd_add (m := 12 * row.length - 4 + 5) (by omega) (bnd_add (by omega) b1 b2) (b3.mono hc (by omega))) (b4.mono hc (by omega))) ?_
  omega
/-- .. of a grammar of few rules -/
theorem numA_few {row : List Str} {b : Nat} (hb : ∀ r ∈ rs, Bt b r.part) (hfew : b * rs.length ≤ 54) (h1 : 1 ≤ row.length) (h : (liveN rs ≤ 1 ∧ row.length ≤ 5) ∨ (liveN rs ≤ 2 ∧ row.length ≤ 4) ∨ (liveN rs ≤ 3 ∧ row.length ≤ 3)) : NumA rs row st := by
  obtain ⟨c, sv, hcb⟩ := serves_of g hn hb hfew
  have h3 : liveN rs ≤ 3 := by omega
  obtain ⟨c3, c2, c1⟩ := cBits_le h3
  refine numA_of g hn sv hcb ?_ (by omega) h1 h3
  have up : ∀ x N : Nat, row.length ≤ N → cBits (liveN rs) ≤ x → 2 * (12 * N + 3) * x + 1 ≤ okB → 2 * (12 * row.length + 3) * cBits (liveN rs) + 1 ≤ okB := fun x N h1 h2 h3 =>
    Nat.le_trans (Nat.add_le_add_right (Nat.mul_le_mul (show 2 * (12 * row.length + 3) ≤ 2 * (12 * N + 3) by omega) h2) 1) h3
  rcases h with ⟨q1, q2⟩ | ⟨q1, q2⟩ | ⟨q1, q2⟩
  · exact up 2000 5 q2 (c1 q1) (by decide)
  · exact up 20000 4 q2 (c2 q1) (by decide)
  · exact up 103600 3 q2 c3 (by decide)
end
end G91

/-! Ma16: each place of a row has one leaf. -/
namespace G91
open PySem PySem.Spec PyProof.Rows L2
/-- over all stretches that hold a place -/
def holdS (N p : Nat) (f : Nat → Nat → Rat) : Rat := sumN N fun i => sumN N fun j => if i ≤ p ∧ p < j then f i j else 0
section
variable {N p : Nat}
theorem holdS_congr {f g : Nat → Nat → Rat} (h : ∀ i j, i ≤ p → p < j → j < N → f i j = g i j) : holdS N p f = holdS N p g := sumN_congr fun i _ => sumN_congr fun j hj => by
  by_cases q : i ≤ p ∧ p < j
  · rw [if_pos q, if_pos q, h i j q.1 q.2 hj]
  · rw [if_neg q, if_neg q]
theorem holdS_zero {f : Nat → Nat → Rat} (h : ∀ i j, i ≤ p → p < j → j < N → f i j = 0) : holdS N p f = 0 := sumN_zero fun i _ => sumN_zero fun j hj => by
  by_cases q : i ≤ p ∧ p < j
  · rw [if_pos q, h i j q.1 q.2 hj]
  · rw [if_neg q]
theorem holdS_sumL {α : Type} {f : Nat → Nat → α → Rat} (l : List α) : holdS N p (fun i j => sumL l (f i j)) = sumL l fun a => holdS N p fun i j => f i j a := by
  unfold holdS
  have e : (fun i => sumN N fun j => if i ≤ p ∧ p < j then sumL l (f i j) else 0) = fun i => sumL l fun a => sumN N fun j => if i ≤ p ∧ p < j then f i j a else 0 := by
    funext i
    rw [← sumN_sumL]
    refine sumN_congr fun j _ => ?_
    by_cases q : i ≤ p ∧ p < j
    · rw [if_pos q]; exact sumL_congr fun a _ => (if_pos q).symm
    · rw [if_neg q]; exact (sumL_zero fun a _ => if_neg q).symm
  rw [e, sumN_sumL]
theorem holdS_mul {c : Rat} {f : Nat → Nat → Rat} : holdS N p (fun i j => c * f i j) = c * holdS N p f := by
  unfold holdS
  rw [← sumN_mul]
  refine sumN_congr fun i _ => ?_
  rw [← sumN_mul]
  refine sumN_congr fun j _ => ?_
  split <;> grind
theorem holdS_sub {f g : Nat → Nat → Rat} : holdS N p (fun i j => f i j - g i j) = holdS N p f - holdS N p g := by
  have e : ∀ f g : Nat → Nat → Rat, holdS N p (fun i j => f i j + g i j) = holdS N p f + holdS N p g := fun f g => by
    unfold holdS
    rw [← sumN_add]
    refine sumN_congr fun i _ => ?_
    rw [← sumN_add]
    refine sumN_congr fun j _ => ?_
    split <;> grind
  have h := e (fun i j => f i j - g i j) g
  have h2 : holdS N p (fun i j => f i j - g i j + g i j) = holdS N p f := holdS_congr fun i j _ _ _ => by grind
  rw [h2] at h
  grind
theorem holdS_one {f : Nat → Nat → Rat} (hp : p + 1 < N) : holdS N p (fun i j => if i = p ∧ j = p + 1 then f i j else 0) = f p (p + 1) := by
  unfold holdS
  have e : (fun i => sumN N fun j => if i ≤ p ∧ p < j then (if i = p ∧ j = p + 1 then f i j else 0) else 0) = fun i => if i = p then f p (p + 1) else 0 := by
    funext i
    by_cases q : i = p
    · subst q
      rw [if_pos rfl]
      have e2 : (fun j => if i ≤ i ∧ i < j then (if i = i ∧ j = i + 1 then f i j else 0) else 0) = fun j => if j = i + 1 then f i (i + 1) else 0 := by
        funext j
        by_cases z : j = i + 1
        · subst z; rw [if_pos ⟨Nat.le_refl _, by omega⟩, if_pos ⟨rfl, rfl⟩, if_pos rfl]
        · rw [if_neg z]
          split
          · rw [if_neg (fun y => z y.2)]
          · rfl
      rw [e2, sumN_single hp]
    · rw [if_neg q]
      refine sumN_zero fun j _ => ?_
      split
      · rw [if_neg (fun y => q y.1)]
      · rfl
  rw [e, sumN_single (by omega)]
end
section
variable {st : Str} {rs : List RuleD} {row : List Str} (g : GoodG st rs) (hn : ∀ r ∈ rs, 0 ≤ r.part)
theorem dead_body {s : Str} {b : List Str} {i j : Nat} (hs : s ∈ b) (h1 : s ∈ headsOf rs) (h2 : s ∉ liveL rs) : bodyW (worT rs row) b i j = 0 := bodyW_dead (s := s) (fun x y => by
  show wor _ _ _ _ _ _ = 0
  unfold wor
  rw [if_pos h1, insT_dead h2]) hs
/-- a rule that is not live gives nothing around a live head or a word -/
theorem around_dead {A : Str} {r : RuleD} (h : liveR rs r = false) (hA : A ∈ headsOf rs → A ∈ liveL rs) {i j : Nat} : aroundX (worT rs row) row.length (outT rs row st) A r i j = 0 := by
  by_cases q : r.head ∈ liveL rs
  · have : ¬ ∀ s ∈ r.body, s ∈ headsOf rs → live rs s := fun z => by
      rw [liveR_iff.mpr ⟨mem_liveL.mp q, z⟩] at h
      cases h
    obtain ⟨s, hs⟩ := Classical.not_forall.mp this
    obtain ⟨h1, hs⟩ := Classical.not_forall.mp hs
    obtain ⟨h2, hs⟩ := Classical.not_forall.mp hs
    have hs : s ∉ liveL rs := fun z => hs (mem_liveL.mp z)
    refine sumL_zero fun x hx => ?_
    by_cases e : x.2.1 = A
    · rw [if_pos e]
      have hsp := splits_app hx
      rw [← hsp] at h1
      have hne : s ≠ x.2.1 := fun z => hs (by rw [z, e]; exact hA (by rw [← e, ← z]; exact h2))
      refine sumN_zero fun f _ => sumN_zero fun l _ => ?_
      rcases List.mem_append.mp h1 with z | z
      · rw [dead_body z h2 hs]; grind
      · rcases List.mem_cons.mp z with z | z
        · exact absurd z hne
        · rw [dead_body (b := x.2.2) z h2 hs]; grind
    · rw [if_neg e]
  · refine sumL_zero fun x hx => ?_
    split
    · refine sumN_zero fun f _ => sumN_zero fun l _ => ?_
      rw [outT_dead q]; grind
    · rfl
include g hn
theorem leaf_whole {p : Nat} {w : Str} (hp : row[p]? = some w) (hw : w ∉ headsOf rs) : sumL rs (fun r => aroundX (worT rs row) row.length (outT rs row st) w r p (p + 1)) = insT rs row st 0 row.length := by
  have hpn : p < row.length := (List.getElem?_eq_some_iff.mp hp).1
  let N := row.length + 1
  let Z : Rat := sumL (headsOf rs) fun A => holdS N p fun i j => insT rs row A i j * outT rs row st A i j
  let AR : RuleD → (List Str × Str × List Str) → Nat → Nat → Rat := fun r x f l => sumN N fun i => sumN N fun j => termO (worT rs row) (outT rs row st) r x f l i j
  -- by the rules
  have h1 : Z = sumL rs fun r => holdS N p fun i j => r.part * bodyW (worT rs row) r.body i j * outT rs row st r.head i j := by
    have e1 : ∀ A ∈ headsOf rs, (holdS N p fun i j => insT rs row A i j * outT rs row st A i j) = sumL rs fun r => if r.head = A then (holdS N p fun i j => r.part * bodyW (worT rs row) r.body i j * outT rs row st r.head i j) else 0 := fun A _ => by
      rw [holdS_congr (g := fun i j => sumL rs fun r => if r.head = A then r.part * bodyW (worT rs row) r.body i j * outT rs row st r.head i j else 0) fun i j h1 h2 h3 => by
        rw [insT_fit g hn (show i < j by omega), Rat.mul_comm, ← sumL_mul]
        refine sumL_congr fun r _ => ?_
        by_cases z : r.head = A
        · rw [if_pos z, if_pos z, z]; grind
        · rw [if_neg z, if_neg z]; grind]
      rw [holdS_sumL]
      refine sumL_congr fun r _ => ?_
      by_cases z : r.head = A
      · rw [if_pos z]; exact holdS_congr fun i j _ _ _ => by rw [if_pos z]
      · rw [if_neg z]; exact holdS_zero fun i j _ _ _ => by rw [if_neg z]
    show sumL (headsOf rs) _ = _
    rw [sumL_congr e1, sumL_swap]
    refine sumL_congr fun r hr => ?_
    have e2 : ∀ A ∈ headsOf rs, (if r.head = A then (holdS N p fun i j => r.part * bodyW (worT rs row) r.body i j * outT rs row st r.head i j) else 0) = if A = r.head then (holdS N p fun i j => r.part * bodyW (worT rs row) r.body i j * outT rs row st r.head i j) else 0 := fun A _ => by
      by_cases z : A = r.head
      · rw [if_pos z, if_pos z.symm]
      · rw [if_neg z, if_neg (fun y => z y.symm)]
    rw [sumL_congr e2, sumL_one (headsOf_nd rs) (mem_headsOf.mpr ⟨r, hr, rfl⟩) (f := fun _ => holdS N p fun i j => r.part * bodyW (worT rs row) r.body i j * outT rs row st r.head i j)]
  -- by their symbols
  have h2 : ∀ r ∈ rs, (holdS N p fun i j => r.part * bodyW (worT rs row) r.body i j * outT rs row st r.head i j) = sumL (splits r.body) fun x => holdS N p fun f l => bodyW (worT rs row) [x.2.1] f l * AR r x f l := fun r hr => by
    have e1 : (holdS N p fun i j => r.part * bodyW (worT rs row) r.body i j * outT rs row st r.head i j) = sumN N fun i => sumN N fun j => sumL (splits r.body) fun x => sumN N fun f => sumN N fun l => if f ≤ p ∧ p < l then bodyW (worT rs row) [x.2.1] f l * termO (worT rs row) (outT rs row st) r x f l i j else 0 := by
      refine sumN_congr fun i hi => sumN_congr fun j hj => ?_
      by_cases q : i ≤ p ∧ p < j
      · rw [if_pos q]
        show r.part * bodyW (worT rs row) r.body i j * outT rs row st r.head i j = _
        rw [bodyW_cover (N := N) hj q.2 q.1]
        rw [show ∀ s : Rat, r.part * s * outT rs row st r.head i j = (r.part * outT rs row st r.head i j) * s from fun s => by grind, ← sumL_mul]
        refine sumL_congr fun x _ => ?_
        rw [← sumN_mul]
        refine sumN_congr fun f _ => ?_
        rw [← sumN_mul]
        refine sumN_congr fun l _ => ?_
        by_cases y : f ≤ p ∧ p < l
        · rw [if_pos y, if_pos y]
          unfold termO
          grind
        · rw [if_neg y, if_neg y]; grind
      · rw [if_neg q]
        refine (sumL_zero fun x _ => sumN_zero fun f _ => sumN_zero fun l _ => ?_).symm
        by_cases y : f ≤ p ∧ p < l
        · rw [if_pos y]
          unfold termO
          by_cases z : i ≤ p
          · rw [bodyW_short (b := x.2.2) (i := l) (j := j) (by omega)]; grind
          · rw [bodyW_short (b := x.1) (i := i) (j := f) (by omega)]; grind
        · rw [if_neg y]
    rw [e1]
    have e2 : (fun i => sumN N fun j => sumL (splits r.body) fun x => sumN N fun f => sumN N fun l => if f ≤ p ∧ p < l then bodyW (worT rs row) [x.2.1] f l * termO (worT rs row) (outT rs row st) r x f l i j else 0) = fun i => sumL (splits r.body) fun x => sumN N fun j => sumN N fun f => sumN N fun l => if f ≤ p ∧ p < l then bodyW (worT rs row) [x.2.1] f l * termO (worT rs row) (outT rs row st) r x f l i j else 0 := by
      funext i
      rw [sumN_sumL]
    rw [e2, sumN_sumL]
    refine sumL_congr fun x _ => ?_
    show _ = sumN N fun f => sumN N fun l => if f ≤ p ∧ p < l then bodyW (worT rs row) [x.2.1] f l * AR r x f l else 0
    have e3 : (fun i => sumN N fun j => sumN N fun f => sumN N fun l => if f ≤ p ∧ p < l then bodyW (worT rs row) [x.2.1] f l * termO (worT rs row) (outT rs row st) r x f l i j else 0) = fun i => sumN N fun f => sumN N fun l => sumN N fun j => if f ≤ p ∧ p < l then bodyW (worT rs row) [x.2.1] f l * termO (worT rs row) (outT rs row st) r x f l i j else 0 := by
      funext i
      rw [sumN_swap]
      refine sumN_congr fun f _ => ?_
      rw [sumN_swap]
    rw [e3, sumN_swap]
    refine sumN_congr fun f _ => ?_
    rw [sumN_swap]
    refine sumN_congr fun l _ => ?_
    by_cases y : f ≤ p ∧ p < l
    · rw [if_pos y]
      show _ = _ * (sumN N fun i => sumN N fun j => _)
      rw [← sumN_mul]
      refine sumN_congr fun i _ => ?_
      rw [← sumN_mul]
      refine sumN_congr fun j _ => ?_
      rw [if_pos y]
    · rw [if_neg y]
      exact sumN_zero fun i _ => sumN_zero fun j _ => if_neg y
  -- heads and the word
  have h3 : ∀ r ∈ rs, ∀ x ∈ splits r.body, (holdS N p fun f l => bodyW (worT rs row) [x.2.1] f l * AR r x f l) = (sumL (headsOf rs) fun A => if A = x.2.1 then holdS N p fun f l => insT rs row A f l * AR r x f l else 0) + if x.2.1 = w then AR r x p (p + 1) else 0 := fun r hr x hx => by
    by_cases q : x.2.1 ∈ headsOf rs
    · rw [sumL_one (headsOf_nd rs) q (f := fun A => holdS N p fun f l => insT rs row A f l * AR r x f l), if_neg (fun z => hw (by rw [← z]; exact q)), Rat.add_zero]
      refine holdS_congr fun f l h1 h2 _ => ?_
      rw [bodyW_one, if_pos (by omega)]
      show wor _ _ _ _ _ _ * _ = _
      unfold wor
      rw [if_pos q]
    · rw [sumL_zero fun A hA => if_neg fun z => q (by rw [← z]; exact hA), Rat.zero_add]
      by_cases z : x.2.1 = w
      · rw [if_pos z, ← holdS_one (N := N) (p := p) (f := AR r x) (by show p + 1 < row.length + 1; omega)]
        refine holdS_congr fun f l h1 h2 _ => ?_
        rw [bodyW_one, if_pos (by omega)]
        show wor _ _ _ _ _ _ * _ = _
        unfold wor
        rw [if_neg q]
        by_cases y : f = p ∧ l = p + 1
        · rw [if_pos y, if_pos ⟨by omega, by rw [y.1, hp, z]⟩]; grind
        · rw [if_neg y]
          rw [if_neg (fun u => y ⟨by omega, by omega⟩)]; grind
      · rw [if_neg z]
        refine holdS_zero fun f l h1 h2 _ => ?_
        rw [bodyW_one, if_pos (by omega)]
        show wor _ _ _ _ _ _ * _ = _
        unfold wor
        rw [if_neg q, if_neg, Rat.zero_mul]
        rintro ⟨u1, u2⟩
        have : f = p := by omega
        rw [this, hp] at u2
        exact z (Option.some.inj u2).symm
  have h4 : Z = (sumL (headsOf rs) fun A => holdS N p fun f l => insT rs row A f l * sumL rs fun r => aroundX (worT rs row) row.length (outT rs row st) A r f l) + sumL rs fun r => aroundX (worT rs row) row.length (outT rs row st) w r p (p + 1) := by
    rw [h1, sumL_congr h2, sumL_congr fun r hr => sumL_congr (h3 r hr)]
    rw [sumL_congr fun r _ => sumL_add (f := fun x => sumL (headsOf rs) fun A => if A = x.2.1 then holdS N p fun f l => insT rs row A f l * AR r x f l else 0) (g := fun x => if x.2.1 = w then AR r x p (p + 1) else 0) (splits r.body), sumL_add]
    congr 1
    rw [sumL_congr fun r _ => sumL_swap (f := fun x A => if A = x.2.1 then holdS N p fun f l => insT rs row A f l * AR r x f l else 0), sumL_swap]
    refine sumL_congr fun A _ => ?_
    have e1 : (holdS N p fun f l => insT rs row A f l * sumL rs fun r => aroundX (worT rs row) row.length (outT rs row st) A r f l) = sumL rs fun r => sumL (splits r.body) fun x => holdS N p fun f l => if A = x.2.1 then insT rs row A f l * AR r x f l else 0 := by
      rw [← sumL_congr fun r _ => holdS_sumL (N := N) (p := p) (f := fun f l x => if A = x.2.1 then insT rs row A f l * AR r x f l else 0) (splits r.body), ← holdS_sumL]
      refine holdS_congr fun f l _ _ _ => ?_
      rw [← sumL_mul]
      refine sumL_congr fun r _ => ?_
      unfold aroundX
      rw [← sumL_mul]
      refine sumL_congr fun x _ => ?_
      by_cases z : x.2.1 = A
      · rw [if_pos z, if_pos z.symm]; rfl
      · rw [if_neg z, if_neg (fun y => z y.symm)]; grind
    rw [e1]
    refine sumL_congr fun r _ => sumL_congr fun x _ => ?_
    by_cases z : A = x.2.1
    · rw [if_pos z]; exact holdS_congr fun f l _ _ _ => (if_pos z).symm
    · rw [if_neg z]; exact (holdS_zero fun f l _ _ _ => if_neg z).symm
  have h5 : (sumL (headsOf rs) fun A => holdS N p fun f l => insT rs row A f l * sumL rs fun r => aroundX (worT rs row) row.length (outT rs row st) A r f l) = Z - insT rs row st 0 row.length := by
    have e1 : ∀ A ∈ headsOf rs, (holdS N p fun f l => insT rs row A f l * sumL rs fun r => aroundX (worT rs row) row.length (outT rs row st) A r f l) = (holdS N p fun i j => insT rs row A i j * outT rs row st A i j) - if A = st then insT rs row A 0 row.length else 0 := fun A _ => by
      have e2 : (holdS N p fun i j => insT rs row A i j * startO st row.length A i j) = if A = st then insT rs row A 0 row.length else 0 := by
        by_cases z : A = st
        · rw [if_pos z]
          have e3 : (fun i => sumN N fun j => if i ≤ p ∧ p < j then insT rs row A i j * startO st row.length A i j else 0) = fun i => if i = 0 then insT rs row A 0 row.length else 0 := by
            funext i
            by_cases y : i = 0
            · subst y
              rw [if_pos rfl]
              have e4 : (fun j => if 0 ≤ p ∧ p < j then insT rs row A 0 j * startO st row.length A 0 j else 0) = fun j => if j = row.length then insT rs row A 0 row.length else 0 := by
                funext j
                unfold startO
                by_cases u : j = row.length
                · subst u; rw [if_pos ⟨Nat.zero_le _, hpn⟩, if_pos ⟨z, rfl, rfl⟩, if_pos rfl]; grind
                · rw [if_neg u]
                  by_cases v : 0 ≤ p ∧ p < j
                  · rw [if_pos v, if_neg (fun y => u y.2.2)]; grind
                  · rw [if_neg v]
              rw [e4, sumN_single (by show row.length < row.length + 1; omega)]
            · rw [if_neg y]
              refine sumN_zero fun j _ => ?_
              unfold startO
              by_cases v : i ≤ p ∧ p < j
              · rw [if_pos v, if_neg (fun u => y u.2.1)]; grind
              · rw [if_neg v]
          unfold holdS
          rw [e3, sumN_single (by show 0 < row.length + 1; omega)]
        · rw [if_neg z]
          refine holdS_zero fun i j _ _ _ => ?_
          unfold startO
          rw [if_neg (fun y => z y.1)]; grind
      rw [← e2, ← holdS_sub]
      refine holdS_congr fun i j h1 h2 h3 => ?_
      by_cases q : A ∈ liveL rs
      · have h3 : j < row.length + 1 := h3
        rw [outT_fit g hn q (show i < j by omega) (show j ≤ row.length by omega)]
        rw [sumL_congr (f := fun r => if liveR rs r then aroundX (worT rs row) row.length (outT rs row st) A r i j else 0) (g := fun r => aroundX (worT rs row) row.length (outT rs row st) A r i j) fun r hr => by
          cases y : liveR rs r with
          | true => rfl
          | false => rw [if_neg Bool.false_ne_true, around_dead y fun _ => q]]
        grind
      · rw [insT_dead q]; grind
    rw [sumL_congr e1, sumL_sub]
    congr 1
    exact sumL_one (headsOf_nd rs) g.start (f := fun A => insT rs row A 0 row.length)
  rw [h5] at h4
  grind
end
end G91

/-! Ma17: how often symbols stand. -/
namespace G91
open PySem PySem.Spec PyProof.Rows L2
/-- over all stretches -/
def allS (N : Nat) (f : Nat → Nat → Rat) : Rat := sumN N fun i => sumN N fun j => f i j
section
variable {N : Nat}
theorem allS_congr {f g : Nat → Nat → Rat} (h : ∀ i j, i < N → j < N → f i j = g i j) : allS N f = allS N g := sumN_congr fun i hi => sumN_congr fun j hj => h i j hi hj
theorem allS_zero {f : Nat → Nat → Rat} (h : ∀ i j, i < N → j < N → f i j = 0) : allS N f = 0 := sumN_zero fun i hi => sumN_zero fun j hj => h i j hi hj
theorem allS_mul {c : Rat} {f : Nat → Nat → Rat} : allS N (fun i j => c * f i j) = c * allS N f := by
  unfold allS
  rw [← sumN_mul]
  refine sumN_congr fun i _ => ?_
  rw [← sumN_mul]
theorem allS_add {f g : Nat → Nat → Rat} : allS N (fun i j => f i j + g i j) = allS N f + allS N g := by
  unfold allS
  rw [← sumN_add]
  refine sumN_congr fun i _ => ?_
  rw [← sumN_add]
theorem allS_sumL {α : Type} {f : Nat → Nat → α → Rat} (l : List α) : allS N (fun i j => sumL l (f i j)) = sumL l fun a => allS N fun i j => f i j a := by
  unfold allS
  rw [← sumN_sumL]
  refine sumN_congr fun i _ => ?_
  rw [sumN_sumL]
theorem allS_swap {f : Nat → Nat → Nat → Nat → Rat} : allS N (fun i j => allS N (f i j)) = allS N fun a b => allS N fun i j => f i j a b := by
  unfold allS
  have e3 : (fun i => sumN N fun j => sumN N fun a => sumN N fun b => f i j a b) = fun i => sumN N fun a => sumN N fun b => sumN N fun j => f i j a b := by
    funext i
    rw [sumN_swap]
    refine sumN_congr fun a _ => ?_
    rw [sumN_swap]
  rw [e3, sumN_swap]
  refine sumN_congr fun a _ => ?_
  rw [sumN_swap]
end
theorem sumL_splits {s : Str} {c : Rat} : ∀ b : List Str, sumL (splits b) (fun x => if x.2.1 = s then c else 0) = ((b.count s : Nat) : Rat) * c
  | [] => by
    show (0 : Rat) = _
    simp
  | t :: b => by
    show (if t = s then c else 0) + sumL ((splits b).map fun x => (t :: x.1, x.2.1, x.2.2)) _ = _
    rw [sumL_map]
    show _ + sumL (splits b) (fun x => if x.2.1 = s then c else 0) = _
    rw [sumL_splits b, List.count_cons]
    by_cases h : t = s
    · subst h
      rw [if_pos rfl, if_pos (by simp)]
      push_cast
      grind
    · rw [if_neg h, if_neg (by simpa using h)]
      push_cast
      grind
section
variable {st : Str} {rs : List RuleD} {row : List Str}
theorem stands_sum {s : Str} : sumL rs (fun r => ((r.body.count s : Nat) : Rat) * allS (row.length + 1) (useX rs row st r)) = allS (row.length + 1) fun i j => bodyW (worT rs row) [s] i j * sumL rs fun r => aroundX (worT rs row) row.length (outT rs row st) s r i j := by
  have e1 : ∀ r ∈ rs, ((r.body.count s : Nat) : Rat) * allS (row.length + 1) (useX rs row st r) = allS (row.length + 1) fun i j => bodyW (worT rs row) [s] i j * aroundX (worT rs row) row.length (outT rs row st) s r i j := fun r _ => by
    rw [← sumL_splits]
    have e2 : ∀ x ∈ splits r.body, (if x.2.1 = s then allS (row.length + 1) (useX rs row st r) else 0) = allS (row.length + 1) fun i j => bodyW (worT rs row) [s] i j * if x.2.1 = s then allS (row.length + 1) fun f l => termO (worT rs row) (outT rs row st) r x i j f l else 0 := fun x hx => by
      by_cases z : x.2.1 = s
      · rw [if_pos z]
        have hs := splits_app hx
        rw [allS_congr (g := fun f l => allS (row.length + 1) fun i j => bodyW (worT rs row) [s] i j * termO (worT rs row) (outT rs row st) r x i j f l) fun f l hf hl => by
          unfold useX
          rw [← hs, bodyW_split (N := row.length + 1) hl, z]
          show _ * (allS (row.length + 1) fun i j => _) * _ = _
          rw [show ∀ a b c : Rat, a * b * c = (a * c) * b from fun a b c => by grind, ← allS_mul]
          refine allS_congr fun i j _ _ => ?_
          unfold termO
          grind]
        rw [allS_swap]
        refine allS_congr fun i j _ _ => ?_
        rw [if_pos z, allS_mul]
      · rw [if_neg z]
        refine (allS_zero fun i j _ _ => ?_).symm
        rw [if_neg z]; grind
    rw [sumL_congr e2, ← allS_sumL]
    refine allS_congr fun i j _ _ => ?_
    rw [sumL_mul]
    rfl
  rw [sumL_congr e1, ← allS_sumL]
  refine allS_congr fun i j _ _ => ?_
  rw [sumL_mul]
variable (g : GoodG st rs) (hn : ∀ r ∈ rs, 0 ≤ r.part)
include g hn
theorem uses_head {A : Str} : sumL rs (fun r => if r.head = A then allS (row.length + 1) (useX rs row st r) else 0) = allS (row.length + 1) fun i j => insT rs row A i j * outT rs row st A i j := by
  have e1 : ∀ r ∈ rs, (if r.head = A then allS (row.length + 1) (useX rs row st r) else 0) = allS (row.length + 1) fun i j => if r.head = A then useX rs row st r i j else 0 := fun r _ => by
    by_cases z : r.head = A
    · rw [if_pos z]; exact allS_congr fun i j _ _ => (if_pos z).symm
    · rw [if_neg z]; exact (allS_zero fun i j _ _ => if_neg z).symm
  rw [sumL_congr e1, ← allS_sumL]
  refine allS_congr fun i j _ _ => ?_
  by_cases h : i < j
  · rw [insT_fit g hn h, Rat.mul_comm, ← sumL_mul]
    refine sumL_congr fun r _ => ?_
    by_cases z : r.head = A
    · rw [if_pos z, if_pos z]
      unfold useX
      rw [z]
      show outT rs row st A i j * bodyW (worT rs row) r.body i j * r.part = outT rs row st A i j * (r.part * bodyW (worT rs row) r.body i j)
      grind
    · rw [if_neg z, if_neg z]; grind
  · rw [insT_out h, Rat.zero_mul]
    refine sumL_zero fun r _ => ?_
    split
    · unfold useX
      rw [outT_out (by omega)]; grind
    · rfl
theorem stands_head {A : Str} (hA : A ∈ headsOf rs) (h1 : 1 ≤ row.length) : sumL rs (fun r => ((r.body.count A : Nat) : Rat) * allS (row.length + 1) (useX rs row st r)) + (if A = st then insT rs row st 0 row.length else 0) = allS (row.length + 1) fun i j => insT rs row A i j * outT rs row st A i j := by
  rw [stands_sum]
  have e2 : (if A = st then insT rs row st 0 row.length else 0) = allS (row.length + 1) fun i j => insT rs row A i j * startO st row.length A i j := by
    by_cases z : A = st
    · rw [if_pos z]
      have e3 : (fun i => sumN (row.length + 1) fun j => insT rs row A i j * startO st row.length A i j) = fun i => if i = 0 then insT rs row st 0 row.length else 0 := by
        funext i
        by_cases y : i = 0
        · subst y
          rw [if_pos rfl]
          have e4 : (fun j => insT rs row A 0 j * startO st row.length A 0 j) = fun j => if j = row.length then insT rs row st 0 row.length else 0 := by
            funext j
            unfold startO
            by_cases u : j = row.length
            · subst u; rw [if_pos ⟨z, rfl, rfl⟩, if_pos rfl, z]; grind
            · rw [if_neg u, if_neg (fun y => u y.2.2)]; grind
          rw [e4, sumN_single (by omega)]
        · rw [if_neg y]
          refine sumN_zero fun j _ => ?_
          unfold startO
          rw [if_neg (fun u => y u.2.1)]; grind
      unfold allS
      rw [e3, sumN_single (by omega)]
    · rw [if_neg z]
      refine (allS_zero fun i j _ _ => ?_).symm
      unfold startO
      rw [if_neg (fun y => z y.1)]; grind
  rw [e2, ← allS_add]
  refine allS_congr fun i j _ hj => ?_
  by_cases h : i < j
  · rw [bodyW_one, if_pos h]
    have ew : worT rs row A i j = insT rs row A i j := if_pos hA
    rw [ew]
    by_cases q : A ∈ liveL rs
    · rw [outT_fit g hn q h (show j ≤ row.length by omega)]
      rw [sumL_congr (f := fun r => if liveR rs r then aroundX (worT rs row) row.length (outT rs row st) A r i j else 0) (g := fun r => aroundX (worT rs row) row.length (outT rs row st) A r i j) fun r hr => by
        cases y : liveR rs r with
        | true => rfl
        | false => rw [if_neg Bool.false_ne_true, around_dead y fun _ => q]]
      grind
    · rw [insT_dead q]; grind
  · rw [bodyW_one, if_neg h, insT_out h]; grind
theorem stands_word {w : Str} (hw : w ∉ headsOf rs) : sumL rs (fun r => ((r.body.count w : Nat) : Rat) * allS (row.length + 1) (useX rs row st r)) = ((row.count w : Nat) : Rat) * insT rs row st 0 row.length := by
  rw [stands_sum]
  have e1 : ∀ i, i < row.length + 1 → (sumN (row.length + 1) fun j => bodyW (worT rs row) [w] i j * sumL rs fun r => aroundX (worT rs row) row.length (outT rs row st) w r i j) = if row[i]? = some w then insT rs row st 0 row.length else 0 := fun i hi => by
    by_cases z : row[i]? = some w
    · rw [if_pos z]
      have hil := (List.getElem?_eq_some_iff.mp z).1
      have e2 : (fun j => bodyW (worT rs row) [w] i j * sumL rs fun r => aroundX (worT rs row) row.length (outT rs row st) w r i j) = fun j => if j = i + 1 then insT rs row st 0 row.length else 0 := by
        funext j
        by_cases y : j = i + 1
        · subst y
          rw [if_pos rfl, leaf_whole g hn z hw, bodyW_one, if_pos (by omega)]
          have ew : worT rs row w i (i + 1) = 1 := by
            show wor _ _ _ _ _ _ = _
            unfold wor
            rw [if_neg hw, if_pos ⟨rfl, z⟩]
          rw [ew]; grind
        · rw [if_neg y, bodyW_one]
          have ew : worT rs row w i j = 0 := by
            show wor _ _ _ _ _ _ = _
            unfold wor
            rw [if_neg hw, if_neg (fun u => y u.1)]
          rw [ew]
          split <;> grind
      rw [e2, sumN_single (by omega)]
    · rw [if_neg z]
      refine sumN_zero fun j _ => ?_
      rw [bodyW_one]
      have ew : worT rs row w i j = 0 := by
        show wor _ _ _ _ _ _ = _
        unfold wor
        rw [if_neg hw, if_neg (fun u => z u.2)]
      rw [ew]
      split <;> grind
  show sumN (row.length + 1) (fun i => sumN (row.length + 1) fun j => _) = _
  rw [sumN_congr e1]
  have e5 : ∀ (l : List Str) (c : Rat), sumN (l.length + 1) (fun i => if l[i]? = some w then c else 0) = ((l.count w : Nat) : Rat) * c := by
    intro l c
    show sumN l.length _ + (if l[l.length]? = some w then c else 0) = _
    rw [if_neg (by simp), Rat.add_zero]
    induction l using snoc_ind with
    | h0 => show (0 : Rat) = _; simp
    | hs l a ih =>
      rw [List.length_append, List.length_singleton, List.count_append]
      show sumN l.length _ + (if (l ++ [a])[l.length]? = some w then c else 0) = _
      rw [sumN_congr (g := fun i => if l[i]? = some w then c else 0) fun i hi => by rw [List.getElem?_append_left hi], ih]
      by_cases h : a = w
      · subst h
        rw [if_pos (by simp)]
        simp
        push_cast
        grind
      · rw [if_neg (by simp [h])]
        simp [h]
        exact Rat.add_zero _
  exact e5 row _
end
/-- every place has one of the words -/
theorem count_all {ws : List Str} (hnd : ws.Nodup) : ∀ {row : List Str}, (∀ s ∈ row, s ∈ ws) → sumL ws (fun w => ((row.count w : Nat) : Rat)) = ((row.length : Nat) : Rat)
  | [], _ => sumL_zero fun w _ => by simp
  | s :: row, h => by
    have ih := count_all hnd (row := row) fun x hx => h x (List.mem_cons_of_mem _ hx)
    have e : ∀ w ∈ ws, (((s :: row).count w : Nat) : Rat) = ((row.count w : Nat) : Rat) + if w = s then 1 else 0 := fun w _ => by
      rw [List.count_cons]
      by_cases z : w = s
      · subst z
        rw [if_pos rfl, if_pos (by simp)]
        push_cast; rfl
      · rw [if_neg z, if_neg (by simpa using fun y => z y.symm)]
        push_cast; grind
    rw [sumL_congr e, sumL_add, ih, sumL_one hnd (h s List.mem_cons_self) (f := fun _ => 1), List.length_cons]
    push_cast; rfl
end G91

/-! Ma18: how great the sums of uses are. -/
namespace G91
open PySem PySem.Spec PyProof.Rows L2
theorem bnd_few {c m : Nat} (hc : 200 ≤ c) (h : m ≤ 9) : Bnd c 1 ((m : Nat) : Rat) := by
  refine ⟨m * c, ?_, ?_⟩
  · have p : (0 : Rat) < ((((c ^ 1 : Nat) : Int)) : Rat) := rat_pos (by rw [Nat.pow_one]; omega)
    rw [Nat.pow_one] at p ⊢
    push_cast at *
    grind
  · rw [show 2 * 1 = 1 + 1 from rfl, Nat.pow_succ, Nat.pow_one]
    exact Nat.mul_le_mul_right _ (by omega)
structure NumU (rs : List RuleD) (row : List Str) (st : Str) : Prop where
  s1 : ∀ L : List RuleD, (∀ r ∈ L, r ∈ rs) → L.length ≤ 200 → ∀ d : RuleD → Nat, (∀ r, d r ≤ 9) → Bt okB (sumL L fun r => ((d r : Nat) : Rat) * allS (row.length + 1) (useX rs row st r))
  s2 : ∀ ws : List Str, ws.length ≤ 200 → Bt okB (sumL ws fun w => sumL rs fun r => (((r.body.count w : Nat)) : Rat) * allS (row.length + 1) (useX rs row st r))
  s3 : ∀ A, ∀ l : List (Nat × Nat), l.length ≤ 200 → Bt okB (sumL l fun p => insT rs row A p.1 p.2 * outT rs row st A p.1 p.2)
section
variable {st : Str} {rs : List RuleD} (g : GoodG st rs) (hn : ∀ r ∈ rs, 0 ≤ r.part)
include g hn
theorem numU_of {row : List Str} {c bb : Nat} (sv : Serves c rs) (hcb : c < 2 ^ bb) (hbits : 2 * (12 * row.length + 6) * bb + 1 ≤ okB) (hn5 : row.length ≤ 100) (h3 : liveN rs ≤ 3) : NumU rs row st := by
  have hb := sv.big
  have hc : 1 ≤ c := by omega
  have hlen : rs.length ≤ 200 := by have := g.few2; omega
  have hO : ∀ A i j, i < j → j ≤ row.length → Bnd c (12 * (row.length - (j - i)) + 7) (outT rs row st A i j) := fun A i j h hj => outB sv g (by omega) (by omega) (d := row.length) A i j h hj (by omega)
  have hI : ∀ A a e, a < e → e - a ≤ row.length → Bnd c (10 * (e - a) - 6) (insT rs row A a e) := fun A a e h1 h2 => insB sv g (by omega) hlen (d := row.length) (by omega) A a e h1 h2
  have up : ∀ {m : Nat} {r : Rat}, Bnd c m r → m ≤ 12 * row.length + 6 → Bt okB r := fun {m r} h hm => (Bnd.bt hc hcb (h.mono hc hm)).mono hbits
  have hM : ∀ A i j, Bnd c (12 * row.length - 1) (insT rs row A i j * outT rs row st A i j) := fun A i j => by
    by_cases q : i < j ∧ j ≤ row.length
    · exact ((hI A i j q.1 (by omega)).mul hc (hO A i j q.1 q.2)).mono hc (by omega)
    · rw [outT_out q, Rat.mul_zero]; exact bnd0 hc _
  have hUse : ∀ r ∈ rs, ∀ i j, Bnd c (12 * row.length) (useX rs row st r i j) := fun r hr i j => by
    unfold useX
    have h4 := body_four g hr
    by_cases q : i < j ∧ j ≤ row.length
    · have p2 := (bodyZ sv g (row := row) (b := r.body) (i := i) (j := j) (D := row.length) (by omega) (by omega)).1 (by intro z; rw [z] at h4; simp at h4)
      refine (((hO r.head i j q.1 q.2).mul hc p2).mul hc (sv.part r hr)).mono hc (by omega)
    · rw [outT_out q, Rat.zero_mul, Rat.zero_mul]; exact bnd0 hc _
  have hAll : ∀ r ∈ rs, Bnd c (12 * row.length + 2) (allS (row.length + 1) (useX rs row st r)) := fun r hr => by
    unfold allS
    exact Bnd.sumN hc (m := 12 * row.length + 1) (by omega) fun i _ => Bnd.sumN hc (by omega) fun j _ => hUse r hr i j
  have hS : ∀ L : List RuleD, (∀ r ∈ L, r ∈ rs) → L.length ≤ 200 → ∀ d : RuleD → Nat, (∀ r ∈ rs, d r ≤ 9) → Bnd c (12 * row.length + 4) (sumL L fun r => ((d r : Nat) : Rat) * allS (row.length + 1) (useX rs row st r)) := fun L hL hLl d hd => by
    refine (Bnd.sumL hc (m := 12 * row.length + 3) ⟨"", [], 0⟩ (by omega) fun r hr => ?_)
    exact ((bnd_few hb (hd r (hL r hr))).mul hc (hAll r (hL r hr))).mono hc (by omega)
  refine ⟨fun L hL hLl d hd => up (hS L hL hLl d fun r _ => hd r) (by omega), fun ws hw => ?_, fun A l hl => ?_⟩
  · have : Bnd c (12 * row.length + 4 + 1) (sumL ws fun w => sumL rs fun r => (((r.body.count w : Nat)) : Rat) * allS (row.length + 1) (useX rs row st r)) := Bnd.sumL hc "" (by omega) fun w _ => hS rs (fun r h => h) hlen (fun r => r.body.count w) fun r hr => Nat.le_trans List.count_le_length (by have := body_four g hr; omega)
    exact up this (by omega)
  · have : Bnd c (12 * row.length - 1 + 1) (sumL l fun p => insT rs row A p.1 p.2 * outT rs row st A p.1 p.2) := Bnd.sumL hc (0, 0) (by omega) fun p _ => hM A p.1 p.2
    exact up this (by omega)
/-- .. of a grammar of few rules -/
theorem numU_few {row : List Str} {b : Nat} (hb : ∀ r ∈ rs, Bt b r.part) (hfew : b * rs.length ≤ 54) (h : (liveN rs ≤ 1 ∧ row.length ≤ 5) ∨ (liveN rs ≤ 2 ∧ row.length ≤ 4) ∨ (liveN rs ≤ 3 ∧ row.length ≤ 3)) : NumU rs row st := by
  obtain ⟨c, sv, hcb⟩ := serves_of g hn hb hfew
  have h3 : liveN rs ≤ 3 := by omega
  obtain ⟨c3, c2, c1⟩ := cBits_le h3
  refine numU_of g hn sv hcb ?_ (by omega) h3
  have up : ∀ x N : Nat, row.length ≤ N → cBits (liveN rs) ≤ x → 2 * (12 * N + 6) * x + 1 ≤ okB → 2 * (12 * row.length + 6) * cBits (liveN rs) + 1 ≤ okB := fun x N h1 h2 h3 =>
    Nat.le_trans (Nat.add_le_add_right (Nat.mul_le_mul (show 2 * (12 * row.length + 6) ≤ 2 * (12 * N + 6) by omega) h2) 1) h3
  rcases h with ⟨q1, q2⟩ | ⟨q1, q2⟩ | ⟨q1, q2⟩
  · exact up 2000 5 q2 (c1 q1) (by decide)
  · exact up 20000 4 q2 (c2 q1) (by decide)
  · exact up 103600 3 q2 c3 (by decide)
end
end G91

/-! Ma19: two heads that lead to one another. -/
namespace G91
open PySem PySem.Spec PyProof.Rows L2
def ringR (a b c d : Str) (p q r s : Rat) : List RuleD := [⟨a, [b], p⟩, ⟨a, [c], q⟩, ⟨b, [a], r⟩, ⟨b, [d], s⟩]
section
variable {a b c d : Str} {p q r s : Rat} {row : List Str} (hab : a ≠ b) (hca : c ≠ a) (hcb : c ≠ b) (hda : d ≠ a) (hdb : d ≠ b)
include hab hca hcb hda hdb
theorem ring_heads : headsOf (ringR a b c d p q r s) = [a, b] := by
  unfold ringR headsOf
  simp [addHead, hab, Ne.symm hab]
theorem ring_eq (g : GoodG a (ringR a b c d p q r s)) (hn : ∀ x ∈ ringR a b c d p q r s, 0 ≤ x.part) {i j : Nat} (h : i < j) :
    insT (ringR a b c d p q r s) row a i j = p * insT (ringR a b c d p q r s) row b i j + (if j = i + 1 ∧ row[i]? = some c then q else 0) ∧
    insT (ringR a b c d p q r s) row b i j = r * insT (ringR a b c d p q r s) row a i j + (if j = i + 1 ∧ row[i]? = some d then s else 0) := by
  have hh := ring_heads (p := p) (q := q) (r := r) (s := s) hab hca hcb hda hdb
  have e1 := insT_fit g hn (row := row) (A := a) h
  have e2 := insT_fit g hn (row := row) (A := b) h
  rw [hh] at e1 e2
  have wa : wor [a, b] row (insT (ringR a b c d p q r s) row) a i j = insT (ringR a b c d p q r s) row a i j := by unfold wor; rw [if_pos (by simp)]
  have wb : wor [a, b] row (insT (ringR a b c d p q r s) row) b i j = insT (ringR a b c d p q r s) row b i j := by unfold wor; rw [if_pos (by simp)]
  have wc : wor [a, b] row (insT (ringR a b c d p q r s) row) c i j = if j = i + 1 ∧ row[i]? = some c then 1 else 0 := by unfold wor; rw [if_neg (by simp [hca, hcb])]
  have wd : wor [a, b] row (insT (ringR a b c d p q r s) row) d i j = if j = i + 1 ∧ row[i]? = some d then 1 else 0 := by unfold wor; rw [if_neg (by simp [hda, hdb])]
  have s1 : ∀ f : RuleD → Rat, sumL (ringR a b c d p q r s) f = f ⟨a, [b], p⟩ + (f ⟨a, [c], q⟩ + (f ⟨b, [a], r⟩ + (f ⟨b, [d], s⟩ + 0))) := fun f => rfl
  rw [s1] at e1 e2
  simp only [bodyW_one, if_pos h, wa, wb, wc, wd, if_pos, if_neg hab, if_neg (Ne.symm hab), Rat.add_zero, Rat.zero_add] at e1 e2
  refine ⟨?_, ?_⟩
  · rw [e1]
    congr 1
    split <;> grind
  · rw [e2]
    congr 1
    split <;> grind
end
theorem near_eq {x y p r e f : Rat} (h1 : x = p * y + e) (h2 : y = r * x + f) (h : 1 - p * r ≠ 0) : x = (e + p * f) / (1 - p * r) := by
  have : x * (1 - p * r) = e + p * f := by grind
  rw [← this]
  grind
theorem ring_one {p r : Rat} (hp : p < 1) (hr : r ≤ 1) (h0 : 0 ≤ p) : p * r < 1 := by
  have h2 : p * r ≤ p * 1 := Rat.mul_le_mul_of_nonneg_left hr h0
  grind
section
variable {a b c d : Str} {p q r s : Rat}
theorem ring_good (ha : isSym a = true) (hb : isSym b = true) (hc : isSym c = true) (hd : isSym d = true) (hab : a ≠ b) (hca : c ≠ a) (hcb : c ≠ b) (hda : d ≠ a) (hdb : d ≠ b) (hp : p ≠ 0) (hq : q ≠ 0) (hr : r ≠ 0) (hs : s ≠ 0) (h1 : p + q = 1) (h2 : r + s = 1) : GoodG a (ringR a b c d p q r s) := by
  have hh := ring_heads (p := p) (q := q) (r := r) (s := s) hab hca hcb hda hdb
  refine ⟨ha, by simp [ringR], by simp [ringR], ?_, ?_, by rw [hh]; simp, ?_⟩
  · intro x hx
    unfold ringR at hx
    simp only [List.mem_cons, List.not_mem_nil, or_false] at hx
    unfold goodRule
    rcases hx with rfl | rfl | rfl | rfl <;> simp [ha, hb, hc, hd, hp, hq, hr, hs]
  · unfold ringR
    simp [hab, Ne.symm hab, hcb, Ne.symm hcb, hda, Ne.symm hda]
  · intro h hx
    rw [hh] at hx
    simp only [List.mem_cons, List.not_mem_nil, or_false] at hx
    rcases hx with rfl | rfl
    · unfold ringR partSum
      simp [partSum, hab, Ne.symm hab]
      grind
    · unfold ringR partSum
      simp [partSum, hab, Ne.symm hab]
      grind
end
end G91

/-! Fw17: xs[::-1]; x is not None. -/
namespace G91
open PySem PySem.Spec PyProof.Rows L2
open Evl (Ex)
section
variable {K : PySem.W.Frag} {P0 : Ent} {M : Mm} {G : Gm} {k : Sv → Mm → Prop} {te : TE} {s : Sv}
theorem dqAll_rev {Hs : Hp} : ∀ {xs : List V} {ds : List PyData}, DqAll K Hs xs ds → DqAll K Hs xs.reverse ds.reverse
  | _, _, .nil => .nil
  | _, _, .cons a t => by
    rw [List.reverse_cons, List.reverse_cons]
    exact dpAll_append (dqAll_rev t) (.cons a .nil)
theorem we_revL (h : WE K P0 te G M fun s M1 => ∃ ds : List PyData, RL M1 s (ds.map Sv.va) ∧ k (.va (.list ds.reverse)) M1) : WE K P0 (tRevL K te) G M k := fun σ Hs H S L Q c =>
  h σ Hs H S L _ fun x Hs1 H1 s M1 S1 e1 r1 ⟨ds, l, q⟩ => by
    obtain ⟨a, xs, ex, hx, rx⟩ := l.at S1 r1
    refine ⟨a, xs, ex, .inl (.inl hx), fun p hp => ?_⟩
    obtain ⟨S2, e2⟩ := S1.share hp (.lst xs.reverse)
    exact c (.ref p) _ _ (.va (.list ds.reverse)) M1 S2 (e1.trans e2) (.lst upd_same (dpAll_mono e2 (dqAll_rev (dpAll_of_reps rx)))) q
theorem r2_notN_r {a : Addr} (q : k (.va (.bool true)) M) : R2D K P0 rIsNotNn (.rf (.ref a)) (.va .none) M k := fun Hs H x y S rx ry Q c => by
  have ex : x = .ref a := rx
  have ry : Dq K Hs y .none := ry
  cases ry
  subst ex
  exact ⟨rfl, c _ Hs H (.va (.bool true)) M S (Ex.refl _) (Dq.bl true) q⟩
theorem r2_notN_n (q : k (.va (.bool false)) M) : R2D K P0 rIsNotNn (.va .none) (.va .none) M k := fun Hs H x y S rx ry Q c => by
  have rx : Dq K Hs x .none := rx
  have ry : Dq K Hs y .none := ry
  cases rx
  cases ry
  exact ⟨rfl, c _ Hs H (.va (.bool false)) M S (Ex.refl _) (Dq.bl false) q⟩
end
/-! a tuple of names as a comprehension's target -/
def GOnsM (g : TGs) (vs : List Nat) : Prop := ∀ v σ H Q, g v σ H Q → ∀ Q' : L2.St → Hp → Prop, (∀ σ2 H2, σ2.length = σ.length → (∀ i, i ∉ vs → σ2[i]? = σ[i]?) → Q σ2 H2 → Q' σ2 H2) → g v σ H Q'
theorem gonsM_nil {vs : List Nat} : GOnsM gNil vs := fun v σ H Q ⟨e, q⟩ Q' h => ⟨e, h σ H rfl (fun _ _ => rfl) q⟩
theorem gonsM_cons {j : Nat} {gs : TGs} {vs : List Nat} (hj : j ∈ vs) (h : GOnsM gs vs) : GOnsM (gCons (gName j) gs) vs := fun v σ H Q ⟨x, r, e, q⟩ Q' k => by
  refine ⟨x, r, e, ?_⟩
  refine h r (σ.set j (some x)) H Q q Q' fun σ2 H2 e1 e2 q2 => k σ2 H2 (by rw [e1, List.length_set]) (fun i hi => ?_) q2
  rw [e2 i hi, List.getElem?_set_ne (fun z => hi (by rw [← z]; exact hj))]
theorem gon_tup {K : PySem.W.Frag} {n : Nat} {gs : TGs} {vs : List Nat} (h : GOnsM gs vs) : GOn (gTup K n gs) vs := fun v σ H Q ⟨a, xs, e, hs, hl, q⟩ => ⟨a, xs, e, hs, hl, h xs σ H _ q Q fun σ2 H2 e1 e2 q2 => q2 ⟨e1, e2⟩⟩
end G91

/-! Fw22: split, partition, join, str of a number, int of a text. -/
namespace G91
open PySem PySem.Spec PyProof.Rows L2
open Evl (Ex)
def rSplit : V → List V → Hp → VK → Prop := fun x xs H Q => ∃ a b, x = .str a ∧ xs = [.str b] ∧ (b.length == 0) = false ∧ a.length + 2 ≤ sizeLine ∧ rNewStrs (Txt.split a b) H Q
def rPartition : V → List V → Hp → VK → Prop := fun x xs H Q => ∃ a b, x = .str a ∧ xs = [.str b] ∧ (b.length == 0) = false ∧ a.length ≤ sizeLine ∧
  ∀ p, H p = none → Q (.ref p) (upd H p (.tup [.str (Txt.partition a b).1, .str (Txt.partition a b).2.1, .str (Txt.partition a b).2.2]))
def rJoin (K : PySem.W.Frag) : V → List V → Hp → VK → Prop := fun x xs H Q => ∃ a p, ∃ ys : List Str, x = .str a ∧ xs = [.ref p] ∧ (SqL K H p (ys.map V.str) ∨ SqT K H p (ys.map V.str)) ∧
  (ys.map (·.length)).sum + ys.length * a.length ≤ 16777216 ∧ Q (.str (Txt.join a ys)) H
def rStrC : List V → Hp → VK → Prop := fun xs H Q => ∃ i : Int, xs = [.int i] ∧ i.natAbs.log2 < 1920 ∧ Q (.str (toString i)) H
section
variable {K : PySem.W.Frag} {P0 : Ent} {M : Mm} {G : Gm} {k : Sv → Mm → Prop} {to te : TE}
theorem dq_strs {Hs : Hp} : ∀ ys : List Str, DqAll K Hs (ys.map V.str) (ys.map PyData.str)
  | [] => .nil
  | y :: ys => .cons (.str y) (dq_strs ys)
theorem strs_reps {Hs : Hp} : ∀ {us : List V} {ys : List Str}, Reps K Hs us ((ys.map PyData.str).map Sv.va) → us = ys.map V.str
  | _, [], .nil => rfl
  | u :: us, y :: ys, .cons a b => by
    have a : Dq K Hs u (.str y) := a
    have e := strs_reps b
    cases a
    rw [e]
    rfl
theorem we_split (h : WE K P0 to G M fun s M1 => ∃ a, s = .va (.str a) ∧ WE K P0 te G M1 fun s' M2 => ∃ b, s' = .va (.str b) ∧ (b.length == 0) = false ∧ a.length ≤ 100000 ∧ k (.va (.list ((Txt.split a b).map PyData.str))) M2) : WE K P0 (tM1 rSplit to te) G M k := fun σ Hs H S L Q c =>
  h σ Hs H S L _ fun x Hs1 H1 s M1 S1 e1 r1 ⟨a, ea, h2⟩ => by
    subst ea
    have r1 : Dq K Hs1 x (.str a) := r1
    cases r1
    refine ⟨⟨a, rfl⟩, h2 σ Hs1 H1 S1 (slots_mono e1 L) _ fun y Hs2 H2 s' M2 S2 e2 r2 ⟨b, eb, hb, ha, q⟩ => ?_⟩
    subst eb
    have r2 : Dq K Hs2 y (.str b) := r2
    cases r2
    refine ⟨a, b, rfl, rfl, hb, Nat.le_trans (Nat.add_le_add_right ha 2) (by decide), fun p hp => ?_⟩
    obtain ⟨S3, e3⟩ := S2.share hp (.lst ((Txt.split a b).map V.str))
    exact c (.ref p) _ _ (.va (.list ((Txt.split a b).map PyData.str))) M2 S3 ((e1.trans e2).trans e3) (Dq.lst upd_same (dq_strs _)) q
theorem we_partition (h : WE K P0 to G M fun s M1 => ∃ a, s = .va (.str a) ∧ WE K P0 te G M1 fun s' M2 => ∃ b, s' = .va (.str b) ∧ (b.length == 0) = false ∧ a.length ≤ 100000 ∧ k (.va (.tuple [.str (Txt.partition a b).1, .str (Txt.partition a b).2.1, .str (Txt.partition a b).2.2])) M2) : WE K P0 (tM1 rPartition to te) G M k := fun σ Hs H S L Q c =>
  h σ Hs H S L _ fun x Hs1 H1 s M1 S1 e1 r1 ⟨a, ea, h2⟩ => by
    subst ea
    have r1 : Dq K Hs1 x (.str a) := r1
    cases r1
    refine ⟨⟨a, rfl⟩, h2 σ Hs1 H1 S1 (slots_mono e1 L) _ fun y Hs2 H2 s' M2 S2 e2 r2 ⟨b, eb, hb, ha, q⟩ => ?_⟩
    subst eb
    have r2 : Dq K Hs2 y (.str b) := r2
    cases r2
    refine ⟨a, b, rfl, rfl, hb, Nat.le_trans ha (by decide), fun p hp => ?_⟩
    obtain ⟨S3, e3⟩ := S2.share hp (.tup [.str (Txt.partition a b).1, .str (Txt.partition a b).2.1, .str (Txt.partition a b).2.2])
    exact c (.ref p) _ _ (.va (.tuple [.str (Txt.partition a b).1, .str (Txt.partition a b).2.1, .str (Txt.partition a b).2.2])) M2 S3 ((e1.trans e2).trans e3) (Dq.tup (Evl.st_of upd_same) (.cons (.str _) (.cons (.str _) (.cons (.str _) .nil)))) q
theorem we_join (h : WE K P0 to G M fun s M1 => ∃ a, s = .va (.str a) ∧ WE K P0 te G M1 fun s' M2 => ∃ ys : List Str, RL M2 s' ((ys.map PyData.str).map Sv.va) ∧ (ys.map (·.length)).sum + ys.length * a.length ≤ 100000 ∧ k (.va (.str (Txt.join a ys))) M2) : WE K P0 (tM1 (rJoin K) to te) G M k := fun σ Hs H S L Q c =>
  h σ Hs H S L _ fun x Hs1 H1 s M1 S1 e1 r1 ⟨a, ea, h2⟩ => by
    subst ea
    have r1 : Dq K Hs1 x (.str a) := r1
    cases r1
    refine ⟨⟨a, rfl⟩, h2 σ Hs1 H1 S1 (slots_mono e1 L) _ fun y Hs2 H2 s' M2 S2 e2 r2 ⟨ys, l, hz, q⟩ => ?_⟩
    obtain ⟨p, us, rfl, h1, h3⟩ := l.at S2 r2
    have eu := strs_reps h3
    subst eu
    exact ⟨a, p, ys, rfl, rfl, .inl (.inl (.inl h1)), Nat.le_trans hz (by decide), c _ Hs2 H2 (.va (.str (Txt.join a ys))) M2 S2 (e1.trans e2) (Dq.str _) q⟩
theorem rc_str {i : Int} (hi : i.natAbs.log2 < 1920) (q : k (.va (.str (toString i))) M) : RCD K P0 rStrC [.va (.int i)] M k := fun Hs H xs S r Q c => by
  obtain ⟨x, rfl, r1⟩ := reps1 r
  have r1 : Dq K Hs x (.int i) := r1
  cases r1
  exact ⟨i, rfl, hi, c _ Hs H (.va (.str (toString i))) M S (Ex.refl _) (Dq.str _) q⟩
theorem rc_intS {a : Str} {n : Int} (h : PySem.intText? a = some n) (hl : a.length ≤ 640) (q : k (.va (.int n)) M) : RCD K P0 rIntC [.va (.str a)] M k := fun Hs H xs S r Q c => by
  obtain ⟨x, rfl, r1⟩ := reps1 r
  have r1 : Dq K Hs x (.str a) := r1
  cases r1
  exact .inr ⟨a, n, rfl, h, hl, c _ Hs H (.va (.int n)) M S (Ex.refl _) (Dq.int _) q⟩
/-- a comprehension whose items may let an error out: what was so far is told -/
theorem we_lcR {wi : TI} {g : TG} {tt : TT} {te : TE} {vs : List Nat} (hg : GOn g vs) (h : WI K P0 wi G M fun n item stay M1 => ∃ (f : Nat → Option PyData) (I : Nat → Prop), n ≤ 99999 ∧ (∀ M', Mext M1 M' → stay M') ∧ I 0 ∧
    (∀ i M', i < n → I i → Mext M1 M' → WG K P0 g (item i) (wipeG G vs) M' fun G2 M2 => M2 = M' ∧ WT K P0 tt G2 M2 fun b M3 => M3 = M' ∧ (b = true → WE K P0 te G2 M3 fun s M4 => M4 = M' ∧ I (i + 1) ∧ ∃ d, s = .va d ∧ f i = some d) ∧ (b = false → I (i + 1) ∧ f i = none)) ∧
    (I n → k (.va (.list ((List.range n).filterMap f))) M1)) : WE K P0 (tLc wi g tt te vs) G M k := fun σ Hs H S L Q c => by
  refine we_lc (k := fun s M' => ∃ (n : Nat) (f : Nat → Option PyData) (M1 : Mm) (p : Addr), M1 p = none ∧ s = .rf (.ref p) ∧ M' = mup M1 p (.lst (((List.range n).filterMap f).map Sv.va)) ∧ k (.va (.list ((List.range n).filterMap f))) M1) hg ?_ σ Hs H S L Q ?_
  · intro σ1 Hs1 H1 S1 L1 R c1
    refine h σ1 Hs1 H1 S1 L1 R fun J Hs2 H2 n item stay M1 S2 e2 itd ⟨f, I, hn, hst, hI0, hstep, hk⟩ => ?_
    refine c1 J Hs2 H2 n item stay M1 S2 e2 itd fun p hp => ⟨fun i M' acc => M' = M1 ∧ acc = ((List.range i).filterMap f).map Sv.va ∧ I i, ⟨rfl, rfl, hI0⟩, ?_, ?_, ?_⟩
    · rintro i M' acc hi ⟨rfl, rfl, _⟩
      refine ⟨hst _ (Mext.new hp), hp, ?_⟩
      rw [List.length_map]
      have h1 := List.length_filterMap_le f (List.range i)
      rw [List.length_range] at h1
      omega
    · rintro i M' acc hi ⟨rfl, rfl, hI⟩ v σ3 Hs3 H3 S3 L3 r3 Q3 c3
      refine hstep i _ hi hI (Mext.new hp) v σ3 Hs3 H3 S3 L3 r3 Q3 fun σ4 Hs4 H4 G4 M4 S4 e4 L4 ⟨em, q⟩ => ?_
      refine c3 σ4 Hs4 H4 G4 M4 S4 e4 L4 ?_
      refine wt_mono q fun b M5 ⟨em5, h1, h2⟩ => ⟨fun hb => we_mono (h1 hb) fun s M6 ⟨em6, hI1, d, es, ef⟩ => ⟨M', em6, rfl, ?_, hI1⟩, fun hb => ⟨M', em5, rfl, ?_, (h2 hb).1⟩⟩
      · rw [es, List.range_succ, List.filterMap_append, List.map_append]
        simp [ef]
      · rw [List.range_succ, List.filterMap_append]
        simp [(h2 hb).2]
    · rintro M' acc ⟨rfl, rfl, hI⟩
      exact ⟨n, f, _, p, hp, rfl, rfl, hk hI⟩
  · intro v Hs' H' s M' S' e' r ⟨n, f, M1, p, hp, es, em, hk⟩
    subst es em
    have ev : v = .ref p := r
    subst ev
    obtain ⟨Hs2, S2, e2, d2⟩ := S'.freeze mup_same
    rw [mdel_mup hp] at S2
    exact c (.ref p) Hs2 H' (.va (.list _)) _ S2 (e'.trans e2) d2 hk
end
end G91

/-! Fw23: a list comprehension whose element may let an exception out. -/
namespace G91
open PySem PySem.Spec PyProof.Rows L2
open HandSPX
section
variable {X : Cx} {pins : List (Addr × Obj)} {σ : L2.St} {H : Hp} {s : Shared}
theorem inv_xe {xe : Value → Shared → Prop} (I : Inv X pins σ H s) : Inv { X with xe := xe } pins σ H s :=
  ⟨⟨I.ok.mod, I.ok.kind, I.ok.glob, I.ok.blt, I.ok.above, I.ok.inj, I.ok.has, I.ok.cab, I.ok.hd, I.ok.frames, I.ok.stk, I.ok.exf, I.ok.bs, I.ok.bsz, I.ok.noex, I.ok.exfs, I.ok.funs, I.ok.frf⟩,
    I.os, I.bare, I.base, I.loc, I.cell, I.free, I.freeC, I.pin, I.hok, I.len⟩
end
section
variable {M : Model} {A : Around} {E : Value → Shared → Prop} {s' : Shared} {Z : Obj → Prop} {base : Heap} {env cenv : Env} {outer l : List Env} {e L : Addr} {m : Str → Option Value}
/-- held by the def's frame, the block let go, it goes on -/
theorem compFails_heldZ (hf : cenv.frame = some L) (hbC : base.get? cenv.locals = none) (hn : s'.heap.Ns cenv.locals m) (hh : HeldZ base l e Z L s'.heap)
    (hQ : ∀ h', HeldZ base l e Z L h' → (∀ b o, b ≠ cenv.locals → s'.heap.get? b = some o → (∀ vs, o.data ≠ .fields vs) → ∃ sl, h'.get? b = some { o with slots := sl }) → E (.ref e) { s' with heap := h' }) :
    CompFails M A E cenv (.ref e) s' := by
  refine ⟨m, hn, fun h₂ m₂ hn₂ hs₂ => ?_⟩
  obtain ⟨b1, b0, f1, oe, vs, T, oT, ts, he, hz, hd, h1, hnT, hTe, hT, hdT, h3⟩ := hh
  obtain ⟨oC, es, ep, hoC, hdC, _⟩ := hn
  have neF : ∀ {b : Addr} {o : Obj} {vs : Array Value}, s'.heap.get? b = some o → o.data = .fields vs → b ≠ cenv.locals := fun hb hdb q => by
    rw [q, hoC] at hb
    cases hb
    rw [hdC] at hdb
    cases hdb
  have b2 : base.StaysIn h₂ := fun b o hb => (hs₂.2 b fun q => by rw [q, hbC] at hb; cases hb).trans (b1 b o hb)
  have f2 : h₂.FunFrames base l := Heap.FunFrames.sameBut hs₂ hn₂ f1
  have he2 := (hs₂.2 e (neF he hd)).trans he
  have hT2 := (hs₂.2 T (neF hT hdT)).trans hT
  unfold PySem.passOn
  refine wpAny_bind (wpAny_field he2 hd h1 ?_)
  rw [if_neg (show ¬ ((Value.ref T == Value.none) = true) from by simp)]
  rw [hf]
  refine wpAny_bind (setFlight_onZ (L := L) ⟨b2, b0, f2, oe, vs, T, oT, ts, he2, hz, hd, h1, hnT, hTe, hT2, hdT, h3⟩ fun h₃ hh3 up => ?_)
  refine wpAny_throw ?_
  exact hQ h₃ hh3 fun b o hbC hb hnf => up b o ((hs₂.2 b hbC).trans hb) hnf
end
section
variable {X : Cx} {pins pinsB : List (Addr × Obj)} {σ σB : L2.St} {H0 HB : Hp} {s0 s u' : Shared} {u : Value} {E : XK} {fp : List Addr} {scope : Scope} {ce : Env}
/-- a call's exception, in our air: in flight -/
theorem of_callF (I : Inv X pins σ HB s) (c : CX X.prog X.w X.stack HB s E u u') : ∃ (a : Addr) (B : Heap) (sI : Shared) (H' : Hp) (cls : Value) (d : Option Addr), u = .ref a ∧ Inv X pins σ H' sI ∧ (∀ b o, sI.heap.get? b = some o → b ∉ frs X.stack → B.get? b = some o) ∧
    sI.heap.UpToSlots u'.heap ∧ FlyingZ B X.stack a (Zc cls d) u'.heap ∧ H' a = none ∧ u'.os = sI.os ∧ AllBare u'.gens ∧ E cls d H' := by
  obtain ⟨a, B, H', cls, d, rfl, fly, okH, un, na, os, ag, wE⟩ := c
  obtain ⟨Gr, gin, gout⟩ := restrict u'.heap fun b => (B.get? b).isSome || decide (b ∈ frs X.stack)
  have stB : B.StaysIn u'.heap := fly.1
  have inB : ∀ b o, B.get? b = some o → Gr.get? b = some o := fun b o e => by
    rw [gin b (by simp [e])]
    exact stB b o e
  have inF : ∀ b, b ∈ frs X.stack → Gr.get? b = u'.heap.get? b := fun b hb => gin b (by simp [hb])
  have ofG : ∀ b o, Gr.get? b = some o → u'.heap.get? b = some o ∧ ((B.get? b).isSome = true ∨ b ∈ frs X.stack) := fun b o e => by
    cases q : ((B.get? b).isSome || decide (b ∈ frs X.stack)) with
    | false => rw [gout b q] at e; cases e
    | true =>
      rw [gin b q] at e
      exact ⟨e, by simpa [Bool.or_eq_true] using q⟩
  refine ⟨a, B, { s with heap := Gr, gens := u'.gens, drawn := u'.drawn, toks := u'.toks }, H', cls, d, rfl, ?_, fun b o e hb => ?_, Heap.UpToSlots.of_keeps fun b o e => (ofG b o e).1, fly, na, os, ag, wE⟩
  · refine I.call (ch := []) ⟨fun b o e n hb _ => inB b o (un.keep b o e n hb), fun b o e n hb _ => ?_, fun b o e n _ => un.free b o e n, fun b o e _ => ?_, un.tups, un.frzs, un.tbls⟩ (okH.kept inB) ag (fun _ z => nomatch z)
    · obtain ⟨sl, q⟩ := un.slot b o e hb
      exact ⟨sl, by rw [inF b hb]; exact q⟩
    · by_cases hb : b ∈ frs X.stack
      · obtain ⟨sl, q⟩ := un.slot b o e hb
        exact ⟨_, by rw [inF b hb]; exact q⟩
      · obtain ⟨o', q⟩ := un.there b o e hb
        exact ⟨o', inB b o' q⟩
  · obtain ⟨e', h⟩ := ofG b o e
    rcases h with h | h
    · obtain ⟨o', q⟩ := Option.isSome_iff_exists.mp h
      have z := stB b o' q
      rw [e'] at z; cases z
      exact q
    · exact absurd h hb
/-- a call's exception leaves the comprehension's block -/
theorem comp_out (I0 : Inv X pins σ H0 s0) (hs : X.stack = X.env :: X.outer) (hf : X.env.frame = some X.env.locals) (tk : Takes X (fun cls d _ H => E cls d H)) (hfr : ce.frame = X.env.frame) (hC : ce.locals = s0.heap.objs.size)
    (f3 : ∀ b ∈ fp, FpOk X pins H0 b ∧ b < s0.heap.objs.size) {xe : Value → Shared → Prop} (IB : Inv { X.blk s0 H0 scope ce fp with xe := xe } pinsB σB HB s) (c : CX X.prog X.w X.stack HB s E u u') :
    notedBy (model X.prog X.w) X.A ce (CompFails (model X.prog X.w) X.A X.xe ce) u u' := by
  obtain ⟨a, B, sI, H', cls, d, rfl, II, nb, up, sky, na, os, ag, w⟩ := of_callF (X := { X.blk s0 H0 scope ce fp with xe := xe }) IB c
  have hCe : ce.locals ∉ frs X.stack := fun hm => by
    have h1 := I0.stkFree _ hm
    obtain ⟨_, o, ho, _⟩ := I0.stack.mem hm
    have h2 := Heap.lt_size ho
    rw [hC] at h2
    exact absurd h2 (Nat.lt_irrefl _)
  have nC : H' s0.heap.objs.size = none := by
    have z : H' ce.locals = none := II.free
    rw [hC] at z
    exact z
  -- the outer state, without the block's names
  have I7 : Inv X pins σ H' sI := I0.call' (ch := fp) II.os II.base II.hok II.bare fun b hb => ⟨(f3 b hb).1.2.2.2.1, (f3 b hb).1.2.1, (f3 b hb).1.2.2.2.2.1, (f3 b hb).1.2.2.2.2.2⟩
  obtain ⟨f0, f1, f2, f3', f4, f5⟩ := I0.fpOk (b := s0.heap.objs.size) (H' := H') (Nat.le_refl _) nC
  have I8 : Inv X pins σ H' { sI with heap := PySem.W.hideAll sI.heap [s0.heap.objs.size], toks := sI.toks } := I7.turned (it := s0.heap.objs.size) (fun b o hb e => PySem.W.hideAll_get _ e (by simpa using hb)) f0 f1 f3' f4 f5
  -- the ground, without them too
  have gB : ∀ b o, (PySem.W.hideAll B [ce.locals]).get? b = some o → B.get? b = some o := fun b o e => PySem.W.of_hideAll _ e
  have gC : (PySem.W.hideAll B [ce.locals]).get? ce.locals = none := by
    cases q : (PySem.W.hideAll B [ce.locals]).get? ce.locals with
    | none => rfl
    | some o =>
      by_cases z : ce.locals < B.objs.size
      · rw [PySem.W.hideAll_none _ (List.mem_singleton.mpr rfl)] at q
        cases q
      · exact absurd (Heap.lt_size (PySem.W.of_hideAll _ q)) z
  have gn : ∀ b, B.get? b = none → (PySem.W.hideAll B [ce.locals]).get? b = none := fun b e => by
    cases q : (PySem.W.hideAll B [ce.locals]).get? b with
    | none => rfl
    | some o => rw [gB b o q] at e; cases e
  have hfr0 : X.A.frames = some (X.env :: X.outer) := by rw [I0.ok.frames, hs]
  have sky : FlyingZ B (X.env :: X.outer) a (Zc cls d) u'.heap := by
    have z : FlyingZ B X.stack a (Zc cls d) u'.heap := sky
    rw [hs] at z
    exact z
  obtain ⟨mC, hnC, _⟩ := II.loc
  have hnC : sI.heap.Ns ce.locals mC := hnC
  have hn' : u'.heap.Ns ce.locals mC := hnC.upToSlots up
  have fin : ∀ h1, HeldZ (PySem.W.hideAll B [ce.locals]) (X.env :: X.outer) a (Zc cls d) X.env.locals h1 → u'.heap.UpToSlots h1 → CompFails (model X.prog X.w) X.A X.xe ce (.ref a) { u' with heap := h1 } := fun h1 hh up1 => by
    refine compFails_heldZ (l := X.env :: X.outer) (L := X.env.locals) (hfr.trans hf) gC (hn'.upToSlots up1) hh fun h3 hh3 up3 => ?_
    refine tk _ _ ⟨a, PySem.W.hideAll B [ce.locals], _, pins, σ, H', cls, d, rfl, I8, fun b o e hb => ?_, fun b o e hnf => ?_, .inr (.inr (by rw [hs]; exact hh3)), na, os, ag, w⟩
    · have e0 := PySem.W.of_hideAll _ e
      have hbC : b ≠ ce.locals := fun z => by
        rw [z, hC] at e
        have e : (PySem.W.hideAll sI.heap [s0.heap.objs.size]).get? s0.heap.objs.size = some o := e
        rw [PySem.W.hideAll_none _ (List.mem_singleton.mpr rfl)] at e
        cases e
      exact PySem.W.hideAll_get _ (nb b o e0 hb) (by simpa using hbC)
    · have e0 := PySem.W.of_hideAll _ e
      have hbC : b ≠ ce.locals := fun z => by
        rw [z, hC] at e
        have e : (PySem.W.hideAll sI.heap [s0.heap.objs.size]).get? s0.heap.objs.size = some o := e
        rw [PySem.W.hideAll_none _ (List.mem_singleton.mpr rfl)] at e
        cases e
      obtain ⟨sl1, e1⟩ := up b o e0 hnf
      obtain ⟨sl2, e2⟩ := up1 b _ e1 hnf
      obtain ⟨sl3, e3⟩ := up3 b _ hbC e2 hnf
      exact ⟨sl3, e3⟩
  show wpAny _ _ (noteFrame (.ref a) ce) _ _ u'
  rw [noteFrame_env _ hfr]
  have fl2 : ∀ {l : List Env} {h : Heap}, h.FunFrames B l → h.FunFrames (PySem.W.hideAll B [ce.locals]) l := fun {l h} hl => funFrames_none hl fun L hL => gn L (by
    obtain ⟨hx, _⟩ := hl.mem hL
    exact hx)
  obtain ⟨hB, hn, hl, oe, vs, T, oT, ts, he, hz, hd, h1, hnT, hTe, hT, hdT, h3⟩ := sky
  exact looks_onZ Zc.steady hfr0 hf ⟨fun b o q => hB b o (gB b o q), gn _ hn, fl2 hl, oe, vs, T, oT, ts, he, hz, hd, h1, gn _ hnT, hTe, hT, hdT, h3⟩ fin
end
section
variable {X : Cx} {E : XK}
/-- the block of a comprehension that lets an exception out as xe says -/
abbrev blkE (X : Cx) (s : Shared) (H : Hp) (scope : Scope) (cenv : Env) (fp : List Addr) (xe : Value → Shared → Prop) : Cx := { X.blk s H scope cenv fp with xe := xe }
/-- what a call in it may let out -/
abbrev OutOf (X : Cx) (E : XK) (B : Cx) : Prop := ∀ (pins : List (Addr × Obj)) (σ : L2.St) (H : Hp) (s : Shared) (e : Value) (s' : Shared), Inv B pins σ H s → CX X.prog X.w X.stack H s E e s' → B.xe e s'
/-- [elt for target in iter if ..], the element may raise: on the way of pe_lc, the ends told of an exception, too -/
theorem pe_lcE {elt tg iter : Expr} {ifs : List Expr} {scope : Scope} {own : List (Str × Nat)} {pos : Pos} {wi : TI} {g : TG} {tt : TT} {te : TE} (hc : X.calm = true) (hN : X.N.Nodup) (hstk : X.stack = X.env :: X.outer) (hfrm : X.env.frame = some X.env.locals) (tk : Takes X (fun cls d _ H => E cls d H)) (hi : PI X tg iter wi) (ok : BlkOk X.N X.env.scope scope own)
    (hg : ∀ (s : Shared) (H : Hp) (C : Addr) (cl : List (Str × Addr)) (fp : List Addr), PG (X.blk s H scope (compEnvC scope cl C X.env) fp) tg g)
    (ht : ∀ (s : Shared) (H : Hp) (C : Addr) (cl : List (Str × Addr)) (fp : List Addr), PTs (X.blk s H scope (compEnvC scope cl C X.env) fp) ifs tt)
    (he : ∀ (s : Shared) (H : Hp) (C : Addr) (cl : List (Str × Addr)) (fp : List Addr) (xe : Value → Shared → Prop), OutOf X E (blkE X s H scope (compEnvC scope cl C X.env) fp xe) → PE (blkE X s H scope (compEnvC scope cl C X.env) fp xe) elt te) (hfold : ∀ x, foldedSetIterable iter X.env x = pure x := by intro _; rfl) :
    PE X (.ListComp elt [⟨tg, iter, ifs, 0⟩] scope pos) (tLc wi g tt te (own.map (·.2))) := by
  refine ⟨fun pins s σ H Q I hgoal => ?_⟩
  rw [eval_ListComp]
  have hfree : ∀ y ∈ scope.names, y.2 = .free → ∃ c, X.env.cells.lookup y.1 = some c := fun y hy ey => by
    rcases ok.free y hy ey with z | z
    · exact I.ok.has _ (.inl z)
    · exact I.ok.has _ (.inr z)
  refine comprehension_at (use := none) rfl hfold (closure_ok hfree) ok.kind (fun y hy ey => by rw [ok.uniq y hy, ey])
    (thn (hi.run pins s σ H _ I hgoal) fun xv sa hxa => thn hxa fun itv sb hsb => ?_)
  obtain ⟨it, fp, tn, J, Hb, eit, Ib, T, stb, fb, walk⟩ := hsb
  subst eit
  refine wpAny_newObj_type (newEnv_comp ?_) (by show 0 ≤ sizeLine; decide)
  generalize hD : sb.heap.objs.size = D
  have freshD : Hb D = none := Ib.hok.fresh (Nat.le_of_eq hD)
  obtain ⟨W, ⟨m0, w0⟩, turn⟩ := walk D freshD
  generalize hsc : ({ sb with heap := sb.heap.push { cls := .type "list", data := .seq ([] : List Value).toArray } } : Shared) = sc
  have Ic : Inv X pins σ (upd Hb D (.lst [])) sc := by
    rw [← hsc]
    refine Ib.laid (t' := sb.toks) (fun b u z => Heap.get?_push_of_some _ z) (Nat.le_of_eq hD) ⟨Nat.zero_le _, [], 0, .nil, ?_⟩
    rw [← hD]
    exact Heap.get?_push_size _ rfl
  have heapc : sc.heap = sb.heap.push { cls := .type "list", data := .seq ([] : List Value).toArray } := by rw [← hsc]
  have below : ∀ b ∈ fp, b < sb.heap.objs.size := fun b hb => by
    obtain ⟨u, z, _⟩ := T.obj _ _ stb b hb
    exact Heap.lt_size z
  have fc : ∀ b ∈ fp, FpOk X pins (upd Hb D (.lst [])) b ∧ b < sc.heap.objs.size := fun b hb => by
    have hlt := below b hb
    refine ⟨⟨?_, (fb b hb).2⟩, by rw [heapc, Heap.size_push]; exact Nat.lt_succ_of_lt hlt⟩
    rw [upd_ne (by rw [← hD]; exact Nat.ne_of_lt hlt)]
    exact (fb b hb).1
  have stc : tn 0 sc.heap := T.keep _ _ _ stb fun b _ u z => by rw [heapc]; exact Heap.get?_push_of_some _ z
  have Id := block_start Ic ok hN fc
  have pg := hg sc (upd Hb D (.lst [])) sc.heap.objs.size (cellsFrom (sc.heap.objs.size + 1) scope.names (cloFrom X.env.cells scope.names [])) fp
  have pt := ht sc (upd Hb D (.lst [])) sc.heap.objs.size (cellsFrom (sc.heap.objs.size + 1) scope.names (cloFrom X.env.cells scope.names [])) fp
  have pe := he sc (upd Hb D (.lst [])) sc.heap.objs.size (cellsFrom (sc.heap.objs.size + 1) scope.names (cloFrom X.env.cells scope.names [])) fp
  show codeAny _ _ (.compStart (.ListComp elt [⟨tg, iter, ifs, 0⟩] scope pos) 0 (.ref it) (.ref D) (compEnvC scope (cellsFrom (sc.heap.objs.size + 1) scope.names (cloFrom X.env.cells scope.names [])) sc.heap.objs.size X.env)) (compEnds (model X.prog X.w) X.A X.xe none (EP X pins σ Q) (.ref D) (compEnvC scope (cellsFrom (sc.heap.objs.size + 1) scope.names (cloFrom X.env.cells scope.names [])) sc.heap.objs.size X.env)) { sc with heap := pushCells (sc.heap.push { cls := .type "dict", data := .dict #[] }) scope.names }
  have nfp : ∀ b ∈ fp, (upd Hb D (.lst [])) b = none := fun b hb => (fc b hb).1.1
  have hfrE : (compEnvC scope (cellsFrom (sc.heap.objs.size + 1) scope.names (cloFrom X.env.cells scope.names [])) sc.heap.objs.size X.env).frame = X.env.frame := rfl
  have hlocE : (compEnvC scope (cellsFrom (sc.heap.objs.size + 1) scope.names (cloFrom X.env.cells scope.names [])) sc.heap.objs.size X.env).locals = sc.heap.objs.size := rfl
  generalize compEnvC scope (cellsFrom (sc.heap.objs.size + 1) scope.names (cloFrom X.env.cells scope.names [])) sc.heap.objs.size X.env = ce at Id pg pt pe hfrE hlocE ⊢
  generalize hHc : upd Hb D (.lst []) = Hc at Ic Id pg pt pe w0 nfp fc
  generalize hsd : ({ sc with heap := pushCells (sc.heap.push { cls := .type "dict", data := .dict #[] }) scope.names } : Shared) = sd at Id ⊢
  have pe := pe (notedBy (model X.prog X.w) X.A ce (CompFails (model X.prog X.w) X.A X.xe ce)) fun pinsB σB HB sB u u' IB cx => comp_out Ic hstk hfrm tk hfrE hlocE fc IB cx
  have std : tn 0 sd.heap := T.keep _ _ _ stc fun b _ u z => by rw [← hsd]; exact pushCells_keeps _ _ _ _ (Heap.get?_push_of_some _ z)
  have stat : ∀ {σ' : L2.St} {H' : Hp} {s' : Shared}, Inv (X.blk sc Hc scope ce fp) [] σ' H' s' → (∀ b ∈ fp, H' b = none) → ∀ b ∈ fp, FpOk (X.blk sc Hc scope ce fp) [] H' b := fun {σ' H' s'} I' hn b hb =>
    ⟨hn b hb, (I'.ok.exf b hb).1, I'.ok.exfs b hb, .inl hb, fun x c z => (I'.ok.exf b hb).2 x c z, fun p hp => absurd (show p ∈ ([] : List (Addr × Obj)) ++ [] from hp) (by simp)⟩
  have loop : codeAny (model X.prog X.w) X.A (.compLoop (.ListComp elt [⟨tg, iter, ifs, 0⟩] scope pos) 0 (.ref it) (.ref D) ce) (compEnds (model X.prog X.w) X.A X.xe none (EP X pins σ Q) (.ref D) ce) sd := by
    refine compLoop_any (fun n s' => ∃ i H', Inv (X.blk sc Hc scope ce fp) [] (wipe σ (own.map (·.2))) H' s' ∧ tn i s'.heap ∧ (∀ b ∈ fp, H' b = none) ∧ W i n H') ?_ m0 ⟨0, Hc, Id, std, nfp, w0⟩
    rintro n s5 ⟨i, H5, I5, st5, n5, w5⟩
    rcases turn i n H5 w5 with ⟨stop, qq⟩ | ⟨go, Nx, hNx, step⟩
    · refine thnF (T.done (X.blk sc Hc scope ce fp) rfl rfl rfl hc i [] s5 _ H5 (fun _ _ => False) I5 (stat I5 n5) st5 stop) fun r s6 ⟨hr, I6⟩ => ?_
      subst hr
      have Io : Inv X pins σ H5 s6 := Ic.call' (ch := fp) I6.os I6.base I6.hok I6.bare fun b hb => ⟨(fc b hb).1.2.2.2.1, (fc b hb).1.2.1, (fc b hb).1.2.2.2.2.1, (fc b hb).1.2.2.2.2.2⟩
      have nC : H5 sc.heap.objs.size = none := by
        have z : H5 ce.locals = none := I6.free
        rw [hlocE] at z
        exact z
      obtain ⟨m, hn, _⟩ := I6.loc
      have hn : s6.heap.Ns ce.locals m := hn
      refine ⟨m, hn, fun h'' same => ?_⟩
      rw [hlocE] at same
      obtain ⟨z0, z1, z2, z3, z4, z5⟩ := Ic.fpOk (Nat.le_refl sc.heap.objs.size) nC
      exact ⟨.ref D, H5, Io.turned (t' := s6.toks) (fun b u hb z => (same.2 b hb).trans z) z0 z1 z3 z4 z5, rfl, qq⟩
    · refine thnF (T.item (X.blk sc Hc scope ce fp) rfl rfl rfl hc i [] s5 _ H5 (fun _ _ => False) I5 (stat I5 n5) st5 go) fun r s6 ⟨u, hr, h6⟩ => ?_
      subst hr
      refine thnF h6 fun _ s7 ⟨x, H7, I7, r7, y7, st7, n7⟩ => ?_
      have I7' := I7.pinned (stat I7 n7) (T.obj _ _ st7)
      refine thnF (pg.run _ s7 _ H7 x u _ I7' r7 (step x H7 y7)) fun _ s8 ⟨σ8, H8, I8, hw8, q8⟩ => ?_
      refine thnF (pt.run _ s8 σ8 H8 _ I8 q8) fun b s9 ⟨H9, I9, q9⟩ => ?_
      have fin : ∀ {s' : Shared} {H' : Hp}, Inv (X.blk sc Hc scope ce fp) ([] ++ pinsAt fp s7.heap) σ8 H' s' → Nx H' → ∃ m, m < n ∧ ∃ i H', Inv (X.blk sc Hc scope ce fp) [] (wipe σ (own.map (·.2))) H' s' ∧ tn i s'.heap ∧ (∀ b ∈ fp, H' b = none) ∧ W i m H' := fun {s' H'} I' nx => by
        obtain ⟨m', hm, w'⟩ := hNx H' nx
        have pinned : ∀ b ∈ fp, ∀ u, s7.heap.get? b = some u → s'.heap.get? b = some u ∧ H' b = none := fun b hb u z =>
          let y := I'.pin (b, u) (List.mem_append_right _ (List.mem_append_right _ (mem_pinsAt hb z)))
          ⟨y.1, y.2.1⟩
        have hl : (wipe σ (own.map (·.2))).length = σ8.length := by rw [← hw8, wipe_length]
        refine ⟨m', hm, i + 1, H', (I'.unpinned (pins := [])).weak hl (fun j v z => ?_), T.keep _ _ _ st7 fun b hb u z => (pinned b hb u z).1, fun b hb => ?_, w'⟩
        · rw [← hw8] at z
          exact (wipe_some z).1
        · obtain ⟨u, z, _⟩ := T.obj _ _ st7 b hb
          exact (pinned b hb u z).2
      cases b with
      | false =>
        simp only [Bool.false_eq_true, if_false] at q9 ⊢
        exact fin I9 q9
      | true =>
        simp only [if_true] at q9 ⊢
        refine wpAny_mono (pe.run _ s9 σ8 H9 _ (inv_xe I9) q9) (fun z s10 ⟨yv, H10, I10, r10, acc, hD10, hz10, nx⟩ => ?_) fun e' s'' bad => bad
        exact app_ok (X := X.blk sc Hc scope ce fp) (inv_xe (xe := fun _ _ => False) I10) hD10 hz10 r10 fun s11 I11 => fin I11 nx
  exact codeAny_compStart_list loop (T.self X.A 0 _ _ _ std loop)
end
end G91

/-! Ma33: grammars written as texts: what is read. -/
namespace G91
open PySem PySem.Spec PyProof.Rows L2 TL
def figures : Str := "0123456789"
/-- figures that write a number above nought -/
def numOk (x : Str) : Bool := decide (x.cps.size ≠ 0) && (decide (x.cps.size ≤ 60) && (!decide (x.cps.toList.head? = some 48) && x.cps.toList.all fun c => decide (c ∈ figures.cps.toList)))
def numV (x : Str) : Nat := NumText.digitsVal x.cps.toList
theorem figures_mem {c : Nat} : c ∈ figures.cps.toList ↔ 48 ≤ c ∧ c ≤ 57 := by
  have e : figures.cps.toList = [48, 49, 50, 51, 52, 53, 54, 55, 56, 57] := by decide +kernel
  rw [e]
  simp only [List.mem_cons, List.not_mem_nil, or_false]
  omega
theorem numOk_iff {x : Str} : numOk x = true ↔ x.cps.size ≠ 0 ∧ x.cps.size ≤ 60 ∧ x.cps.toList.head? ≠ some 48 ∧ NumText.AllDigits x.cps.toList := by
  unfold numOk
  rw [Bool.and_eq_true, Bool.and_eq_true, Bool.and_eq_true, decide_eq_true_iff, decide_eq_true_iff, Bool.not_eq_true', decide_eq_false_iff_not, List.all_eq_true]
  constructor
  · rintro ⟨h1, h2, h3, h4⟩
    exact ⟨h1, h2, h3, fun c hc => figures_mem.mp (of_decide_eq_true (h4 c hc))⟩
  · rintro ⟨h1, h2, h3, h4⟩
    exact ⟨h1, h2, h3, fun c hc => decide_eq_true (figures_mem.mpr (h4 c hc))⟩
theorem numOk_int {x : Str} (h : numOk x = true) : PySem.intText? x = some (numV x : Int) := by
  obtain ⟨h1, h2, h3, h4⟩ := numOk_iff.mp h
  refine intText_digits h4 (fun z => h1 ?_) ?_
  · have := congrArg List.length z
    simpa using this
  · show x.cps.size ≤ 4300
    omega
theorem digitsVal_snoc (l : List Nat) (c : Nat) : NumText.digitsVal (l ++ [c]) = NumText.digitsVal l * 10 + (c - 48) := by
  unfold NumText.digitsVal
  rw [List.foldl_append]
  rfl
theorem digitsVal_lt : ∀ {l : List Nat}, NumText.AllDigits l → NumText.digitsVal l < 10 ^ l.length := by
  intro l
  induction l using snoc_ind with
  | h0 => intro _; decide
  | hs l c ih =>
    intro h
    have h1 := ih fun x hx => h x (List.mem_append_left _ hx)
    have h2 := h c (by simp)
    rw [digitsVal_snoc, List.length_append, List.length_singleton, Nat.pow_succ]
    omega
theorem numV_bits {x : Str} (h : numOk x = true) : numV x < 2 ^ 200 := by
  obtain ⟨h1, h2, h3, h4⟩ := numOk_iff.mp h
  have h5 := digitsVal_lt h4
  have h6 : 10 ^ x.cps.toList.length ≤ 10 ^ 60 := Nat.pow_le_pow_right (by decide) (by simpa using h2)
  have h7 : (10 : Nat) ^ 60 ≤ 2 ^ 200 := by decide
  unfold numV
  omega
theorem digitsVal_pos {c : Nat} {l : List Nat} (h : NumText.AllDigits (c :: l)) (hc : c ≠ 48) : 1 ≤ NumText.digitsVal (c :: l) := by
  have h0 := h c List.mem_cons_self
  induction l using snoc_ind with
  | h0 =>
    show 1 ≤ 0 * 10 + (c - 48)
    omega
  | hs l d ih =>
    have h1 := ih fun x hx => h x (by simp at hx ⊢; rcases hx with q | q; exact .inl q; exact .inr (.inl q))
    rw [← List.cons_append, digitsVal_snoc]
    omega
theorem numV_pos {x : Str} (h : numOk x = true) : 1 ≤ numV x := by
  obtain ⟨h1, h2, h3, h4⟩ := numOk_iff.mp h
  unfold numV
  match hx : x.cps.toList with
  | [] =>
    have := congrArg List.length hx
    simp at this
    rw [this] at h1
    exact absurd rfl h1
  | c :: l =>
    rw [hx] at h3 h4
    exact digitsVal_pos h4 fun z => h3 (by rw [z]; rfl)
/-! what split and partition leave -/
theorem spl_sub (S : List Nat) : ∀ (l : List Nat) (k : Nat) (acc : List Nat), ∀ p ∈ spl S k acc l, (∀ c ∈ p, c ∈ acc ∨ c ∈ l) ∧ p.length ≤ acc.length + l.length
  | [], k, acc, p, h => by
    rw [spl_nil] at h
    rw [List.mem_singleton.mp h]
    exact ⟨fun c hc => .inl hc, by simp⟩
  | c :: r, 0, acc, p, h => by
    by_cases q : pre S (c :: r) = true
    · rw [spl_hit q] at h
      rcases List.mem_cons.mp h with e | e
      · rw [e]; exact ⟨fun c hc => .inl hc, by simp⟩
      · obtain ⟨h1, h2⟩ := spl_sub S r _ [] p e
        refine ⟨fun x hx => ?_, by simp at h2 ⊢; omega⟩
        rcases h1 x hx with z | z
        · cases z
        · exact .inr (List.mem_cons_of_mem _ z)
    · rw [spl_miss (by simpa using q)] at h
      obtain ⟨h1, h2⟩ := spl_sub S r 0 _ p h
      refine ⟨fun x hx => ?_, by simp at h2 ⊢; omega⟩
      rcases h1 x hx with z | z
      · rcases List.mem_append.mp z with y | y
        · exact .inl y
        · rw [List.mem_singleton.mp y]; exact .inr List.mem_cons_self
      · exact .inr (List.mem_cons_of_mem _ z)
  | c :: r, k + 1, acc, p, h => by
    have h : p ∈ spl S k acc r := h
    obtain ⟨h1, h2⟩ := spl_sub S r k acc p h
    refine ⟨fun x hx => ?_, by simp; omega⟩
    rcases h1 x hx with z | z
    · exact .inl z
    · exact .inr (List.mem_cons_of_mem _ z)
theorem spl_few (S : List Nat) : ∀ (l : List Nat) (k : Nat) (acc : List Nat), (spl S k acc l).length ≤ l.length + 1
  | [], k, acc => by rw [spl_nil]; simp
  | c :: r, 0, acc => by
    by_cases q : pre S (c :: r) = true
    · rw [spl_hit q]
      have := spl_few S r (S.length - 1) []
      simp; omega
    · rw [spl_miss (by simpa using q)]
      have := spl_few S r 0 (acc ++ [c])
      simp; omega
  | c :: r, k + 1, acc => by
    have := spl_few S r k acc
    show (spl S k acc r).length ≤ _
    simp; omega
theorem txtOk_iff {x : Str} : TxtOk x ↔ (tl x).length ≤ 1000 ∧ ∀ c ∈ tl x, c < 0x110000 := by
  unfold TxtOk PyData.strOk
  rw [Array.all_eq_true_iff_forall_mem]
  constructor
  · rintro ⟨h1, h2⟩
    exact ⟨by simpa using h1, fun c hc => of_decide_eq_true (h2 c (Array.mem_toList_iff.mp hc))⟩
  · rintro ⟨h1, h2⟩
    exact ⟨by simpa using h1, fun c hc => decide_eq_true (h2 c (Array.mem_toList_iff.mpr hc))⟩
theorem txt_sub {x y : Str} (h : TxtOk x) (h1 : ∀ c ∈ tl y, c ∈ tl x) (h2 : (tl y).length ≤ (tl x).length) : TxtOk y := by
  rw [txtOk_iff] at h ⊢
  exact ⟨by omega, fun c hc => h.2 c (h1 c hc)⟩
theorem split_txt {x y : Str} (h : TxtOk x) (hy : tl y ≠ []) (hk : y.cps.all (· < 256) = true) : ∀ p ∈ Txt.split x y, TxtOk p := fun p hp => by
  have h1 : tl p ∈ spl (tl y) 0 [] (tl x) := by rw [← split_spl x y hy (kind_ok hk)]; exact List.mem_map_of_mem hp
  obtain ⟨h2, h3⟩ := spl_sub _ _ _ _ _ h1
  refine txt_sub h (fun c hc => ?_) (by simpa using h3)
  rcases h2 c hc with z | z
  · cases z
  · exact z
theorem split_few {x y : Str} (hy : tl y ≠ []) (hk : y.cps.all (· < 256) = true) : (Txt.split x y).length ≤ (tl x).length + 1 := by
  have h1 := congrArg List.length (split_spl x y hy (kind_ok hk))
  rw [List.length_map] at h1
  rw [h1]
  exact spl_few _ _ _ _
theorem par_sub (S : List Nat) : ∀ (l acc a b : List Nat), par S acc l = some (a, b) → ((∀ c ∈ a, c ∈ acc ∨ c ∈ l) ∧ a.length ≤ acc.length + l.length) ∧ (∀ c ∈ b, c ∈ l) ∧ b.length ≤ l.length
  | [], acc, a, b, h => by cases (show none = some (a, b) from h)
  | c :: r, acc, a, b, h => by
    by_cases q : pre S (c :: r) = true
    · rw [par_hit q] at h
      cases h
      exact ⟨⟨fun c hc => .inl hc, by simp⟩, fun x hx => List.mem_of_mem_drop hx, by rw [List.length_drop]; omega⟩
    · rw [par_miss (by simpa using q)] at h
      obtain ⟨⟨h1, h2⟩, h3, h4⟩ := par_sub S r _ a b h
      refine ⟨⟨fun x hx => ?_, by simp at h2 ⊢; omega⟩, fun x hx => List.mem_cons_of_mem _ (h3 x hx), by simp; omega⟩
      rcases h1 x hx with z | z
      · rcases List.mem_append.mp z with y | y
        · exact .inl y
        · rw [List.mem_singleton.mp y]; exact .inr List.mem_cons_self
      · exact .inr (List.mem_cons_of_mem _ z)
theorem txt_empty : TxtOk Str.empty := txtOk_iff.mpr ⟨Nat.zero_le _, fun c hc => nomatch hc⟩
theorem partition_txt {x y : Str} (h : TxtOk x) (hyt : TxtOk y) (hy : tl y ≠ []) : TxtOk (Txt.partition x y).1 ∧ TxtOk (Txt.partition x y).2.1 ∧ TxtOk (Txt.partition x y).2.2 := by
  rw [partition_par x y hy]
  cases hp : par (tl y) [] (tl x) with
  | none => exact ⟨h, txt_empty, txt_empty⟩
  | some ab =>
    obtain ⟨a, b⟩ := ab
    obtain ⟨⟨h1, h2⟩, h3, h4⟩ := par_sub _ _ _ _ _ hp
    refine ⟨txt_sub h (fun c hc => ?_) (by simpa using h2), hyt, txt_sub h (fun c hc => h3 c hc) h4⟩
    rcases h1 c hc with z | z
    · cases z
    · exact z
theorem cutS_txt {x : Str} {lo hi : Option Int} (h : TxtOk x) : TxtOk (cutS x lo hi) := by
  refine txt_sub h (fun c hc => ?_) ?_
  · have hc : c ∈ ((x.cps.toList.drop (HT.sIx x.length 0 lo)).take (HT.sIx x.length x.length hi - HT.sIx x.length 0 lo)) := hc
    exact List.mem_of_mem_drop (List.mem_of_mem_take hc)
  · show ((x.cps.toList.drop (HT.sIx x.length 0 lo)).take (HT.sIx x.length x.length hi - HT.sIx x.length 0 lo)).length ≤ _
    rw [List.length_take, List.length_drop]
    show _ ≤ x.cps.toList.length
    omega
/-! rules and grammars read -/
def midOk (m : Str) : Bool := decide (cutS m (some (-1)) none = ":") && (numOk (Txt.partition (cutS m none (some (-1))) "/").1 && (numOk (Txt.partition (cutS m none (some (-1))) "/").2.2 &&
  decide (Int.gcd (numV (Txt.partition (cutS m none (some (-1))) "/").1) (numV (Txt.partition (cutS m none (some (-1))) "/").2.2) = 1)))
noncomputable def midV (m : Str) : Rat := shr (numV (Txt.partition (cutS m none (some (-1))) "/").1) (numV (Txt.partition (cutS m none (some (-1))) "/").2.2)
noncomputable def wordsRd : List Str → Option RuleD
  | h :: m :: s :: b => if decide ((s :: b).length ≤ 4) && (midOk m && (isSym h && (s :: b).all isSym)) then some ⟨h, s :: b, midV m⟩ else none
  | _ => none
noncomputable def ruleRd (row : Str) : Option RuleD := wordsRd (Txt.split row " ")
noncomputable def rdAll : List Str → Option (List RuleD)
  | [] => some []
  | r :: rows => match ruleRd r, rdAll rows with
    | some x, some xs => some (x :: xs)
    | _, _ => none
noncomputable def rowsRd : List Str → Option (Str × List RuleD)
  | [] => none
  | r0 :: rows => if decide ((Txt.partition r0 " ").1 = "start") && (!decide ((Txt.partition r0 " ").2.1 = "") && isSym (Txt.partition r0 " ").2.2) then (match rdAll rows with
    | some rs => some ((Txt.partition r0 " ").2.2, rs)
    | none => none) else none
noncomputable def readP (text : Str) : Option (Str × List RuleD) := rowsRd (Txt.split text "\n")
theorem rdAll_some : ∀ {rows : List Str} {rs : List RuleD}, rdAll rows = some rs → rows.length = rs.length ∧ ∀ (i : Nat) (h : i < rows.length) (h' : i < rs.length), ruleRd rows[i] = some rs[i]
  | [], rs, h => by
    cases (show some [] = some rs from h)
    exact ⟨rfl, fun i h => absurd h (by simp)⟩
  | r :: rows, rs, h => by
    unfold rdAll at h
    split at h
    · rename_i x xs h1 h2
      cases h
      obtain ⟨a, b⟩ := rdAll_some h2
      refine ⟨by simp [a], fun i hi hi' => ?_⟩
      cases i with
      | zero => exact h1
      | succ i => exact b i (by simpa using hi) (by simpa using hi')
    · cases h
theorem rdAll_none : ∀ {rows : List Str}, rdAll rows = none → ∃ (i : Nat) (h : i < rows.length), ruleRd rows[i] = none
  | [], h => by cases (show some [] = none from h)
  | r :: rows, h => by
    cases h1 : ruleRd r with
    | none => exact ⟨0, by simp, h1⟩
    | some x =>
      cases h2 : rdAll rows with
      | none =>
        obtain ⟨i, hi, e⟩ := rdAll_none h2
        exact ⟨i + 1, by simpa using hi, e⟩
      | some xs =>
        unfold rdAll at h
        rw [h1, h2] at h
        cases h
theorem rdAll_of : ∀ {rows : List Str} {rs : List RuleD}, rows.length = rs.length → (∀ (i : Nat) (h : i < rows.length) (h' : i < rs.length), ruleRd rows[i] = some rs[i]) → rdAll rows = some rs
  | [], [], _, _ => rfl
  | r :: rows, x :: rs, hl, h => by
    have h0 := h 0 (by simp) (by simp)
    have h1 := rdAll_of (rows := rows) (rs := rs) (by simpa using hl) fun i hi hi' => h (i + 1) (by simpa using hi) (by simpa using hi')
    unfold rdAll
    rw [h1]
    simp only [List.getElem_cons_zero] at h0
    rw [h0]
/-- a coprime pair is its share -/
theorem shD_pair {t b : Nat} (hb : 1 ≤ b) (h : Int.gcd t b = 1) : shD (shr t b) = .tuple [.int (t : Int), .int (b : Int)] := by
  have h1 : (shr (t : Int) (b : Int)).num = t := by
    rw [shr_num (by omega), h]
    simp
  have h2 : ((shr (t : Int) (b : Int)).den : Int) = b := by
    rw [shr_den (by omega), h]
    simp
  unfold shD
  rw [h1, h2]
theorem spl_ne (S : List Nat) : ∀ (l : List Nat) (k : Nat) (acc : List Nat), spl S k acc l ≠ []
  | [], k, acc => by rw [spl_nil]; simp
  | c :: r, 0, acc => by
    by_cases q : pre S (c :: r) = true
    · rw [spl_hit q]; simp
    · rw [spl_miss (by simpa using q)]; exact spl_ne S r 0 _
  | c :: r, k + 1, acc => spl_ne S r k acc
theorem split_ne {x y : Str} (hy : tl y ≠ []) (hk : y.cps.all (· < 256) = true) : Txt.split x y ≠ [] := fun z => by
  have h1 := split_spl x y hy (kind_ok hk)
  rw [z] at h1
  exact spl_ne _ _ _ _ h1.symm
theorem shr_nn' {t b : Int} (h1 : 0 ≤ t) (h2 : 1 ≤ b) : 0 ≤ shr t b := by
  refine Rat.num_nonneg.mp ?_
  rw [shr_num (by omega)]
  exact Int.ediv_nonneg h1 (Int.natCast_nonneg _)
theorem mid_ok {m : Str} (h : midOk m = true) : 0 ≤ midV m ∧ Bt 200 (midV m) ∧ shD (midV m) = .tuple [.int (numV (Txt.partition (cutS m none (some (-1))) "/").1 : Int), .int (numV (Txt.partition (cutS m none (some (-1))) "/").2.2 : Int)] := by
  unfold midOk at h
  rw [Bool.and_eq_true, Bool.and_eq_true, Bool.and_eq_true, decide_eq_true_iff, decide_eq_true_iff] at h
  obtain ⟨_, h2, h3, h4⟩ := h
  have p3 := numV_pos h3
  have b2 := numV_bits h2
  have b3 := numV_bits h3
  refine ⟨shr_nn' (by omega) (by omega), bt_shr (m := 200) (by omega) (intBits_le_iff.mpr ?_) (intBits_le_iff.mpr ?_), shD_pair p3 h4⟩
  · simpa using b2
  · simpa using b3
theorem wordsRd_ok {W : List Str} {r : RuleD} (ht : ∀ p ∈ W, TxtOk p) (h : wordsRd W = some r) : RuleOk r := by
  match W, h with
  | h0 :: m :: s :: b, h =>
    have h : (if decide ((s :: b).length ≤ 4) && (midOk m && (isSym h0 && (s :: b).all isSym)) then some (⟨h0, s :: b, midV m⟩ : RuleD) else none) = some r := h
    by_cases q : (decide ((s :: b).length ≤ 4) && (midOk m && (isSym h0 && (s :: b).all isSym))) = true
    · rw [if_pos q] at h
      rw [Bool.and_eq_true, Bool.and_eq_true, decide_eq_true_iff] at q
      obtain ⟨q1, q2, _⟩ := q
      obtain ⟨m1, m2, _⟩ := mid_ok q2
      cases h
      exact ⟨ht h0 (by simp), fun x hx => ht x (by simp at hx ⊢; rcases hx with z | z; exact .inr (.inr (.inl z)); exact .inr (.inr (.inr z))), Nat.le_trans q1 (by decide), m1, m2.mono (by decide)⟩
    · rw [if_neg q] at h; cases h
theorem blank_ok : tl (" " : Str) = [32] ∧ (" " : Str).cps.all (· < 256) = true := ⟨by decide +kernel, by decide +kernel⟩
theorem feed_ok : tl ("\n" : Str) = [10] ∧ ("\n" : Str).cps.all (· < 256) = true := ⟨by decide +kernel, by decide +kernel⟩
theorem slash_ok : tl ("/" : Str) = [47] ∧ ("/" : Str).cps.all (· < 256) = true := ⟨by decide +kernel, by decide +kernel⟩
theorem ruleRd_ok {row : Str} {r : RuleD} (ht : TxtOk row) (h : ruleRd row = some r) : RuleOk r :=
  wordsRd_ok (split_txt ht (by rw [blank_ok.1]; simp) blank_ok.2) h
end G91

/-! Ma34: grammars written as texts: what is written is read. -/
namespace G91
open PySem PySem.Spec PyProof.Rows L2 TL
def numS (i : Int) : Str := Str.ofString (toString i)
def rowOf (r : RuleD) : Str := r.head ++ " " ++ numS r.part.num ++ "/" ++ numS (r.part.den : Int) ++ ": " ++ Txt.join " " r.body
def textOf (st : Str) (rs : List RuleD) : Str := Txt.join "\n" (("start " ++ st) :: rs.map rowOf)
theorem tl_numS (n : Nat) : tl (numS (n : Int)) = numL n := tl_num n
theorem tl_lit : tl (" " : Str) = [32] ∧ tl ("/" : Str) = [47] ∧ tl (": " : Str) = [58, 32] ∧ tl (":" : Str) = [58] ∧ tl ("\n" : Str) = [10] ∧ tl ("start " : Str) = [115, 116, 97, 114, 116, 32] ∧ tl ("start" : Str) = [115, 116, 97, 114, 116] :=
  ⟨by decide +kernel, by decide +kernel, by decide +kernel, by decide +kernel, by decide +kernel, by decide +kernel, by decide +kernel⟩
/-- a rule as it may be written -/
structure Wr (r : RuleD) : Prop where
  head : isSym r.head = true
  body : ∀ s ∈ r.body, isSym s = true
  b1 : 1 ≤ r.body.length
  b4 : r.body.length ≤ 4
  num : ∃ n : Nat, r.part.num = (n : Int) ∧ 1 ≤ n ∧ n < 10 ^ 60
  den : r.part.den < 10 ^ 60
theorem sym_signs {s : Str} (h : isSym s = true) : (tl s).length ≤ 8 ∧ tl s ≠ [] ∧ ∀ c ∈ tl s, (97 ≤ c ∧ c ≤ 122) ∨ (65 ≤ c ∧ c ≤ 90) := by
  unfold isSym at h
  simp only [Bool.and_eq_true, decide_eq_true_eq, List.all_eq_true] at h
  obtain ⟨h1, h2, h3⟩ := h
  refine ⟨by simpa using h2, fun z => h1 (by have := congrArg List.length z; simpa using this), fun c hc => ?_⟩
  have h4 := h3 c hc
  have e : letters.cps.toList = [97, 98, 99, 100, 101, 102, 103, 104, 105, 106, 107, 108, 109, 110, 111, 112, 113, 114, 115, 116, 117, 118, 119, 120, 121, 122, 65, 66, 67, 68, 69, 70, 71, 72, 73, 74, 75, 76, 77, 78, 79, 80, 81, 82, 83, 84, 85, 86, 87, 88, 89, 90] := by decide +kernel
  rw [e] at h4
  simp only [List.mem_cons, List.not_mem_nil, or_false] at h4
  omega
theorem sym_free {s : Str} (h : isSym s = true) {c : Nat} (hc : c < 65) : c ∉ tl s := fun hm => by
  have := (sym_signs h).2.2 c hm
  omega
theorem numL_head : ∀ (n : Nat), 1 ≤ n → (numL n).head? ≠ some 48 := by
  intro n
  induction n using Nat.strongRecOn with
  | _ n ih =>
    intro h
    by_cases q : n < 10
    · rw [numL_lt q]
      simp
      omega
    · rw [numL_step (by omega)]
      have h1 := ih (n / 10) (by omega) (by omega)
      match hl : numL (n / 10) with
      | [] => exact absurd hl (numL_ne _)
      | c :: l => rw [hl] at h1; exact h1
theorem numS_ok {n : Nat} (h1 : 1 ≤ n) (h2 : n < 10 ^ 60) : numOk (numS (n : Int)) = true ∧ numV (numS (n : Int)) = n := by
  have e : (numS (n : Int)).cps.toList = numL n := tl_numS n
  have hl := numL_len (k := 60) (by decide) h2
  have hs : (numS (n : Int)).cps.size = (numL n).length := by rw [← e]; simp
  refine ⟨numOk_iff.mpr ⟨fun z => ?_, by rw [hs]; exact hl, by rw [e]; exact numL_head n h1, by rw [e]; exact numL_digits n⟩, by unfold numV; rw [e]; exact numL_val n⟩
  rw [hs] at z
  exact numL_ne n (List.eq_nil_of_length_eq_zero z)
theorem cutS_last {a b : Str} (hb : (tl b).length = 1) : cutS (a ++ b) (some (-1)) none = b ∧ cutS (a ++ b) none (some (-1)) = a := by
  have hl : (a ++ b).length = (tl a).length + 1 := by rw [len_tl, tl_append, List.length_append, hb]
  have e1 : HT.sIx (a ++ b).length 0 (some (-1)) = (tl a).length := by
    unfold HT.sIx
    show (if (-1 : Int) < 0 then (-1 + ((a ++ b).length : Int)).toNat else _) = _
    rw [if_pos (by decide), hl]
    omega
  have e2 : HT.sIx (a ++ b).length (a ++ b).length (some (-1)) = (tl a).length := by
    unfold HT.sIx
    show (if (-1 : Int) < 0 then (-1 + ((a ++ b).length : Int)).toNat else _) = _
    rw [if_pos (by decide), hl]
    omega
  have e3 : HT.sIx (a ++ b).length 0 none = 0 := rfl
  have e4 : HT.sIx (a ++ b).length (a ++ b).length none = (a ++ b).length := rfl
  constructor
  · refine ext_tl ?_
    show ((tl (a ++ b)).drop (HT.sIx (a ++ b).length 0 (some (-1)))).take (HT.sIx (a ++ b).length (a ++ b).length none - HT.sIx (a ++ b).length 0 (some (-1))) = tl b
    rw [e1, e4, hl, tl_append, List.drop_left, List.take_of_length_le (by omega)]
  · refine ext_tl ?_
    show ((tl (a ++ b)).drop (HT.sIx (a ++ b).length 0 none)).take (HT.sIx (a ++ b).length (a ++ b).length (some (-1)) - HT.sIx (a ++ b).length 0 none) = tl a
    rw [e2, e3, tl_append, List.drop_zero, Nat.sub_zero, List.take_left]
theorem numS_free {n c : Nat} (h : c < 48 ∨ 57 < c) : c ∉ tl (numS (n : Int)) := by rw [tl_numS]; exact numL_free h
theorem app_free {a b : Str} {c : Nat} (h1 : c ∉ tl a) (h2 : c ∉ tl b) : c ∉ tl (a ++ b) := by
  rw [tl_append, List.mem_append]
  exact fun h => h.elim h1 h2
theorem mid_read {n d : Nat} (h1 : 1 ≤ n) (h2 : n < 10 ^ 60) (h3 : 1 ≤ d) (h4 : d < 10 ^ 60) (hg : Int.gcd n d = 1) : midOk (numS n ++ "/" ++ numS d ++ ":") = true ∧ midV (numS n ++ "/" ++ numS d ++ ":") = shr n d := by
  obtain ⟨c1, c2⟩ := cutS_last (a := numS n ++ "/" ++ numS d) (b := ":") (by rw [tl_lit.2.2.2.1]; rfl)
  have hp : Txt.partition (numS n ++ "/" ++ numS d) "/" = (numS n, ("/" : Str), numS d) := partition_app tl_lit.2.1 (numS_free (by decide))
  obtain ⟨a1, a2⟩ := numS_ok h1 h2
  obtain ⟨b1, b2⟩ := numS_ok h3 h4
  unfold midOk midV
  rw [c1, c2, hp]
  simp only [a1, a2, b1, b2]
  exact ⟨by simpa using hg, trivial⟩
theorem join_tl (ys : List Str) : tl (Txt.join " " ys) = joinL [32] (ys.map tl) := by rw [join_eq, tl_join, tl_lit.1]
theorem row_join {r : RuleD} (w : Wr r) : rowOf r = Txt.join " " (r.head :: (numS r.part.num ++ "/" ++ numS (r.part.den : Int) ++ ":") :: r.body) := by
  refine ext_tl ?_
  obtain ⟨s, b, hb⟩ : ∃ s b, r.body = s :: b := by
    match h : r.body with
    | [] => have := w.b1; rw [h] at this; simp at this
    | s :: b => exact ⟨s, b, rfl⟩
  unfold rowOf
  rw [join_tl, hb]
  simp only [tl_append, join_tl, tl_lit.1, tl_lit.2.1, tl_lit.2.2.1, tl_lit.2.2.2.1, List.map_cons, joinL]
  simp
theorem words_free {r : RuleD} (w : Wr r) : ∀ p ∈ r.head :: (numS r.part.num ++ "/" ++ numS (r.part.den : Int) ++ ":") :: r.body, ∀ c, c ≤ 32 → c ∉ tl p := by
  obtain ⟨n, hn, _⟩ := w.num
  intro p hp c hc
  rcases List.mem_cons.mp hp with e | hp
  · rw [e]; exact sym_free w.head (by omega)
  rcases List.mem_cons.mp hp with e | hp
  · rw [e, hn]
    refine app_free (app_free (app_free (numS_free (by omega)) ?_) (numS_free (by omega))) ?_
    · rw [tl_lit.2.1]; simp; omega
    · rw [tl_lit.2.2.2.1]; simp; omega
  · exact sym_free (w.body p hp) (by omega)
theorem row_read {r : RuleD} (w : Wr r) : ruleRd (rowOf r) = some r := by
  unfold ruleRd
  rw [row_join w, split_join (s := 32) (S := []) tl_lit.1 blank_ok.2 (by simp) fun p hp => words_free w p hp 32 (by decide)]
  obtain ⟨n, hn, n1, n2⟩ := w.num
  obtain ⟨s, b, hb⟩ : ∃ s b, r.body = s :: b := by
    match h : r.body with
    | [] => have := w.b1; rw [h] at this; simp at this
    | s :: b => exact ⟨s, b, rfl⟩
  have hd : 1 ≤ r.part.den := r.part.den_pos
  have hg : Int.gcd (n : Int) (r.part.den : Int) = 1 := by
    have := r.part.reduced
    have h2 : r.part.num.natAbs = n := by rw [hn]; rfl
    rw [h2] at this
    exact this
  obtain ⟨m1, m2⟩ := mid_read n1 n2 hd w.den hg
  have e : shr (n : Int) (r.part.den : Int) = r.part := by rw [← hn]; exact shr_self r.part
  rw [e] at m2
  rw [← hn] at m1 m2
  have h4 := w.b4
  have hbs : r.body.all isSym = true := List.all_eq_true.mpr w.body
  obtain ⟨hd', bd, pt⟩ := r
  have hb : bd = s :: b := hb
  subst hb
  show (if decide ((s :: b).length ≤ 4) && (midOk (numS pt.num ++ "/" ++ numS (pt.den : Int) ++ ":") && (isSym hd' && (s :: b).all isSym)) then some (⟨hd', s :: b, midV (numS pt.num ++ "/" ++ numS (pt.den : Int) ++ ":")⟩ : RuleD) else none) = _
  have m1 : midOk (numS pt.num ++ "/" ++ numS (pt.den : Int) ++ ":") = true := m1
  have m2 : midV (numS pt.num ++ "/" ++ numS (pt.den : Int) ++ ":") = pt := m2
  rw [m1, m2, decide_eq_true h4, w.head, hbs]
  rfl
theorem row_feed {r : RuleD} (w : Wr r) : 10 ∉ tl (rowOf r) := by
  obtain ⟨n, hn, _⟩ := w.num
  unfold rowOf
  have hj : ∀ (ys : List Str), (∀ p ∈ ys, 10 ∉ tl p) → 10 ∉ joinL [32] (ys.map tl) := by
    intro ys
    induction ys with
    | nil => intro _; simp [joinL]
    | cons y ys ih =>
      intro h
      have h1 := h y (by simp)
      have h2 := ih fun p hp => h p (List.mem_cons_of_mem _ hp)
      cases ys with
      | nil => exact h1
      | cons z zs =>
        show 10 ∉ tl y ++ ([32] ++ joinL [32] ((z :: zs).map tl))
        simp only [List.mem_append, List.mem_singleton]
        rintro (q | q | q)
        · exact h1 q
        · omega
        · exact h2 q
  refine app_free (app_free (app_free (app_free (app_free (app_free (sym_free w.head (by decide)) ?_) (by rw [hn]; exact numS_free (by decide))) ?_) (numS_free (by decide))) ?_) ?_
  · rw [tl_lit.1]; simp
  · rw [tl_lit.2.1]; simp
  · rw [tl_lit.2.2.1]; simp
  · rw [join_tl]; exact hj _ fun p hp => sym_free (w.body p hp) (by decide)
theorem start_feed {st : Str} (h : isSym st = true) : 10 ∉ tl ("start " ++ st) := app_free (by rw [tl_lit.2.2.2.2.2.1]; simp) (sym_free h (by decide))
theorem text_rows {st : Str} {rs : List RuleD} (h : isSym st = true) (w : ∀ r ∈ rs, Wr r) : Txt.split (textOf st rs) "\n" = ("start " ++ st) :: rs.map rowOf := by
  unfold textOf
  refine split_join (s := 10) (S := []) tl_lit.2.2.2.2.1 feed_ok.2 (by simp) fun p hp => ?_
  rcases List.mem_cons.mp hp with e | hp
  · rw [e]; exact start_feed h
  · obtain ⟨r, hr, rfl⟩ := List.mem_map.mp hp
    exact row_feed (w r hr)
theorem rd_map : ∀ {rs : List RuleD}, (∀ r ∈ rs, Wr r) → rdAll (rs.map rowOf) = some rs
  | [], _ => rfl
  | r :: rs, w => by
    have h1 := row_read (w r (by simp))
    have h2 := rd_map fun x hx => w x (List.mem_cons_of_mem _ hx)
    show (match ruleRd (rowOf r), rdAll (rs.map rowOf) with | some x, some xs => some (x :: xs) | _, _ => none) = _
    rw [h1, h2]
theorem start_part {st : Str} (h : isSym st = true) : Txt.partition ("start " ++ st) " " = (("start" : Str), (" " : Str), st) := by
  have e : ("start " ++ st : Str) = "start" ++ " " ++ st := ext_tl (by rw [tl_append, tl_append, tl_append, tl_lit.2.2.2.2.2.1, tl_lit.2.2.2.2.2.2, tl_lit.1]; rfl)
  rw [e]
  exact partition_app (s := 32) (S := []) tl_lit.1 (by rw [tl_lit.2.2.2.2.2.2]; simp)
theorem rowsRd_cons {r0 : Str} {rows : List Str} : rowsRd (r0 :: rows) = if decide ((Txt.partition r0 " ").1 = "start") && (!decide ((Txt.partition r0 " ").2.1 = "") && isSym (Txt.partition r0 " ").2.2) then (match rdAll rows with
    | some rs => some ((Txt.partition r0 " ").2.2, rs)
    | none => none) else none := rfl
theorem text_read {st : Str} {rs : List RuleD} (h : isSym st = true) (w : ∀ r ∈ rs, Wr r) : readP (textOf st rs) = some (st, rs) := by
  unfold readP
  rw [text_rows h w, rowsRd_cons, start_part h, rd_map w]
  show (if decide (("start" : Str) = "start") && (!decide ((" " : Str) = "") && isSym st) then some (st, rs) else none) = _
  have hb : decide ((" " : Str) = "") = false := by decide +kernel
  rw [decide_eq_true rfl, hb, h]
  rfl
/-! lengths -/
theorem row_txt {r : RuleD} (w : Wr r) (hh : TxtOk r.head) (hb : ∀ s ∈ r.body, TxtOk s) : TxtOk (rowOf r) ∧ (tl (rowOf r)).length ≤ 200 := by
  obtain ⟨n, hn, _, hn2⟩ := w.num
  have l1 := (sym_signs w.head).1
  have l2 := numL_len (k := 60) (by decide) hn2
  have l3 := numL_len (k := 60) (by decide) w.den
  have hj : ∀ (ys : List Str), (∀ p ∈ ys, (tl p).length ≤ 8) → (joinL [32] (ys.map tl)).length ≤ 9 * ys.length := by
    intro ys
    induction ys with
    | nil => intro _; simp [joinL]
    | cons y ys ih =>
      intro h
      have h1 := h y (by simp)
      have h2 := ih fun p hp => h p (List.mem_cons_of_mem _ hp)
      cases ys with
      | nil => show (tl y).length ≤ _; simp; simp at h1; omega
      | cons z zs =>
        show (tl y ++ ([32] ++ joinL [32] ((z :: zs).map tl))).length ≤ _
        simp only [List.length_append, List.length_singleton, List.length_cons, List.length_nil] at h2 ⊢
        omega
  have l4 := hj r.body fun p hp => (sym_signs (w.body p hp)).1
  have hjc : ∀ (ys : List Str), (∀ p ∈ ys, ∀ c ∈ tl p, c < 0x110000) → ∀ c ∈ joinL [32] (ys.map tl), c < 0x110000 := by
    intro ys
    induction ys with
    | nil => intro _ c hc; cases hc
    | cons y ys ih =>
      intro h c hc
      have h2 := ih fun p hp => h p (List.mem_cons_of_mem _ hp)
      cases ys with
      | nil => exact h y (by simp) c hc
      | cons z zs =>
        have hc : c ∈ tl y ++ ([32] ++ joinL [32] ((z :: zs).map tl)) := hc
        rcases List.mem_append.mp hc with q | q
        · exact h y (by simp) c q
        rcases List.mem_append.mp q with q | q
        · rw [List.mem_singleton.mp q]; decide
        · exact h2 c q
  have e : tl (rowOf r) = tl r.head ++ [32] ++ numL n ++ [47] ++ numL r.part.den ++ [58, 32] ++ joinL [32] (r.body.map tl) := by
    unfold rowOf
    rw [hn]
    simp only [tl_append, tl_lit.1, tl_lit.2.1, tl_lit.2.2.1, join_tl, tl_numS]
  have hlen : (tl (rowOf r)).length ≤ 200 := by
    have := w.b4
    rw [e]
    simp only [List.length_append, List.length_singleton, List.length_cons, List.length_nil] at l4 ⊢
    omega
  refine ⟨txtOk_iff.mpr ⟨by omega, fun c hc => ?_⟩, hlen⟩
  rw [e] at hc
  simp only [List.mem_append, List.mem_cons, List.not_mem_nil, or_false] at hc
  rcases hc with (((((hc | hc) | hc) | hc) | hc) | hc) | hc
  · exact (txtOk_iff.mp hh).2 c hc
  · omega
  · have := numL_digits n c hc; omega
  · omega
  · have := numL_digits r.part.den c hc; omega
  · omega
  · exact hjc _ (fun p hp => (txtOk_iff.mp (hb p hp)).2) c hc
theorem start_txt {st : Str} (h : isSym st = true) (ht : TxtOk st) : TxtOk ("start " ++ st) ∧ (tl ("start " ++ st)).length ≤ 20 := by
  have l1 := (sym_signs h).1
  have e : tl ("start " ++ st) = [115, 116, 97, 114, 116, 32] ++ tl st := by rw [tl_append, tl_lit.2.2.2.2.2.1]
  have hl : (tl ("start " ++ st)).length ≤ 20 := by rw [e]; simp; simp at l1; omega
  refine ⟨txtOk_iff.mpr ⟨by omega, fun c hc => ?_⟩, hl⟩
  rw [e] at hc
  rcases List.mem_append.mp hc with q | q
  · simp at q; omega
  · exact (txtOk_iff.mp ht).2 c q
end G91

/-! Ma35: a grammar with one head's rules taken for two others. -/
namespace G91
open PySem PySem.Spec PyProof.Rows L2
theorem wr_of {r : RuleD} (hg : goodRule r = true) (hn : 0 ≤ r.part) (h1 : r.part.num < 10 ^ 60) (h2 : r.part.den < 10 ^ 60) : Wr r := by
  unfold goodRule at hg
  simp only [Bool.and_eq_true, decide_eq_true_eq, Bool.not_eq_true', decide_eq_false_iff_not, List.all_eq_true] at hg
  obtain ⟨⟨⟨h3, h4, h5⟩, h6⟩, h7⟩ := hg
  have h8 := num_nn hn
  refine ⟨h3, h7, h4, h5, ⟨r.part.num.toNat, by omega, by omega, by omega⟩, h2⟩
theorem wr_bits {r : RuleD} (hg : goodRule r = true) (hn : 0 ≤ r.part) (hb : Bt 6 r.part) : Wr r := by
  have h1 := intBits_le_iff.mp hb.1
  have h2 := intBits_le_iff.mp hb.2
  have e : (2 : Nat) ^ 6 = 64 := by decide
  rw [e] at h1 h2
  refine wr_of hg hn ?_ ?_
  · have : (64 : Int) ≤ 10 ^ 60 := by decide
    omega
  · have : 64 ≤ 10 ^ 60 := by decide
    have h2 : r.part.den < 64 := by simpa using h2
    omega
/-- two rules for one head -/
noncomputable def twoR (h w : Str) (a b : Int) (rs : List RuleD) : List RuleD := ⟨h, [w, w], shr b (a + b)⟩ :: ⟨h, [w], shr a (a + b)⟩ :: rs.filter fun r => !decide (r.head = h)
theorem shr_wr {a b : Int} (ha : 1 ≤ a) (hab : a ≤ b) (hb : b < 10 ^ 60) : (shr a b).num ≠ 0 ∧ (shr a b).num < 10 ^ 60 ∧ (shr a b).den < 10 ^ 60 ∧ Bt 200 (shr a b) ∧ 0 ≤ shr a b := by
  have e1 := shr_num (t := a) (b := b) (by omega)
  have e2 := shr_den (t := a) (b := b) (by omega)
  have hg : (1 : Int) ≤ (Int.gcd a b : Int) := by
    have : Int.gcd a b ≠ 0 := fun z => by rw [Int.gcd_eq_zero_iff] at z; omega
    omega
  have d1 : (Int.gcd a b : Int) ∣ a := Int.gcd_dvd_left ..
  have l1 : a / (Int.gcd a b : Int) ≤ a := Int.ediv_le_self _ (by omega)
  have l2 : b / (Int.gcd a b : Int) ≤ b := Int.ediv_le_self _ (by omega)
  have p1 : 1 ≤ a / (Int.gcd a b : Int) := by
    obtain ⟨q, hq⟩ := d1
    have : a / (Int.gcd a b : Int) = q := by rw [hq]; rw [← hq]; exact Int.ediv_eq_of_eq_mul_right (by omega) hq
    rw [this]
    by_cases z : q ≤ 0
    · have := Int.mul_le_mul_of_nonneg_left z (show 0 ≤ (Int.gcd a b : Int) by omega)
      rw [← hq] at this
      omega
    · omega
  have k60 : (10 : Int) ^ 60 < 2 ^ 200 := by decide
  have k60n : (10 : Nat) ^ 60 < 2 ^ 200 := by decide
  have hden : (shr a b).den < 10 ^ 60 := by
    have : ((shr a b).den : Int) < 10 ^ 60 := by omega
    have e : ((10 ^ 60 : Nat) : Int) = (10 : Int) ^ 60 := by decide
    omega
  refine ⟨by omega, by omega, hden, ⟨intBits_le_iff.mpr ?_, intBits_le_iff.mpr ?_⟩, shr_nn' (by omega) (by omega)⟩
  · have e : ((2 ^ 200 : Nat) : Int) = (2 : Int) ^ 200 := by decide
    omega
  · show ((shr a b).den : Int).natAbs < 2 ^ 200
    rw [Int.natAbs_natCast]
    omega
theorem shr_two {a b : Int} (ha : 1 ≤ a) (hb : 1 ≤ b) : shr b (a + b) + shr a (a + b) = 1 := by
  rw [shr_eq _ _ (by omega), shr_eq _ _ (by omega), Rat.div_def, Rat.div_def, ← Rat.add_mul, ← Rat.intCast_add, Int.add_comm b a]
  have : (0 : Rat) < (((a + b : Int)) : Rat) := rat_pos (by omega)
  generalize (((a + b : Int)) : Rat) = x at *
  exact Rat.mul_inv_cancel x (by grind)
section
variable {h w st : Str} {a b : Int} {rs : List RuleD} (hh : isSym h = true) (hw : isSym w = true) (ha : 1 ≤ a) (hb : 1 ≤ b) (ha2 : a ≤ 10 ^ 59) (hb2 : b ≤ 10 ^ 59) (hg : ∀ r ∈ rs, goodRule r = true) (hd : rs.Pairwise fun a b => ¬ (a.head = b.head ∧ a.body = b.body)) (h1 : ∀ h ∈ headsOf rs, partSum rs h = 1) (hn : rs.length ≤ 9)
include hh hw ha hb ha2 hb2
theorem two_rules : ∀ r ∈ twoR h w a b rs, (r ∈ rs ∧ r.head ≠ h) ∨ (r.head = h ∧ goodRule r = true ∧ 0 ≤ r.part ∧ Bt 200 r.part ∧ Wr r ∧ ∀ s ∈ r.body, s = w) := by
  have k : (10 : Int) ^ 59 + 10 ^ 59 < 10 ^ 60 := by decide
  obtain ⟨a1, a2, a3, a4, a5⟩ := shr_wr (a := a) (b := a + b) ha (by omega) (by omega)
  obtain ⟨b1, b2, b3, b4, b5⟩ := shr_wr (a := b) (b := a + b) hb (by omega) (by omega)
  intro r hr
  rcases List.mem_cons.mp hr with e | hr
  · subst e
    have g : goodRule ⟨h, [w, w], shr b (a + b)⟩ = true := by
      unfold goodRule
      simp [hh, hw, b1]
    exact .inr ⟨rfl, g, b5, b4, wr_of g b5 b2 b3, fun s hs => by simp at hs; exact hs⟩
  rcases List.mem_cons.mp hr with e | hr
  · subst e
    have g : goodRule ⟨h, [w], shr a (a + b)⟩ = true := by
      unfold goodRule
      simp [hh, hw, a1]
    exact .inr ⟨rfl, g, a5, a4, wr_of g a5 a2 a3, fun s hs => by simp at hs; exact hs⟩
  · obtain ⟨q1, q2⟩ := List.mem_filter.mp hr
    exact .inl ⟨q1, by simpa using q2⟩
omit hh hw ha hb ha2 hb2 in
theorem partSum_filter {x : Str} : ∀ {l : List RuleD}, partSum (l.filter fun r => !decide (r.head = h)) x = if x = h then 0 else partSum l x
  | [] => by show (0 : Rat) = if x = h then 0 else 0; split <;> rfl
  | r :: l => by
    have ih := partSum_filter (x := x) (l := l)
    rw [List.filter_cons]
    by_cases q : r.head = h
    · rw [if_neg (by simp [q]), ih]
      by_cases z : x = h
      · rw [if_pos z, if_pos z]
      · rw [if_neg z, if_neg z]
        show partSum l x = (if r.head = x then r.part else 0) + partSum l x
        rw [if_neg (fun y => z (y.symm.trans q)), Rat.zero_add]
    · rw [if_pos (by simp [q])]
      show (if r.head = x then r.part else 0) + partSum (l.filter fun r => !decide (r.head = h)) x = _
      rw [ih]
      by_cases z : x = h
      · rw [if_pos z, if_pos z, if_neg (fun y => q (y.trans z)), Rat.zero_add]
      · rw [if_neg z, if_neg z]
        rfl
include hg hd h1 hn
theorem two_good (hst : st = h ∨ st ∈ headsOf rs) (hss : isSym st = true) : GoodG st (twoR h w a b rs) := by
  have hr := two_rules hh hw ha hb ha2 hb2 (rs := rs)
  refine ⟨hss, by simp [twoR], ?_, fun r hrm => ?_, ?_, ?_, ?_⟩
  · have := List.length_filter_le (fun r => !decide (r.head = h)) rs
    show (rs.filter _).length + 1 + 1 ≤ 30
    omega
  · rcases hr r hrm with ⟨q, _⟩ | ⟨_, q, _⟩
    · exact hg r q
    · exact q
  · refine List.pairwise_cons.mpr ⟨fun x hx => ?_, List.pairwise_cons.mpr ⟨fun x hx => ?_, hd.sublist (List.filter_sublist ..)⟩⟩
    · rcases List.mem_cons.mp hx with e | hx
      · subst e; rintro ⟨_, q⟩; simp at q
      · have q2 := (List.mem_filter.mp hx).2
        rintro ⟨q, _⟩
        simp at q2
        exact q2 q.symm
    · have q2 := (List.mem_filter.mp hx).2
      rintro ⟨q, _⟩
      simp at q2
      exact q2 q.symm
  · by_cases e : st = h
    · rw [e]; exact mem_headsOf.mpr ⟨_, List.mem_cons_self, rfl⟩
    · rcases hst with q | q
      · exact absurd q e
      · obtain ⟨r, hr1, hr2⟩ := mem_headsOf.mp q
        refine mem_headsOf.mpr ⟨r, List.mem_cons_of_mem _ (List.mem_cons_of_mem _ (List.mem_filter.mpr ⟨hr1, ?_⟩)), hr2⟩
        simp [hr2, e]
  · intro x hx
    show (if h = x then shr b (a + b) else 0) + ((if h = x then shr a (a + b) else 0) + partSum (rs.filter fun r => !decide (r.head = h)) x) = 1
    rw [partSum_filter]
    by_cases e : x = h
    · rw [if_pos e.symm, if_pos e.symm, if_pos e, Rat.add_zero]
      exact shr_two ha hb
    · rw [if_neg (Ne.symm e), if_neg (Ne.symm e), if_neg e, Rat.zero_add, Rat.zero_add]
      refine h1 x ?_
      obtain ⟨r, hr1, hr2⟩ := mem_headsOf.mp hx
      rcases hr r hr1 with ⟨q, _⟩ | ⟨q, _⟩
      · exact mem_headsOf.mpr ⟨r, q, hr2⟩
      · exact absurd (hr2.symm.trans q) e
end
/-! the join's sizes -/
theorem sum_lens {c : Nat} : ∀ {ys : List Str}, (∀ p ∈ ys, (TL.tl p).length ≤ c) → (ys.map (·.length)).sum ≤ c * ys.length
  | [], _ => by simp
  | y :: ys, h => by
    have h1 := h y (by simp)
    have h2 := sum_lens fun p hp => h p (List.mem_cons_of_mem _ hp)
    rw [List.map_cons, List.sum_cons, List.length_cons, Nat.mul_add, Nat.mul_one, TL.len_tl]
    omega
theorem body_fit {r : RuleD} (w : Wr r) : (r.body.map (·.length)).sum + r.body.length * (" " : Str).length ≤ 100000 := by
  have h1 := sum_lens (c := 8) fun p hp => (sym_signs (w.body p hp)).1
  have h2 := w.b4
  have e : (" " : Str).length = 1 := by decide +kernel
  rw [e]
  omega
theorem text_fit {st : Str} {rs : List RuleD} (h : isSym st = true) (ht : TxtOk st) (hl : rs.length ≤ 30) (w : ∀ r ∈ rs, Wr r ∧ RuleOk r) : ((("start " ++ st) :: rs.map rowOf).map (·.length)).sum + (("start " ++ st) :: rs.map rowOf).length * ("\n" : Str).length ≤ 10000 := by
  have h1 := sum_lens (c := 200) (ys := ("start " ++ st) :: rs.map rowOf) fun p hp => by
    rcases List.mem_cons.mp hp with e | hp
    · rw [e]; have := (start_txt h ht).2; omega
    · obtain ⟨r, hr, rfl⟩ := List.mem_map.mp hp
      exact (row_txt (w r hr).1 (w r hr).2.head (w r hr).2.body).2
  have e : ("\n" : Str).length = 1 := by decide +kernel
  rw [e]
  simp only [List.length_cons, List.length_map] at h1 ⊢
  omega
theorem join_len (y : Str) : ∀ ys : List Str, (TL.tl (Txt.join y ys)).length ≤ (ys.map (·.length)).sum + ys.length * y.length := by
  intro ys
  rw [TL.join_eq, TL.tl_join]
  induction ys with
  | nil => exact Nat.zero_le _
  | cons a ys ih =>
    cases ys with
    | nil => show (TL.tl a).length ≤ _; rw [List.map_cons, List.sum_cons, ← TL.len_tl]; omega
    | cons b zs =>
      show (TL.tl a ++ (TL.tl y ++ TL.joinL (TL.tl y) ((b :: zs).map TL.tl))).length ≤ _
      have e1 : ((a :: b :: zs).map (·.length)).sum = a.length + ((b :: zs).map (·.length)).sum := by rw [List.map_cons, List.sum_cons]
      have e2 : (a :: b :: zs).length * y.length = (b :: zs).length * y.length + y.length := by rw [List.length_cons, Nat.add_mul, Nat.one_mul]
      rw [List.length_append, List.length_append, e1, e2, TL.len_tl a]
      rw [TL.len_tl y] at ih ⊢
      omega
theorem join_ok {y : Str} : ∀ {ys : List Str}, (∀ p ∈ ys, PyData.strOk p = true) → PyData.strOk y = true → PyData.strOk (Txt.join y ys) = true := by
  have key : ∀ x : Str, PyData.strOk x = true ↔ ∀ c ∈ TL.tl x, c < 0x110000 := fun x => by
    unfold PyData.strOk
    rw [Array.all_eq_true_iff_forall_mem]
    exact ⟨fun h c hc => of_decide_eq_true (h c (Array.mem_toList_iff.mp hc)), fun h c hc => decide_eq_true (h c (Array.mem_toList_iff.mpr hc))⟩
  intro ys h hy
  rw [key, TL.join_eq, TL.tl_join]
  replace hy := (key y).mp hy
  replace h : ∀ p ∈ ys, ∀ c ∈ TL.tl p, c < 0x110000 := fun p hp => (key p).mp (h p hp)
  induction ys with
  | nil => intro c hc; cases hc
  | cons a ys ih =>
    have ih := ih fun p hp => h p (List.mem_cons_of_mem _ hp)
    cases ys with
    | nil => exact h a (by simp)
    | cons b zs =>
      intro c hc
      have hc : c ∈ TL.tl a ++ (TL.tl y ++ TL.joinL (TL.tl y) ((b :: zs).map TL.tl)) := hc
      rcases List.mem_append.mp hc with q | q
      · exact h a (by simp) c q
      rcases List.mem_append.mp q with q | q
      · exact hy c q
      · exact ih c q
theorem text_ok {st : Str} {rs : List RuleD} (h : isSym st = true) (ht : TxtOk st) (w : ∀ r ∈ rs, Wr r ∧ RuleOk r) : PyData.strOk (textOf st rs) = true := by
  refine join_ok (fun p hp => ?_) (by decide +kernel)
  rcases List.mem_cons.mp hp with e | hp
  · rw [e]; exact (start_txt h ht).1.2
  · obtain ⟨r, hr, rfl⟩ := List.mem_map.mp hp
    exact (row_txt (w r hr).1 (w r hr).2.head (w r hr).2.body).1.2
end G91

/-! Ma36: texts refused. -/
namespace G91
open PySem PySem.Spec PyProof.Rows L2 TL
def oddL (A w n told : Str) : List (Int × Str × Int) :=
  [(0, ("begin " : Str) ++ A, 0),
   (0, ("start" : Str), 0),
   (0, ("start  " : Str) ++ A, 0),
   (0, ("start " : Str) ++ A ++ (" " : Str), 0),
   (0, ("start a1" : Str), 0),
   (0, ("Start " : Str) ++ A, 0),
   (1, A ++ (" " : Str) ++ cutS told none (some (-2)) ++ (" " : Str) ++ w, 0),
   (1, A ++ ("  " : Str) ++ told ++ w, 0),
   (1, A ++ (" " : Str) ++ told, 0),
   (1, A ++ (" " : Str) ++ told ++ w ++ (" " : Str), 0),
   (1, A ++ (" " : Str) ++ told ++ (" " : Str) ++ w, 0),
   (1, A ++ (" " : Str) ++ told ++ ("a1" : Str), 0),
   (1, ("" : Str), 0),
   (1, A ++ (" 0" : Str) ++ told ++ w, 0),
   (1, A ++ (" 0/1: " : Str) ++ w, 0),
   (1, A ++ (" 2/4: " : Str) ++ w, 0),
   (1, A ++ (" 1/" : Str) ++ Txt.mul (("1" : Str)) 61 ++ (": " : Str) ++ w, 0),
   (1, A ++ (" -" : Str) ++ told ++ w, 0),
   (1, A ++ (" +" : Str) ++ told ++ w, 0),
   (1, A ++ (" 1: " : Str) ++ w, 0),
   (1, A ++ (" 1/2/3: " : Str) ++ w, 0),
   (1, A ++ (" " : Str) ++ told ++ Txt.mul (w ++ (" " : Str)) 4 ++ w, 0),
   (1, (" " : Str) ++ A ++ (" " : Str) ++ told ++ w, 0),
   (1, A ++ (" 1/1000: " : Str) ++ w, 1),
   (0, ("start " : Str) ++ n, 1),
   (2, ("" : Str), 2),
   (2, ("" : Str), 3),
   (1, A ++ (" 99/100: " : Str) ++ w, 1),
   (1, A ++ (" 1_0/11: " : Str) ++ w, 0),
   (1, ("a1 " : Str) ++ told ++ w, 0),
   (1, A ++ (" " : Str) ++ cutS told none (some (-1)) ++ w, 0),
   (1, A ++ (" 1/" : Str) ++ ("0" : Str) ++ (": " : Str) ++ w, 0),
   (0, ("\nstart " : Str) ++ A, 0),
   (0, (" start " : Str) ++ A, 0),
   (2, ("" : Str), 4),
   (2, ("" : Str), 5),
   (2, ("" : Str), 6)]

def triD (t : Int × Str × Int) : PyData := .tuple [.int t.1, .str t.2.1, .int t.2.2]
def toldS (q : Rat) : Str := numS q.num ++ "/" ++ numS (q.den : Int) ++ ": "
theorem len_app (a b : Str) : (a ++ b).length = a.length + b.length := by rw [len_tl, len_tl, len_tl, tl_append, List.length_append]
theorem cutS_len {x : Str} {lo hi : Option Int} : (cutS x lo hi).length ≤ x.length := by
  rw [len_tl]
  show ((x.cps.toList.drop (HT.sIx x.length 0 lo)).take (HT.sIx x.length x.length hi - HT.sIx x.length 0 lo)).length ≤ _
  rw [List.length_take, List.length_drop]
  show _ ≤ x.cps.size
  have : x.cps.toList.length = x.cps.size := by simp
  omega
theorem fold_app : ∀ (l : List (Array Nat)) (a : Array Nat), (l.foldl (· ++ ·) a).toList = a.toList ++ (l.map Array.toList).flatten
  | [], a => by simp
  | x :: l, a => by
    rw [List.foldl_cons, fold_app l]
    simp
theorem mul_tl {x : Str} {n : Nat} (h : 1 ≤ n) : tl (Txt.mul x n) = (List.replicate n (tl x)).flatten := by
  unfold Txt.mul
  rw [if_neg (by omega)]
  by_cases q : (((n : Int) == 1) || x.length == 0) = true
  · rw [if_pos q]
    rcases Bool.or_eq_true _ _ |>.mp q with z | z
    · have z : (n : Int) = 1 := by simpa using z
      have z : n = 1 := by omega
      subst z
      simp
    · have z : x.length = 0 := by simpa using z
      have e : tl x = [] := List.eq_nil_of_length_eq_zero (by rw [← len_tl]; exact z)
      rw [e]
      simp
  · rw [if_neg q]
    show ((List.replicate (n : Int).toNat x.cps).foldl (· ++ ·) #[]).toList = _
    rw [fold_app, Int.toNat_natCast, List.map_replicate]
    rfl
end G91

/-! Ma37: what becomes of the texts that are other ones. -/
namespace G91
open PySem PySem.Spec PyProof.Rows L2 TL
def KindIs (text s : Str) : Prop := text.length ≤ 90000 ∧ (∀ p ∈ Txt.split text "\n", TxtOk p) ∧ (Txt.split text "\n").length ≤ 1000 ∧
  ((readP text = none ∧ s = "no text") ∨ ∃ st rs, readP text = some (st, rs) ∧ ((¬ GoodG st rs ∧ s = "no grammar") ∨ (GoodG st rs ∧ s = "read")))
/-- a row without line feeds -/
def PL (k : Nat) (x : Str) : Prop := (tl x).length ≤ k ∧ ∀ c ∈ tl x, c ≠ 10 ∧ c < 0x110000
theorem pl_app {a b : Nat} {x y : Str} (h1 : PL a x) (h2 : PL b y) : PL (a + b) (x ++ y) := by
  unfold PL
  rw [tl_append, List.length_append]
  exact ⟨Nat.add_le_add h1.1 h2.1, fun c hc => (List.mem_append.mp hc).elim (h1.2 c) (h2.2 c)⟩
theorem pl_le {a b : Nat} {x : Str} (h : PL a x) (hab : a ≤ b) : PL b x := ⟨Nat.le_trans h.1 hab, h.2⟩
theorem pl_sym {x : Str} (h : isSym x = true) : PL 8 x := ⟨(sym_signs h).1, fun c hc => by have := (sym_signs h).2.2 c hc; omega⟩
theorem pl_lit {x : Str} (h : (tl x).length ≤ 20 ∧ ∀ c ∈ tl x, c ≠ 10 ∧ c < 0x110000) : PL 20 x := h
theorem cut_mem {x : Str} {lo hi : Option Int} {c : Nat} (h : c ∈ tl (cutS x lo hi)) : c ∈ tl x := by
  have h : c ∈ ((x.cps.toList.drop (HT.sIx x.length 0 lo)).take (HT.sIx x.length x.length hi - HT.sIx x.length 0 lo)) := h
  exact List.mem_of_mem_drop (List.mem_of_mem_take h)
theorem pl_cut {a : Nat} {x : Str} {lo hi : Option Int} (h : PL a x) : PL a (cutS x lo hi) := by
  refine ⟨?_, fun c hc => h.2 c (cut_mem hc)⟩
  have := cutS_len (x := x) (lo := lo) (hi := hi)
  rw [len_tl, len_tl] at this
  exact Nat.le_trans this h.1
theorem pl_num {n : Nat} (h : n < 10 ^ 60) : PL 60 (numS (n : Int)) := by
  refine ⟨by rw [tl_numS]; exact numL_len (by decide) h, fun c hc => ?_⟩
  rw [tl_numS] at hc
  have := numL_digits n c hc
  omega
theorem pl_mul4 {x : Str} (h : PL 8 x) : PL 40 (Txt.mul (x ++ (" " : Str)) 4) := by
  have e : tl (Txt.mul (x ++ (" " : Str)) 4) = _ := mul_tl (x := x ++ (" " : Str)) (n := 4) (by decide)
  have h1 : tl (x ++ (" " : Str)) = tl x ++ [32] := by rw [tl_append, tl_lit.1]
  unfold PL
  rw [e, h1]
  have h2 := h.1
  refine ⟨?_, fun c hc => ?_⟩
  · simp only [List.replicate, List.flatten_cons, List.length_append, List.flatten_nil, List.length_nil, List.length_singleton]
    omega
  · simp only [List.replicate, List.flatten_cons, List.flatten_nil, List.mem_append, List.mem_singleton, List.not_mem_nil, or_false] at hc
    rcases hc with (q | q) | (q | q) | (q | q) | (q | q)
    all_goals first | exact h.2 c q | omega
theorem rows_len : ∀ {rows : List Str}, (∀ p ∈ rows, PL 700 p) → (joinL [10] (rows.map tl)).length ≤ 701 * rows.length
  | [], _ => Nat.zero_le _
  | [a], h => by
    show (tl a).length ≤ _
    have := (h a (by simp)).1
    simp at this ⊢
    omega
  | a :: b :: r, h => by
    have h1 := rows_len (rows := b :: r) fun p hp => h p (List.mem_cons_of_mem _ hp)
    have h2 := (h a (by simp)).1
    show (tl a ++ ([10] ++ joinL [10] ((b :: r).map tl))).length ≤ _
    rw [List.length_append, List.length_append]
    simp only [List.length_cons, List.length_nil] at h1 h2 ⊢
    omega
theorem rows_fit {rows : List Str} (h0 : rows ≠ []) (h4 : rows.length ≤ 4) (h : ∀ p ∈ rows, PL 700 p) : (Txt.join "\n" rows).length ≤ 90000 ∧ Txt.split (Txt.join "\n" rows) "\n" = rows ∧ (∀ p ∈ rows, TxtOk p) := by
  refine ⟨?_, split_join (s := 10) (S := []) tl_lit.2.2.2.2.1 feed_ok.2 h0 fun p hp q => ((h p hp).2 10 q).1 rfl, fun p hp => txtOk_iff.mpr ⟨Nat.le_trans (h p hp).1 (by decide), fun c hc => ((h p hp).2 c hc).2⟩⟩
  rw [len_tl, join_eq, tl_join, tl_lit.2.2.2.2.1]
  have := rows_len h
  omega
theorem kind_no {rows : List Str} (h0 : rows ≠ []) (h4 : rows.length ≤ 4) (h : ∀ p ∈ rows, PL 700 p) (hr : rowsRd rows = none) : KindIs (Txt.join "\n" rows) "no text" := by
  obtain ⟨a, b, c⟩ := rows_fit h0 h4 h
  unfold KindIs readP
  rw [b]
  exact ⟨a, c, by omega, .inl ⟨hr, rfl⟩⟩
theorem kind_bad {rows : List Str} {st : Str} {rs : List RuleD} (h0 : rows ≠ []) (h4 : rows.length ≤ 4) (h : ∀ p ∈ rows, PL 700 p) (hr : rowsRd rows = some (st, rs)) (hg : ¬ GoodG st rs) : KindIs (Txt.join "\n" rows) "no grammar" := by
  obtain ⟨a, b, c⟩ := rows_fit h0 h4 h
  unfold KindIs readP
  rw [b]
  exact ⟨a, c, by omega, .inr ⟨st, rs, hr, .inl ⟨hg, rfl⟩⟩⟩
theorem kind_good {rows : List Str} {st : Str} {rs : List RuleD} (h0 : rows ≠ []) (h4 : rows.length ≤ 4) (h : ∀ p ∈ rows, PL 700 p) (hr : rowsRd rows = some (st, rs)) (hg : GoodG st rs) : KindIs (Txt.join "\n" rows) "read" := by
  obtain ⟨a, b, c⟩ := rows_fit h0 h4 h
  unfold KindIs readP
  rw [b]
  exact ⟨a, c, by omega, .inr ⟨st, rs, hr, .inr ⟨hg, rfl⟩⟩⟩
/-! rows that are none -/
theorem rd_of {row : Str} {W : List Str} (e : tl row = joinL [32] (W.map tl)) (hne : W ≠ []) (hf : ∀ p ∈ W, 32 ∉ tl p) : ruleRd row = wordsRd W := by
  unfold ruleRd
  have : row = Txt.join " " W := ext_tl (by rw [e, join_tl])
  rw [this, split_join (s := 32) (S := []) tl_lit.1 blank_ok.2 hne hf]
theorem wordsRd_cons {h m s : Str} {b : List Str} : wordsRd (h :: m :: s :: b) = if decide ((s :: b).length ≤ 4) && (midOk m && (isSym h && (s :: b).all isSym)) then some ⟨h, s :: b, midV m⟩ else none := rfl
theorem words_mid {h m s : Str} {b : List Str} (q : midOk m = false) : wordsRd (h :: m :: s :: b) = none := by
  rw [wordsRd_cons, q, Bool.false_and, Bool.and_false]
  rfl
theorem words_head {h m s : Str} {b : List Str} (q : isSym h = false) : wordsRd (h :: m :: s :: b) = none := by
  rw [wordsRd_cons, q, Bool.false_and, Bool.and_false, Bool.and_false]
  rfl
theorem words_body {h m s : Str} {b : List Str} (q : (s :: b).all isSym = false) : wordsRd (h :: m :: s :: b) = none := by
  rw [wordsRd_cons, q, Bool.and_false, Bool.and_false, Bool.and_false]
  rfl
theorem words_many {h m s : Str} {b : List Str} (q : 4 < (s :: b).length) : wordsRd (h :: m :: s :: b) = none := by
  rw [wordsRd_cons, decide_eq_false (by omega), Bool.false_and]
  rfl
theorem mid_nocolon {m : Str} (h : 58 ∉ tl m) : midOk m = false := by
  have : ¬ cutS m (some (-1)) none = ":" := fun z => h (cut_mem (lo := some (-1)) (hi := none) (by rw [z, tl_lit.2.2.2.1]; simp))
  unfold midOk
  rw [decide_eq_false this, Bool.false_and]
theorem mid_num {x y : Str} (h : 47 ∉ tl x) (hx : numOk x = false) : midOk (x ++ "/" ++ y ++ ":") = false := by
  obtain ⟨c1, c2⟩ := cutS_last (a := x ++ "/" ++ y) (b := ":") (by rw [tl_lit.2.2.2.1]; rfl)
  have hp : Txt.partition (x ++ "/" ++ y) "/" = (x, ("/" : Str), y) := partition_app tl_lit.2.1 h
  unfold midOk
  rw [c1, c2, hp]
  simp only [hx, Bool.false_and, Bool.and_false]
theorem num_zero {x : Str} {l : List Nat} (h : tl x = 48 :: l) : numOk x = false := by
  rw [← Bool.not_eq_true, numOk_iff]
  rintro ⟨_, _, q, _⟩
  exact q (by show (tl x).head? = _; rw [h]; rfl)
theorem num_sign {x : Str} {c : Nat} (h : c ∈ tl x) (hc : c < 48 ∨ 57 < c) : numOk x = false := by
  rw [← Bool.not_eq_true, numOk_iff]
  rintro ⟨_, _, _, q⟩
  have := q c h
  omega
theorem not_sym {x : Str} {c : Nat} (h : c ∈ tl x) (hc : c < 65) : isSym x = false := by
  rw [← Bool.not_eq_true]
  exact fun q => sym_free q hc h
/-- a first row that is none -/
def stOk (r : Str) : Bool := decide ((Txt.partition r " ").1 = "start") && (!decide ((Txt.partition r " ").2.1 = "") && isSym (Txt.partition r " ").2.2)
theorem rowsRd_st {r0 : Str} {rows : List Str} (h : stOk r0 = false) : rowsRd (r0 :: rows) = none := by
  rw [rowsRd_cons]
  exact if_neg (by unfold stOk at h; rw [h]; decide)
theorem st_of {r a b : Str} (e : tl r = tl a ++ [32] ++ tl b) (h : 32 ∉ tl a) (ne : a ≠ "start" ∨ isSym b = false) : stOk r = false := by
  have e2 : r = a ++ " " ++ b := ext_tl (by rw [e, tl_append, tl_append, tl_lit.1])
  have hp : Txt.partition (a ++ " " ++ b) " " = (a, (" " : Str), b) := partition_app (s := 32) (S := []) tl_lit.1 h
  unfold stOk
  rw [e2, hp]
  rcases ne with q | q
  · rw [decide_eq_false q, Bool.false_and]
  · simp only [q, Bool.and_false]
theorem rd_bad {r0 row r2 : Str} (h : ruleRd row = none) : rowsRd [r0, row, r2] = none := by
  rw [rowsRd_cons]
  have : rdAll [row, r2] = none := by
    show (match ruleRd row, rdAll [r2] with | some x, some xs => some (x :: xs) | _, _ => none) = _
    rw [h]
  rw [this]
  split <;> rfl
theorem rd_good {st : Str} {rows : List Str} {rs : List RuleD} (h : isSym st = true) (hr : rdAll rows = some rs) : rowsRd (("start " ++ st) :: rows) = some (st, rs) := by
  rw [rowsRd_cons, start_part h, hr]
  have hb : decide ((" " : Str) = "") = false := by decide +kernel
  show (if decide (("start" : Str) = "start") && (!decide ((" " : Str) = "") && isSym st) then some (st, rs) else none) = _
  rw [decide_eq_true rfl, hb, h]
  rfl
/-! the grammar that the law writes -/
structure Gk (A w n : Str) (q1 q2 : Rat) : Prop where
  sa : isSym A = true
  sw : isSym w = true
  sn : isSym n = true
  an : A ≠ n
  sum : q1 + q2 = 1
  p1 : 0 ≤ q1 ∧ q1.num ≠ 0 ∧ q1.num < 10 ^ 60 ∧ q1.den ≤ 18
  p2 : 0 ≤ q2 ∧ q2.num ≠ 0 ∧ q2.num < 10 ^ 60 ∧ q2.den ≤ 18
section
variable {A w n : Str} {q1 q2 : Rat} (g : Gk A w n q1 q2)
def R1 (A w : Str) (q : Rat) : RuleD := ⟨A, [w], q⟩
def R2' (A n : Str) (q : Rat) : RuleD := ⟨A, [A, n], q⟩
def rowsK (A w n : Str) (q1 q2 : Rat) : List Str := ["start " ++ A, rowOf (R1 A w q1), rowOf (R2' A n q2)]
theorem r1_good (ha : isSym A = true) (hw : isSym w = true) {q : Rat} (hq : q.num ≠ 0) : goodRule (R1 A w q) = true := by
  unfold goodRule R1
  simp [ha, hw, hq]
theorem r2_good (ha : isSym A = true) (hn : isSym n = true) {q : Rat} (hq : q.num ≠ 0) : goodRule (R2' A n q) = true := by
  unfold goodRule R2'
  simp [ha, hn, hq]
theorem r1_wr (ha : isSym A = true) (hw : isSym w = true) {q : Rat} (h0 : 0 ≤ q) (hq : q.num ≠ 0) (h1 : q.num < 10 ^ 60) (h2 : q.den < 10 ^ 60) : Wr (R1 A w q) := wr_of (r1_good ha hw hq) h0 h1 h2
theorem r2_wr (ha : isSym A = true) (hn : isSym n = true) {q : Rat} (h0 : 0 ≤ q) (hq : q.num ≠ 0) (h1 : q.num < 10 ^ 60) (h2 : q.den < 10 ^ 60) : Wr (R2' A n q) := wr_of (r2_good ha hn hq) h0 h1 h2
theorem sym_txt {x : Str} (h : isSym x = true) : TxtOk x := txtOk_iff.mpr ⟨Nat.le_trans (sym_signs h).1 (by decide), fun c hc => by have := (sym_signs h).2.2 c hc; omega⟩
theorem pl_row {r : RuleD} (h : Wr r) : PL 700 (rowOf r) := by
  obtain ⟨a, b⟩ := row_txt h (sym_txt h.head) fun s hs => sym_txt (h.body s hs)
  exact ⟨Nat.le_trans b (by decide), fun c hc => ⟨fun z => row_feed h (z ▸ hc), (txtOk_iff.mp a).2 c hc⟩⟩
theorem pl_start {x : Str} (h : isSym x = true) : PL 700 ("start " ++ x) := pl_le (pl_app (pl_lit (by decide +kernel)) (pl_sym h)) (by decide)
theorem all_nil {α : Type} {P : α → Prop} : ∀ t ∈ ([] : List α), P t := fun t h => nomatch h
theorem all_cons {α : Type} {P : α → Prop} {a : α} {l : List α} (h : P a) (r : ∀ t ∈ l, P t) : ∀ t ∈ a :: l, P t := fun t ht => (List.mem_cons.mp ht).elim (fun e => e ▸ h) (r t)
include g
theorem w1 : Wr (R1 A w q1) := r1_wr g.sa g.sw g.p1.1 g.p1.2.1 g.p1.2.2.1 (Nat.lt_of_le_of_lt g.p1.2.2.2 (by decide))
theorem w2 : Wr (R2' A n q2) := r2_wr g.sa g.sn g.p2.1 g.p2.2.1 g.p2.2.2.1 (Nat.lt_of_le_of_lt g.p2.2.2.2 (by decide))
theorem good_K : GoodG A [R1 A w q1, R2' A n q2] := by
  refine ⟨g.sa, by simp, by simp, ?_, ?_, ?_, ?_⟩
  · exact all_cons (r1_good g.sa g.sw g.p1.2.1) (all_cons (r2_good g.sa g.sn g.p2.2.1) all_nil)
  · refine List.pairwise_cons.mpr ⟨all_cons ?_ all_nil, List.pairwise_singleton _ _⟩
    rintro ⟨_, z⟩
    simp [R1, R2'] at z
  · exact mem_headsOf.mpr ⟨_, List.mem_cons_self, rfl⟩
  · intro h hh
    obtain ⟨r, hr, e⟩ := mem_headsOf.mp hh
    have e2 : h = A := by
      rcases List.mem_cons.mp hr with z | z
      · rw [← e, z]; rfl
      · rw [← e, List.mem_singleton.mp z]; rfl
    subst e2
    show (if h = h then q1 else 0) + ((if h = h then q2 else 0) + 0) = 1
    rw [if_pos rfl, if_pos rfl, Rat.add_zero]
    exact g.sum
theorem pl_K : ∀ p ∈ rowsK A w n q1 q2, PL 700 p := all_cons (pl_start g.sa) (all_cons (pl_row (w1 g)) (all_cons (pl_row (w2 g)) all_nil))
theorem rd_K : rdAll [rowOf (R1 A w q1), rowOf (R2' A n q2)] = some [R1 A w q1, R2' A n q2] := rd_map (rs := [R1 A w q1, R2' A n q2]) (all_cons (w1 g) (all_cons (w2 g) all_nil))
theorem kind_K : KindIs (Txt.join "\n" (rowsK A w n q1 q2)) "read" := kind_good (by simp [rowsK]) (by simp [rowsK]) (pl_K g) (rd_good g.sa (rd_K g)) (good_K g)
/-- the start alone -/
theorem kind_alone : KindIs ("start " ++ A) "no grammar" := by
  have h := kind_bad (rows := ["start " ++ A]) (st := A) (rs := []) (by simp) (by simp) (all_cons (pl_start g.sa) all_nil) (rd_good g.sa rfl) fun z => absurd z.few1 (by decide)
  have e : Txt.join "\n" ["start " ++ A] = "start " ++ A := ext_tl (by rw [join_eq, tl_join]; rfl)
  rw [e] at h
  exact h
/-- a rule twice -/
theorem kind_twice : KindIs (Txt.join "\n" ["start " ++ A, rowOf (R1 A w q1), rowOf (R1 A w q1)]) "no grammar" := by
  refine kind_bad (st := A) (rs := [R1 A w q1, R1 A w q1]) (by simp) (by simp) (all_cons (pl_start g.sa) (all_cons (pl_row (w1 g)) (all_cons (pl_row (w1 g)) all_nil))) (rd_good g.sa (rd_map (rs := [R1 A w q1, R1 A w q1]) (all_cons (w1 g) (all_cons (w1 g) all_nil)))) fun z => ?_
  exact (List.pairwise_cons.mp z.dist).1 _ List.mem_cons_self ⟨rfl, rfl⟩
/-- another share -/
theorem kind_share {q : Rat} (w1' : Wr (R1 A w q)) (hd : 18 < q.den) : KindIs (Txt.join "\n" ["start " ++ A, rowOf (R1 A w q), rowOf (R2' A n q2)]) "no grammar" := by
  refine kind_bad (st := A) (rs := [R1 A w q, R2' A n q2]) (by simp) (by simp) (all_cons (pl_start g.sa) (all_cons (pl_row w1') (all_cons (pl_row (w2 g)) all_nil))) (rd_good g.sa (rd_map (rs := [R1 A w q, R2' A n q2]) (all_cons w1' (all_cons (w2 g) all_nil)))) fun z => ?_
  have h := z.one A (mem_headsOf.mpr ⟨_, List.mem_cons_self, rfl⟩)
  have h : (if A = A then q else 0) + ((if A = A then q2 else 0) + 0) = 1 := h
  rw [if_pos rfl, if_pos rfl, Rat.add_zero] at h
  have e : q = q1 := by
    have := g.sum
    grind
  have := g.p1.2.2.2
  rw [e] at hd
  omega
/-- another start -/
theorem kind_start : KindIs (Txt.join "\n" ["start " ++ n, rowOf (R1 A w q1), rowOf (R2' A n q2)]) "no grammar" := by
  refine kind_bad (st := n) (rs := [R1 A w q1, R2' A n q2]) (by simp) (by simp) (all_cons (pl_start g.sn) (all_cons (pl_row (w1 g)) (all_cons (pl_row (w2 g)) all_nil))) (rd_good g.sn (rd_K g)) fun z => ?_
  obtain ⟨r, hr, e⟩ := mem_headsOf.mp z.start
  rcases List.mem_cons.mp hr with q | q
  · rw [q] at e; exact g.an e
  · rw [List.mem_singleton.mp q] at e; exact g.an e
theorem kind_row {row : Str} (hp : PL 700 row) (h : ruleRd row = none) : KindIs (Txt.join "\n" ["start " ++ A, row, rowOf (R2' A n q2)]) "no text" :=
  kind_no (by simp) (by simp) (all_cons (pl_start g.sa) (all_cons hp (all_cons (pl_row (w2 g)) all_nil))) (rd_bad h)
theorem kind_first {row : Str} (hp : PL 700 row) (h : stOk row = false) : KindIs (Txt.join "\n" [row, rowOf (R1 A w q1), rowOf (R2' A n q2)]) "no text" :=
  kind_no (by simp) (by simp) (all_cons hp (all_cons (pl_row (w1 g)) (all_cons (pl_row (w2 g)) all_nil))) (rowsRd_st h)
end
end G91

/-! Ma38: every other row's end (printed by oddall.py). -/
namespace G91
open PySem PySem.Spec PyProof.Rows L2 TL
theorem lt0 : tl ("begin" : Str) = [98, 101, 103, 105, 110] := by decide +kernel
theorem lt1 : tl ("begin " : Str) = [98, 101, 103, 105, 110, 32] := by decide +kernel
theorem lt2 : tl ("start" : Str) = [115, 116, 97, 114, 116] := by decide +kernel
theorem lt3 : tl ("start " : Str) = [115, 116, 97, 114, 116, 32] := by decide +kernel
theorem lt4 : tl ("start  " : Str) = [115, 116, 97, 114, 116, 32, 32] := by decide +kernel
theorem lt5 : tl ("Start" : Str) = [83, 116, 97, 114, 116] := by decide +kernel
theorem lt6 : tl ("Start " : Str) = [83, 116, 97, 114, 116, 32] := by decide +kernel
theorem lt7 : tl ("" : Str) = [] := by decide +kernel
theorem lt8 : tl (" " : Str) = [32] := by decide +kernel
theorem lt9 : tl ("  " : Str) = [32, 32] := by decide +kernel
theorem lt10 : tl ("a1" : Str) = [97, 49] := by decide +kernel
theorem lt11 : tl ("a1 " : Str) = [97, 49, 32] := by decide +kernel
theorem lt12 : tl ("0" : Str) = [48] := by decide +kernel
theorem lt13 : tl (" 0" : Str) = [32, 48] := by decide +kernel
theorem lt14 : tl (" 0/1: " : Str) = [32, 48, 47, 49, 58, 32] := by decide +kernel
theorem lt15 : tl ("0/1:" : Str) = [48, 47, 49, 58] := by decide +kernel
theorem lt16 : tl (" 2/4: " : Str) = [32, 50, 47, 52, 58, 32] := by decide +kernel
theorem lt17 : tl ("2/4:" : Str) = [50, 47, 52, 58] := by decide +kernel
theorem lt18 : tl (" 1/" : Str) = [32, 49, 47] := by decide +kernel
theorem lt19 : tl ("1/" : Str) = [49, 47] := by decide +kernel
theorem lt20 : tl (": " : Str) = [58, 32] := by decide +kernel
theorem lt21 : tl (":" : Str) = [58] := by decide +kernel
theorem lt22 : tl ("/" : Str) = [47] := by decide +kernel
theorem lt23 : tl (" -" : Str) = [32, 45] := by decide +kernel
theorem lt24 : tl ("-" : Str) = [45] := by decide +kernel
theorem lt25 : tl (" +" : Str) = [32, 43] := by decide +kernel
theorem lt26 : tl ("+" : Str) = [43] := by decide +kernel
theorem lt27 : tl (" 1: " : Str) = [32, 49, 58, 32] := by decide +kernel
theorem lt28 : tl ("1:" : Str) = [49, 58] := by decide +kernel
theorem lt29 : tl (" 1/2/3: " : Str) = [32, 49, 47, 50, 47, 51, 58, 32] := by decide +kernel
theorem lt30 : tl ("1/2/3:" : Str) = [49, 47, 50, 47, 51, 58] := by decide +kernel
theorem lt31 : tl (" 1/1000: " : Str) = [32, 49, 47, 49, 48, 48, 48, 58, 32] := by decide +kernel
theorem lt32 : tl (" 99/100: " : Str) = [32, 57, 57, 47, 49, 48, 48, 58, 32] := by decide +kernel
theorem lt33 : tl (" 1_0/11: " : Str) = [32, 49, 95, 48, 47, 49, 49, 58, 32] := by decide +kernel
theorem lt34 : tl ("1_0/11:" : Str) = [49, 95, 48, 47, 49, 49, 58] := by decide +kernel
theorem lt35 : tl ("1/0:" : Str) = [49, 47, 48, 58] := by decide +kernel
theorem lt36 : tl (" start " : Str) = [32, 115, 116, 97, 114, 116, 32] := by decide +kernel
theorem lt37 : tl ("\nstart " : Str) = [10, 115, 116, 97, 114, 116, 32] := by decide +kernel
theorem cutS_last2 {a b : Str} (hb : (tl b).length = 2) : cutS (a ++ b) none (some (-2)) = a := by
  have hl : (a ++ b).length = (tl a).length + 2 := by rw [len_tl, tl_append, List.length_append, hb]
  have e2 : HT.sIx (a ++ b).length (a ++ b).length (some (-2)) = (tl a).length := by
    unfold HT.sIx
    show (if (-2 : Int) < 0 then (-2 + ((a ++ b).length : Int)).toNat else _) = _
    rw [if_pos (by decide), hl]
    omega
  have e3 : HT.sIx (a ++ b).length 0 none = 0 := rfl
  refine ext_tl ?_
  show ((tl (a ++ b)).drop (HT.sIx (a ++ b).length 0 none)).take (HT.sIx (a ++ b).length (a ++ b).length (some (-2)) - HT.sIx (a ++ b).length 0 none) = tl a
  rw [e2, e3, tl_append, List.drop_zero, Nat.sub_zero, List.take_left]
def Odd (A w n : Str) (q1 q2 : Rat) (t : Int × Str × Int) : Prop :=
  (∃ s : Str, ((t.2.2 = 0 ∧ s = "no text") ∨ (t.2.2 = 1 ∧ s = "no grammar")) ∧ ((t.1 = 0 ∧ KindIs (Txt.join "\n" [t.2.1, rowOf (R1 A w q1), rowOf (R2' A n q2)]) s) ∨ (t.1 = 1 ∧ KindIs (Txt.join "\n" ["start " ++ A, t.2.1, rowOf (R2' A n q2)]) s))) ∨
  t = ((2 : Int), ("" : Str), (2 : Int)) ∨ t = ((2 : Int), ("" : Str), (3 : Int)) ∨ t = ((2 : Int), ("" : Str), (4 : Int)) ∨ t = ((2 : Int), ("" : Str), (5 : Int)) ∨ t = ((2 : Int), ("" : Str), (6 : Int))
theorem none_E : ruleRd ("" : Str) = none := (rd_of (row := "") (W := [("" : Str)]) rfl (by simp) (all_cons (by decide +kernel) all_nil)).trans rfl
theorem rdAll_bad {row : Str} {post : List Str} (h : ruleRd row = none) : ∀ pre : List Str, rdAll (pre ++ row :: post) = none
  | [] => by
    show (match ruleRd row, rdAll post with | some x, some xs => some (x :: xs) | _, _ => none) = _
    rw [h]
  | x :: pre => by
    show (match ruleRd x, rdAll (pre ++ row :: post) with | some x, some xs => some (x :: xs) | _, _ => none) = _
    rw [rdAll_bad h pre]
    split
    · rename_i h1 h2
      cases h2
    · rfl
theorem rows_bad {r0 row : Str} {pre post : List Str} (h : ruleRd row = none) : rowsRd (r0 :: (pre ++ row :: post)) = none := by
  rw [rowsRd_cons, rdAll_bad h pre]
  split <;> rfl
section
variable {A w n : Str} {q1 q2 : Rat}
theorem o2 : Odd A w n q1 q2 (2, "", 2) := .inr (.inl rfl)
theorem o3 : Odd A w n q1 q2 (2, "", 3) := .inr (.inr (.inl rfl))
theorem o4 : Odd A w n q1 q2 (2, "", 4) := .inr (.inr (.inr (.inl rfl)))
theorem o5 : Odd A w n q1 q2 (2, "", 5) := .inr (.inr (.inr (.inr (.inl rfl))))
theorem o6 : Odd A w n q1 q2 (2, "", 6) := .inr (.inr (.inr (.inr (.inr rfl))))
variable (g : Gk A w n q1 q2)
include g
theorem o_row {row : Str} (hp : PL 700 row) (h : ruleRd row = none) : Odd A w n q1 q2 (1, row, 0) := .inl ⟨_, .inl ⟨rfl, rfl⟩, .inr ⟨rfl, kind_row g hp h⟩⟩
theorem o_first {row : Str} (hp : PL 700 row) (h : stOk row = false) : Odd A w n q1 q2 (0, row, 0) := .inl ⟨_, .inl ⟨rfl, rfl⟩, .inl ⟨rfl, kind_first g hp h⟩⟩
theorem o_start : Odd A w n q1 q2 (0, "start " ++ n, 1) := .inl ⟨_, .inr ⟨rfl, rfl⟩, .inl ⟨rfl, kind_start g⟩⟩
theorem o_share {q : Rat} {row : Str} (h0 : 0 ≤ q) (hq : q.num ≠ 0) (h1 : q.num < 10 ^ 60) (h2 : q.den < 10 ^ 60) (hd : 18 < q.den) (e : tl row = tl (rowOf (R1 A w q))) : Odd A w n q1 q2 (1, row, 1) := by
  have e : row = rowOf (R1 A w q) := ext_tl e
  subst e
  exact .inl ⟨_, .inr ⟨rfl, rfl⟩, .inr ⟨rfl, kind_share g (r1_wr g.sa g.sw h0 hq h1 h2) hd⟩⟩
theorem o_feed : Odd A w n q1 q2 (0, "\nstart " ++ A, 0) := by
  refine .inl ⟨_, .inl ⟨rfl, rfl⟩, .inl ⟨rfl, ?_⟩⟩
  have h := kind_no (rows := ["", "start " ++ A, rowOf (R1 A w q1), rowOf (R2' A n q2)]) (by simp) (by simp) (all_cons (pl_le (pl_lit (by decide +kernel)) (by decide)) (all_cons (pl_start g.sa) (all_cons (pl_row (w1 g)) (all_cons (pl_row (w2 g)) all_nil)))) (rowsRd_st (by decide +kernel))
  have e : Txt.join "\n" ["", "start " ++ A, rowOf (R1 A w q1), rowOf (R2' A n q2)] = Txt.join "\n" [("\nstart " : Str) ++ A, rowOf (R1 A w q1), rowOf (R2' A n q2)] := ext_tl (by
    rw [join_eq, tl_join, join_eq, tl_join]
    simp only [List.map_cons, List.map_nil, joinL, tl_append, tl_lit.2.2.2.2.1, lt3, lt7, lt37]
    simp)
  rw [e] at h
  exact h
/-- behind the text -/
theorem kind_feed : KindIs (Txt.join "\n" (rowsK A w n q1 q2) ++ "\n") "no text" := by
  have h := kind_no (rows := ["start " ++ A, rowOf (R1 A w q1), rowOf (R2' A n q2), ""]) (by simp) (by simp) (all_cons (pl_start g.sa) (all_cons (pl_row (w1 g)) (all_cons (pl_row (w2 g)) (all_cons (pl_le (pl_lit (by decide +kernel)) (by decide)) all_nil)))) (rows_bad (pre := [rowOf (R1 A w q1), rowOf (R2' A n q2)]) (post := []) none_E)
  have e : Txt.join "\n" ["start " ++ A, rowOf (R1 A w q1), rowOf (R2' A n q2), ""] = Txt.join "\n" (rowsK A w n q1 q2) ++ "\n" := ext_tl (by
    rw [tl_append, join_eq, tl_join, join_eq, tl_join]
    unfold rowsK
    simp only [List.map_cons, List.map_nil, joinL, tl_append, tl_lit.2.2.2.2.1, lt3, lt7]
    simp)
  rw [e] at h
  exact h
omit g in
theorem kind_empty : KindIs ("" : Str) "no text" := by
  have h := kind_no (rows := [""]) (by simp) (by simp) (all_cons (pl_le (pl_lit (by decide +kernel)) (by decide)) all_nil) (rowsRd_st (by decide +kernel))
  have e : Txt.join "\n" [("" : Str)] = "" := by decide +kernel
  rw [e] at h
  exact h
theorem kind_blank : KindIs (Txt.join "\n" (rowsK A w n q1 q2) ++ " ") "no text" := by
  have hw := w2 g
  have nE : isSym ("" : Str) = false := by decide +kernel
  have hr : ruleRd (rowOf (R2' A n q2) ++ " ") = none := by
    refine (rd_of (W := [A, numS q2.num ++ "/" ++ numS (q2.den : Int) ++ ":", A, n, ""]) ?_ (by simp) ?_).trans (words_body (by simp [nE]))
    · rw [tl_append, row_join hw, join_tl, tl_lit.1]
      simp only [R2', List.map_cons, List.map_nil, joinL, lt7]
      simp
    · have h := words_free hw
      refine all_cons (h _ (by simp [R2']) 32 (by decide)) (all_cons (h _ (by simp [R2']) 32 (by decide)) (all_cons (h _ (by simp [R2']) 32 (by decide)) (all_cons (h _ (by simp [R2']) 32 (by decide)) (all_cons (by decide +kernel) all_nil))))
  have hp : PL 700 (rowOf (R2' A n q2) ++ " ") := by
    have h1 := pl_row hw
    have h2 := (row_txt hw (sym_txt hw.head) fun s hs => sym_txt (hw.body s hs)).2
    exact pl_le (pl_app (a := 200) ⟨h2, h1.2⟩ (pl_lit (by decide +kernel))) (by decide)
  have h := kind_no (rows := ["start " ++ A, rowOf (R1 A w q1), rowOf (R2' A n q2) ++ " "]) (by simp) (by simp) (all_cons (pl_start g.sa) (all_cons (pl_row (w1 g)) (all_cons hp all_nil))) (rows_bad (pre := [rowOf (R1 A w q1)]) (post := []) hr)
  have e : Txt.join "\n" ["start " ++ A, rowOf (R1 A w q1), rowOf (R2' A n q2) ++ " "] = Txt.join "\n" (rowsK A w n q1 q2) ++ " " := ext_tl (by
    rw [tl_append, join_eq, tl_join, join_eq, tl_join]
    unfold rowsK
    simp only [List.map_cons, List.map_nil, joinL, tl_append, tl_lit.2.2.2.2.1]
    simp)
  rw [e] at h
  exact h
theorem odd_all : ∀ t ∈ oddL A w n (toldS q1), Odd A w n q1 q2 t := by
  obtain ⟨nn, hnn⟩ := Int.eq_ofNat_of_zero_le (Rat.num_nonneg.mpr g.p1.1)
  have hb := g.p1.2.2.1
  have hd := g.p1.2.2.2
  have hnb : nn < 10 ^ 60 := by omega
  have hdb : q1.den < 10 ^ 60 := Nat.lt_of_le_of_lt hd (by decide)
  have etold : toldS q1 = numS (nn : Int) ++ "/" ++ numS (q1.den : Int) ++ ": " := by unfold toldS; rw [hnn]
  have pT : PL 160 (toldS q1) := by
    rw [etold]
    exact pl_app (pl_app (pl_app (pl_num hnb) (pl_lit (by decide +kernel))) (pl_num hdb)) (pl_lit (by decide +kernel))
  have pM : PL 61 (Txt.mul ("1" : Str) 61) := by unfold PL; decide +kernel
  have fA : 32 ∉ tl A := sym_free g.sa (by decide)
  have fw : 32 ∉ tl w := sym_free g.sw (by decide)
  have cA : 58 ∉ tl A := sym_free g.sa (by decide)
  have nE : isSym ("" : Str) = false := by decide +kernel
  have N32 : 32 ∉ tl (numS (nn : Int)) := numS_free (by decide)
  have N47 : 47 ∉ tl (numS (nn : Int)) := numS_free (by decide)
  have N58 : 58 ∉ tl (numS (nn : Int)) := numS_free (by decide)
  have E32 : 32 ∉ tl (numS (q1.den : Int)) := numS_free (by decide)
  have E58 : 58 ∉ tl (numS (q1.den : Int)) := numS_free (by decide)
  have hc2 : cutS (toldS q1) none (some (-2)) = numS (nn : Int) ++ "/" ++ numS (q1.den : Int) := by rw [etold]; exact cutS_last2 (by decide +kernel)
  have hc1 : cutS (toldS q1) none (some (-1)) = numS (nn : Int) ++ "/" ++ numS (q1.den : Int) ++ ":" := by
    have e : toldS q1 = numS (nn : Int) ++ "/" ++ numS (q1.den : Int) ++ ":" ++ " " := ext_tl (by rw [etold]; simp only [tl_append, tl_lit.1, tl_lit.2.2.1, tl_lit.2.2.2.1]; simp)
    rw [e]
    exact (cutS_last (by decide +kernel)).2
  have hTold : tl (toldS q1) = tl (numS (nn : Int)) ++ [47] ++ tl (numS (q1.den : Int)) ++ [58, 32] := by rw [etold]; simp only [tl_append, tl_lit.2.1, tl_lit.2.2.1]
  have hmul : tl (Txt.mul (w ++ " ") 4) = (List.replicate 4 (tl w ++ [32])).flatten := by
    have h := mul_tl (x := w ++ " ") (n := 4) (by decide)
    rw [tl_append, tl_lit.1] at h
    exact h
  clear etold
  generalize toldS q1 = told at *
  generalize hN : numS (nn : Int) = N at *
  generalize hE : numS (q1.den : Int) = E at *
  have fX : 32 ∉ tl (N ++ "/" ++ E) := app_free (app_free N32 (by decide +kernel)) E32
  have cX : 58 ∉ tl (N ++ "/" ++ E) := app_free (app_free N58 (by decide +kernel)) E58
  have fT : 32 ∉ tl (N ++ "/" ++ E ++ ":") := app_free fX (by decide +kernel)
  generalize hXe : N ++ "/" ++ E = X at *
  have hX : tl X = tl N ++ [47] ++ tl E := by rw [← hXe]; simp only [tl_append, tl_lit.2.1]
  generalize hTe : X ++ ":" = T at *
  have hT : tl T = tl N ++ [47] ++ tl E ++ [58] := by rw [← hTe, tl_append, hX, tl_lit.2.2.2.1]
  have fz : 32 ∉ tl (("0" : Str) ++ N ++ "/" ++ E ++ ":") := app_free (app_free (app_free (app_free (by decide +kernel) N32) (by decide +kernel)) E32) (by decide +kernel)
  have fm : 32 ∉ tl (("-" : Str) ++ N ++ "/" ++ E ++ ":") := app_free (app_free (app_free (app_free (by decide +kernel) N32) (by decide +kernel)) E32) (by decide +kernel)
  have fp : 32 ∉ tl (("+" : Str) ++ N ++ "/" ++ E ++ ":") := app_free (app_free (app_free (app_free (by decide +kernel) N32) (by decide +kernel)) E32) (by decide +kernel)
  have s0 : 47 ∉ tl (("0" : Str) ++ N) := app_free (by decide +kernel) N47
  have sm : 47 ∉ tl (("-" : Str) ++ N) := app_free (by decide +kernel) N47
  have sp : 47 ∉ tl (("+" : Str) ++ N) := app_free (by decide +kernel) N47
  have n0 : numOk (("0" : Str) ++ N) = false := num_zero (l := tl N) (by rw [tl_append]; rfl)
  have nm : numOk (("-" : Str) ++ N) = false := num_sign (c := 45) (by rw [tl_append]; exact List.mem_append_left _ (by decide +kernel)) (by decide)
  have np : numOk (("+" : Str) ++ N) = false := num_sign (c := 43) (by rw [tl_append]; exact List.mem_append_left _ (by decide +kernel)) (by decide)
  have e11 : tl (numS (shr 1 1000).num) = [49] := by decide +kernel
  have e12 : numL (shr 1 1000).den = [49, 48, 48, 48] := by decide +kernel
  have e13 : tl (numS (shr 99 100).num) = [57, 57] := by decide +kernel
  have e14 : numL (shr 99 100).den = [49, 48, 48] := by decide +kernel
  have ejw : tl (Txt.join " " [w]) = tl w := by rw [join_tl]; rfl
  unfold oddL
  exact
    all_cons (o_first g (pl_le (pl_app (pl_lit (by decide +kernel)) (pl_sym g.sa)) (by decide)) (st_of (a := "begin") (b := A) (by simp [tl_append, joinL, hTold, hT, hX, hc1, hc2, hmul, lt0, lt1, lt2, lt3, lt4, lt5, lt6, lt7, lt8, lt9, lt10, lt11, lt12, lt13, lt14, lt15, lt16, lt17, lt18, lt19, lt20, lt21, lt22, lt23, lt24, lt25, lt26, lt27, lt28, lt29, lt30, lt31, lt32, lt33, lt34, lt35, lt36, lt37]) (by decide +kernel) (.inl (by decide +kernel)))) <|
    all_cons (o_first g (pl_le (pl_lit (by decide +kernel)) (by decide)) (by decide +kernel)) <|
    all_cons (o_first g (pl_le (pl_app (pl_lit (by decide +kernel)) (pl_sym g.sa)) (by decide)) (st_of (a := "start") (b := " " ++ A) (by simp [tl_append, joinL, hTold, hT, hX, hc1, hc2, hmul, lt0, lt1, lt2, lt3, lt4, lt5, lt6, lt7, lt8, lt9, lt10, lt11, lt12, lt13, lt14, lt15, lt16, lt17, lt18, lt19, lt20, lt21, lt22, lt23, lt24, lt25, lt26, lt27, lt28, lt29, lt30, lt31, lt32, lt33, lt34, lt35, lt36, lt37]) (by decide +kernel) (.inr (not_sym (c := 32) (by simp [tl_append, joinL, hTold, hT, hX, hc1, hc2, hmul, lt0, lt1, lt2, lt3, lt4, lt5, lt6, lt7, lt8, lt9, lt10, lt11, lt12, lt13, lt14, lt15, lt16, lt17, lt18, lt19, lt20, lt21, lt22, lt23, lt24, lt25, lt26, lt27, lt28, lt29, lt30, lt31, lt32, lt33, lt34, lt35, lt36, lt37]) (by decide))))) <|
    all_cons (o_first g (pl_le (pl_app (pl_app (pl_lit (by decide +kernel)) (pl_sym g.sa)) (pl_lit (by decide +kernel))) (by decide)) (st_of (a := "start") (b := A ++ " ") (by simp [tl_append, joinL, hTold, hT, hX, hc1, hc2, hmul, lt0, lt1, lt2, lt3, lt4, lt5, lt6, lt7, lt8, lt9, lt10, lt11, lt12, lt13, lt14, lt15, lt16, lt17, lt18, lt19, lt20, lt21, lt22, lt23, lt24, lt25, lt26, lt27, lt28, lt29, lt30, lt31, lt32, lt33, lt34, lt35, lt36, lt37]) (by decide +kernel) (.inr (not_sym (c := 32) (by simp [tl_append, joinL, hTold, hT, hX, hc1, hc2, hmul, lt0, lt1, lt2, lt3, lt4, lt5, lt6, lt7, lt8, lt9, lt10, lt11, lt12, lt13, lt14, lt15, lt16, lt17, lt18, lt19, lt20, lt21, lt22, lt23, lt24, lt25, lt26, lt27, lt28, lt29, lt30, lt31, lt32, lt33, lt34, lt35, lt36, lt37]) (by decide))))) <|
    all_cons (o_first g (pl_le (pl_lit (by decide +kernel)) (by decide)) (by decide +kernel)) <|
    all_cons (o_first g (pl_le (pl_app (pl_lit (by decide +kernel)) (pl_sym g.sa)) (by decide)) (st_of (a := "Start") (b := A) (by simp [tl_append, joinL, hTold, hT, hX, hc1, hc2, hmul, lt0, lt1, lt2, lt3, lt4, lt5, lt6, lt7, lt8, lt9, lt10, lt11, lt12, lt13, lt14, lt15, lt16, lt17, lt18, lt19, lt20, lt21, lt22, lt23, lt24, lt25, lt26, lt27, lt28, lt29, lt30, lt31, lt32, lt33, lt34, lt35, lt36, lt37]) (by decide +kernel) (.inl (by decide +kernel)))) <|
    all_cons (o_row g (pl_le (pl_app (pl_app (pl_app (pl_app (pl_sym g.sa) (pl_lit (by decide +kernel))) (pl_cut pT)) (pl_lit (by decide +kernel))) (pl_sym g.sw)) (by decide)) ((rd_of (W := [A, X, w]) (by simp [tl_append, joinL, hTold, hT, hX, hc1, hc2, hmul, lt0, lt1, lt2, lt3, lt4, lt5, lt6, lt7, lt8, lt9, lt10, lt11, lt12, lt13, lt14, lt15, lt16, lt17, lt18, lt19, lt20, lt21, lt22, lt23, lt24, lt25, lt26, lt27, lt28, lt29, lt30, lt31, lt32, lt33, lt34, lt35, lt36, lt37]) (by simp) ((all_cons (fA) (all_cons (fX) (all_cons (fw) all_nil))))).trans (words_mid (mid_nocolon cX)))) <|
    all_cons (o_row g (pl_le (pl_app (pl_app (pl_app (pl_sym g.sa) (pl_lit (by decide +kernel))) (pT)) (pl_sym g.sw)) (by decide)) ((rd_of (W := [A, ("" : Str), T, w]) (by simp [tl_append, joinL, hTold, hT, hX, hc1, hc2, hmul, lt0, lt1, lt2, lt3, lt4, lt5, lt6, lt7, lt8, lt9, lt10, lt11, lt12, lt13, lt14, lt15, lt16, lt17, lt18, lt19, lt20, lt21, lt22, lt23, lt24, lt25, lt26, lt27, lt28, lt29, lt30, lt31, lt32, lt33, lt34, lt35, lt36, lt37]) (by simp) ((all_cons (fA) (all_cons (by decide +kernel) (all_cons (fT) (all_cons (fw) all_nil)))))).trans (words_mid (by decide +kernel)))) <|
    all_cons (o_row g (pl_le (pl_app (pl_app (pl_sym g.sa) (pl_lit (by decide +kernel))) (pT)) (by decide)) ((rd_of (W := [A, T, ("" : Str)]) (by simp [tl_append, joinL, hTold, hT, hX, hc1, hc2, hmul, lt0, lt1, lt2, lt3, lt4, lt5, lt6, lt7, lt8, lt9, lt10, lt11, lt12, lt13, lt14, lt15, lt16, lt17, lt18, lt19, lt20, lt21, lt22, lt23, lt24, lt25, lt26, lt27, lt28, lt29, lt30, lt31, lt32, lt33, lt34, lt35, lt36, lt37]) (by simp) ((all_cons (fA) (all_cons (fT) (all_cons (by decide +kernel) all_nil))))).trans (words_body (by decide +kernel)))) <|
    all_cons (o_row g (pl_le (pl_app (pl_app (pl_app (pl_app (pl_sym g.sa) (pl_lit (by decide +kernel))) (pT)) (pl_sym g.sw)) (pl_lit (by decide +kernel))) (by decide)) ((rd_of (W := [A, T, w, ("" : Str)]) (by simp [tl_append, joinL, hTold, hT, hX, hc1, hc2, hmul, lt0, lt1, lt2, lt3, lt4, lt5, lt6, lt7, lt8, lt9, lt10, lt11, lt12, lt13, lt14, lt15, lt16, lt17, lt18, lt19, lt20, lt21, lt22, lt23, lt24, lt25, lt26, lt27, lt28, lt29, lt30, lt31, lt32, lt33, lt34, lt35, lt36, lt37]) (by simp) ((all_cons (fA) (all_cons (fT) (all_cons (fw) (all_cons (by decide +kernel) all_nil)))))).trans (words_body (by simp [nE])))) <|
    all_cons (o_row g (pl_le (pl_app (pl_app (pl_app (pl_app (pl_sym g.sa) (pl_lit (by decide +kernel))) (pT)) (pl_lit (by decide +kernel))) (pl_sym g.sw)) (by decide)) ((rd_of (W := [A, T, ("" : Str), w]) (by simp [tl_append, joinL, hTold, hT, hX, hc1, hc2, hmul, lt0, lt1, lt2, lt3, lt4, lt5, lt6, lt7, lt8, lt9, lt10, lt11, lt12, lt13, lt14, lt15, lt16, lt17, lt18, lt19, lt20, lt21, lt22, lt23, lt24, lt25, lt26, lt27, lt28, lt29, lt30, lt31, lt32, lt33, lt34, lt35, lt36, lt37]) (by simp) ((all_cons (fA) (all_cons (fT) (all_cons (by decide +kernel) (all_cons (fw) all_nil)))))).trans (words_body (by simp [nE])))) <|
    all_cons (o_row g (pl_le (pl_app (pl_app (pl_app (pl_sym g.sa) (pl_lit (by decide +kernel))) (pT)) (pl_lit (by decide +kernel))) (by decide)) ((rd_of (W := [A, T, ("a1" : Str)]) (by simp [tl_append, joinL, hTold, hT, hX, hc1, hc2, hmul, lt0, lt1, lt2, lt3, lt4, lt5, lt6, lt7, lt8, lt9, lt10, lt11, lt12, lt13, lt14, lt15, lt16, lt17, lt18, lt19, lt20, lt21, lt22, lt23, lt24, lt25, lt26, lt27, lt28, lt29, lt30, lt31, lt32, lt33, lt34, lt35, lt36, lt37]) (by simp) ((all_cons (fA) (all_cons (fT) (all_cons (by decide +kernel) all_nil))))).trans (words_body (by decide +kernel)))) <|
    all_cons (o_row g (pl_le (pl_lit (by decide +kernel)) (by decide)) none_E) <|
    all_cons (o_row g (pl_le (pl_app (pl_app (pl_app (pl_sym g.sa) (pl_lit (by decide +kernel))) (pT)) (pl_sym g.sw)) (by decide)) ((rd_of (W := [A, ("0" : Str) ++ N ++ "/" ++ E ++ ":", w]) (by simp [tl_append, joinL, hTold, hT, hX, hc1, hc2, hmul, lt0, lt1, lt2, lt3, lt4, lt5, lt6, lt7, lt8, lt9, lt10, lt11, lt12, lt13, lt14, lt15, lt16, lt17, lt18, lt19, lt20, lt21, lt22, lt23, lt24, lt25, lt26, lt27, lt28, lt29, lt30, lt31, lt32, lt33, lt34, lt35, lt36, lt37]) (by simp) ((all_cons (fA) (all_cons (fz) (all_cons (fw) all_nil))))).trans (words_mid (mid_num (s0) (n0))))) <|
    all_cons (o_row g (pl_le (pl_app (pl_app (pl_sym g.sa) (pl_lit (by decide +kernel))) (pl_sym g.sw)) (by decide)) ((rd_of (W := [A, ("0/1:" : Str), w]) (by simp [tl_append, joinL, hTold, hT, hX, hc1, hc2, hmul, lt0, lt1, lt2, lt3, lt4, lt5, lt6, lt7, lt8, lt9, lt10, lt11, lt12, lt13, lt14, lt15, lt16, lt17, lt18, lt19, lt20, lt21, lt22, lt23, lt24, lt25, lt26, lt27, lt28, lt29, lt30, lt31, lt32, lt33, lt34, lt35, lt36, lt37]) (by simp) ((all_cons (fA) (all_cons (by decide +kernel) (all_cons (fw) all_nil))))).trans (words_mid (by decide +kernel)))) <|
    all_cons (o_row g (pl_le (pl_app (pl_app (pl_sym g.sa) (pl_lit (by decide +kernel))) (pl_sym g.sw)) (by decide)) ((rd_of (W := [A, ("2/4:" : Str), w]) (by simp [tl_append, joinL, hTold, hT, hX, hc1, hc2, hmul, lt0, lt1, lt2, lt3, lt4, lt5, lt6, lt7, lt8, lt9, lt10, lt11, lt12, lt13, lt14, lt15, lt16, lt17, lt18, lt19, lt20, lt21, lt22, lt23, lt24, lt25, lt26, lt27, lt28, lt29, lt30, lt31, lt32, lt33, lt34, lt35, lt36, lt37]) (by simp) ((all_cons (fA) (all_cons (by decide +kernel) (all_cons (fw) all_nil))))).trans (words_mid (by decide +kernel)))) <|
    all_cons (o_row g (pl_le (pl_app (pl_app (pl_app (pl_app (pl_sym g.sa) (pl_lit (by decide +kernel))) (pM)) (pl_lit (by decide +kernel))) (pl_sym g.sw)) (by decide)) ((rd_of (W := [A, ("1/" : Str) ++ Txt.mul ("1" : Str) 61 ++ ":", w]) (by simp [tl_append, joinL, hTold, hT, hX, hc1, hc2, hmul, lt0, lt1, lt2, lt3, lt4, lt5, lt6, lt7, lt8, lt9, lt10, lt11, lt12, lt13, lt14, lt15, lt16, lt17, lt18, lt19, lt20, lt21, lt22, lt23, lt24, lt25, lt26, lt27, lt28, lt29, lt30, lt31, lt32, lt33, lt34, lt35, lt36, lt37]) (by simp) ((all_cons (fA) (all_cons (by decide +kernel) (all_cons (fw) all_nil))))).trans (words_mid (by decide +kernel)))) <|
    all_cons (o_row g (pl_le (pl_app (pl_app (pl_app (pl_sym g.sa) (pl_lit (by decide +kernel))) (pT)) (pl_sym g.sw)) (by decide)) ((rd_of (W := [A, ("-" : Str) ++ N ++ "/" ++ E ++ ":", w]) (by simp [tl_append, joinL, hTold, hT, hX, hc1, hc2, hmul, lt0, lt1, lt2, lt3, lt4, lt5, lt6, lt7, lt8, lt9, lt10, lt11, lt12, lt13, lt14, lt15, lt16, lt17, lt18, lt19, lt20, lt21, lt22, lt23, lt24, lt25, lt26, lt27, lt28, lt29, lt30, lt31, lt32, lt33, lt34, lt35, lt36, lt37]) (by simp) ((all_cons (fA) (all_cons (fm) (all_cons (fw) all_nil))))).trans (words_mid (mid_num (sm) (nm))))) <|
    all_cons (o_row g (pl_le (pl_app (pl_app (pl_app (pl_sym g.sa) (pl_lit (by decide +kernel))) (pT)) (pl_sym g.sw)) (by decide)) ((rd_of (W := [A, ("+" : Str) ++ N ++ "/" ++ E ++ ":", w]) (by simp [tl_append, joinL, hTold, hT, hX, hc1, hc2, hmul, lt0, lt1, lt2, lt3, lt4, lt5, lt6, lt7, lt8, lt9, lt10, lt11, lt12, lt13, lt14, lt15, lt16, lt17, lt18, lt19, lt20, lt21, lt22, lt23, lt24, lt25, lt26, lt27, lt28, lt29, lt30, lt31, lt32, lt33, lt34, lt35, lt36, lt37]) (by simp) ((all_cons (fA) (all_cons (fp) (all_cons (fw) all_nil))))).trans (words_mid (mid_num (sp) (np))))) <|
    all_cons (o_row g (pl_le (pl_app (pl_app (pl_sym g.sa) (pl_lit (by decide +kernel))) (pl_sym g.sw)) (by decide)) ((rd_of (W := [A, ("1:" : Str), w]) (by simp [tl_append, joinL, hTold, hT, hX, hc1, hc2, hmul, lt0, lt1, lt2, lt3, lt4, lt5, lt6, lt7, lt8, lt9, lt10, lt11, lt12, lt13, lt14, lt15, lt16, lt17, lt18, lt19, lt20, lt21, lt22, lt23, lt24, lt25, lt26, lt27, lt28, lt29, lt30, lt31, lt32, lt33, lt34, lt35, lt36, lt37]) (by simp) ((all_cons (fA) (all_cons (by decide +kernel) (all_cons (fw) all_nil))))).trans (words_mid (by decide +kernel)))) <|
    all_cons (o_row g (pl_le (pl_app (pl_app (pl_sym g.sa) (pl_lit (by decide +kernel))) (pl_sym g.sw)) (by decide)) ((rd_of (W := [A, ("1/2/3:" : Str), w]) (by simp [tl_append, joinL, hTold, hT, hX, hc1, hc2, hmul, lt0, lt1, lt2, lt3, lt4, lt5, lt6, lt7, lt8, lt9, lt10, lt11, lt12, lt13, lt14, lt15, lt16, lt17, lt18, lt19, lt20, lt21, lt22, lt23, lt24, lt25, lt26, lt27, lt28, lt29, lt30, lt31, lt32, lt33, lt34, lt35, lt36, lt37]) (by simp) ((all_cons (fA) (all_cons (by decide +kernel) (all_cons (fw) all_nil))))).trans (words_mid (by decide +kernel)))) <|
    all_cons (o_row g (pl_le (pl_app (pl_app (pl_app (pl_app (pl_sym g.sa) (pl_lit (by decide +kernel))) (pT)) (pl_mul4 (pl_sym g.sw))) (pl_sym g.sw)) (by decide)) ((rd_of (W := [A, T, w, w, w, w, w]) (by simp [tl_append, joinL, hTold, hT, hX, hc1, hc2, hmul, lt0, lt1, lt2, lt3, lt4, lt5, lt6, lt7, lt8, lt9, lt10, lt11, lt12, lt13, lt14, lt15, lt16, lt17, lt18, lt19, lt20, lt21, lt22, lt23, lt24, lt25, lt26, lt27, lt28, lt29, lt30, lt31, lt32, lt33, lt34, lt35, lt36, lt37]) (by simp) ((all_cons (fA) (all_cons (fT) (all_cons (fw) (all_cons (fw) (all_cons (fw) (all_cons (fw) (all_cons (fw) all_nil))))))))).trans (words_many (by simp)))) <|
    all_cons (o_row g (pl_le (pl_app (pl_app (pl_app (pl_app (pl_lit (by decide +kernel)) (pl_sym g.sa)) (pl_lit (by decide +kernel))) (pT)) (pl_sym g.sw)) (by decide)) ((rd_of (W := [("" : Str), A, T, w]) (by simp [tl_append, joinL, hTold, hT, hX, hc1, hc2, hmul, lt0, lt1, lt2, lt3, lt4, lt5, lt6, lt7, lt8, lt9, lt10, lt11, lt12, lt13, lt14, lt15, lt16, lt17, lt18, lt19, lt20, lt21, lt22, lt23, lt24, lt25, lt26, lt27, lt28, lt29, lt30, lt31, lt32, lt33, lt34, lt35, lt36, lt37]) (by simp) ((all_cons (by decide +kernel) (all_cons (fA) (all_cons (fT) (all_cons (fw) all_nil)))))).trans (words_mid (mid_nocolon cA)))) <|
    all_cons (o_share g (q := shr 1 1000) (by decide +kernel) (by decide) (by decide) (by decide) (by decide +kernel) (by simp [tl_append, joinL, hTold, hT, hX, hc1, hc2, hmul, lt0, lt1, lt2, lt3, lt4, lt5, lt6, lt7, lt8, lt9, lt10, lt11, lt12, lt13, lt14, lt15, lt16, lt17, lt18, lt19, lt20, lt21, lt22, lt23, lt24, lt25, lt26, lt27, lt28, lt29, lt30, lt31, lt32, lt33, lt34, lt35, lt36, lt37, rowOf, R1, e11, e12, e13, e14, ejw, tl_numS])) <|
    all_cons (o_start g) <|
    all_cons o2 <|
    all_cons o3 <|
    all_cons (o_share g (q := shr 99 100) (by decide +kernel) (by decide) (by decide) (by decide) (by decide +kernel) (by simp [tl_append, joinL, hTold, hT, hX, hc1, hc2, hmul, lt0, lt1, lt2, lt3, lt4, lt5, lt6, lt7, lt8, lt9, lt10, lt11, lt12, lt13, lt14, lt15, lt16, lt17, lt18, lt19, lt20, lt21, lt22, lt23, lt24, lt25, lt26, lt27, lt28, lt29, lt30, lt31, lt32, lt33, lt34, lt35, lt36, lt37, rowOf, R1, e11, e12, e13, e14, ejw, tl_numS])) <|
    all_cons (o_row g (pl_le (pl_app (pl_app (pl_sym g.sa) (pl_lit (by decide +kernel))) (pl_sym g.sw)) (by decide)) ((rd_of (W := [A, ("1_0/11:" : Str), w]) (by simp [tl_append, joinL, hTold, hT, hX, hc1, hc2, hmul, lt0, lt1, lt2, lt3, lt4, lt5, lt6, lt7, lt8, lt9, lt10, lt11, lt12, lt13, lt14, lt15, lt16, lt17, lt18, lt19, lt20, lt21, lt22, lt23, lt24, lt25, lt26, lt27, lt28, lt29, lt30, lt31, lt32, lt33, lt34, lt35, lt36, lt37]) (by simp) ((all_cons (fA) (all_cons (by decide +kernel) (all_cons (fw) all_nil))))).trans (words_mid (by decide +kernel)))) <|
    all_cons (o_row g (pl_le (pl_app (pl_app (pl_lit (by decide +kernel)) (pT)) (pl_sym g.sw)) (by decide)) ((rd_of (W := [("a1" : Str), T, w]) (by simp [tl_append, joinL, hTold, hT, hX, hc1, hc2, hmul, lt0, lt1, lt2, lt3, lt4, lt5, lt6, lt7, lt8, lt9, lt10, lt11, lt12, lt13, lt14, lt15, lt16, lt17, lt18, lt19, lt20, lt21, lt22, lt23, lt24, lt25, lt26, lt27, lt28, lt29, lt30, lt31, lt32, lt33, lt34, lt35, lt36, lt37]) (by simp) ((all_cons (by decide +kernel) (all_cons (fT) (all_cons (fw) all_nil))))).trans (words_head (by decide +kernel)))) <|
    all_cons (o_row g (pl_le (pl_app (pl_app (pl_app (pl_sym g.sa) (pl_lit (by decide +kernel))) (pl_cut pT)) (pl_sym g.sw)) (by decide)) ((rd_of (W := [A, T ++ w]) (by simp [tl_append, joinL, hTold, hT, hX, hc1, hc2, hmul, lt0, lt1, lt2, lt3, lt4, lt5, lt6, lt7, lt8, lt9, lt10, lt11, lt12, lt13, lt14, lt15, lt16, lt17, lt18, lt19, lt20, lt21, lt22, lt23, lt24, lt25, lt26, lt27, lt28, lt29, lt30, lt31, lt32, lt33, lt34, lt35, lt36, lt37]) (by simp) ((all_cons (fA) (all_cons (app_free fT fw) all_nil)))).trans (rfl))) <|
    all_cons (o_row g (pl_le (pl_app (pl_app (pl_app (pl_app (pl_sym g.sa) (pl_lit (by decide +kernel))) (pl_lit (by decide +kernel))) (pl_lit (by decide +kernel))) (pl_sym g.sw)) (by decide)) ((rd_of (W := [A, ("1/0:" : Str), w]) (by simp [tl_append, joinL, hTold, hT, hX, hc1, hc2, hmul, lt0, lt1, lt2, lt3, lt4, lt5, lt6, lt7, lt8, lt9, lt10, lt11, lt12, lt13, lt14, lt15, lt16, lt17, lt18, lt19, lt20, lt21, lt22, lt23, lt24, lt25, lt26, lt27, lt28, lt29, lt30, lt31, lt32, lt33, lt34, lt35, lt36, lt37]) (by simp) ((all_cons (fA) (all_cons (by decide +kernel) (all_cons (fw) all_nil))))).trans (words_mid (by decide +kernel)))) <|
    all_cons (o_feed g) <|
    all_cons (o_first g (pl_le (pl_app (pl_lit (by decide +kernel)) (pl_sym g.sa)) (by decide)) (st_of (a := "") (b := "start " ++ A) (by simp [tl_append, joinL, hTold, hT, hX, hc1, hc2, hmul, lt0, lt1, lt2, lt3, lt4, lt5, lt6, lt7, lt8, lt9, lt10, lt11, lt12, lt13, lt14, lt15, lt16, lt17, lt18, lt19, lt20, lt21, lt22, lt23, lt24, lt25, lt26, lt27, lt28, lt29, lt30, lt31, lt32, lt33, lt34, lt35, lt36, lt37]) (by decide +kernel) (.inl (by decide +kernel)))) <|
    all_cons o4 <|
    all_cons o5 <|
    all_cons o6 <|
    all_nil
end
theorem join_exact : ∀ {ys : List Str}, ys ≠ [] → (ys.map (·.length)).sum + ys.length * ("\n" : Str).length = (Txt.join "\n" ys).length + 1 := by
  intro ys
  have e1 : ("\n" : Str).length = 1 := by decide +kernel
  rw [len_tl (Txt.join "\n" ys), join_eq, tl_join, tl_lit.2.2.2.2.1, e1]
  induction ys with
  | nil => intro h; exact absurd rfl h
  | cons a ys ih =>
    intro _
    cases ys with
    | nil => show (a.length + 0) + 1 * 1 = (tl a).length + 1; rw [len_tl]
    | cons b zs =>
      have ih := ih (by simp)
      show (a.length + ((b :: zs).map (·.length)).sum) + ((b :: zs).length + 1) * 1 = (tl a ++ ([10] ++ joinL [10] ((b :: zs).map tl))).length + 1
      rw [List.length_append, List.length_append, List.length_singleton, len_tl a]
      omega
theorem kind_fit {ys : List Str} {s : Str} (h : KindIs (Txt.join "\n" ys) s) (h0 : ys ≠ []) : (ys.map (·.length)).sum + ys.length * ("\n" : Str).length ≤ 100000 := by
  rw [join_exact h0]
  have := h.1
  omega
theorem row1_put {A w : Str} {q : Rat} : A ++ " " ++ toldS q ++ w = rowOf (R1 A w q) := ext_tl (by
  unfold rowOf R1 toldS
  simp only [tl_append, join_tl, List.map_cons, List.map_nil, joinL]
  simp)
theorem row2_put {A n : Str} {q : Rat} : A ++ " " ++ toldS q ++ (A ++ " " ++ n) = rowOf (R2' A n q) := ext_tl (by
  unfold rowOf R2' toldS
  simp only [tl_append, join_tl, List.map_cons, List.map_nil, joinL, tl_lit.1]
  simp)
end G91

namespace G91
open PySem PySem.Spec PyProof.Rows L2
open Evl (Ex)
open He (ga ma fAd)
def topS (i : Nat) : Stmt := PySem.Challenge.pw_scoreflow_k23_texts_refused.main.body.getD i (.Pass ⟨0, 0, 0, 0⟩)
abbrev s_divisor : Stmt := topS 11
theorem sc_divisor : FnScope ["one", "other", "rest"] ["one", "other"] (defScope s_divisor) := ⟨rfl, rfl, rfl, by decide +kernel, rfl, by decide +kernel, by decide +kernel⟩
theorem bt_divisor : BindsTxt ["one", "other"] "divisor" "divisor" s_divisor := fun _ _ _ _ _ _ us hl => match us, hl with | [_, _], _ => rfl
abbrev s_share : Stmt := topS 12
theorem sc_share : FnScope ["top", "bottom", "common"] ["top", "bottom"] (defScope s_share) := ⟨rfl, rfl, rfl, by decide +kernel, rfl, by decide +kernel, by decide +kernel⟩
theorem bt_share : BindsTxt ["top", "bottom"] "share" "share" s_share := fun _ _ _ _ _ _ us hl => match us, hl with | [_, _], _ => rfl
abbrev s_added : Stmt := topS 13
theorem sc_added : FnScope ["one", "other"] ["one", "other"] (defScope s_added) := ⟨rfl, rfl, rfl, by decide +kernel, rfl, by decide +kernel, by decide +kernel⟩
theorem bt_added : BindsTxt ["one", "other"] "added" "added" s_added := fun _ _ _ _ _ _ us hl => match us, hl with | [_, _], _ => rfl
abbrev s_is_symbol : Stmt := topS 19
theorem sc_is_symbol : FnScope ["text", "sign"] ["text"] (defScope s_is_symbol) := ⟨rfl, rfl, rfl, by decide +kernel, rfl, by decide +kernel, by decide +kernel⟩
theorem bt_is_symbol : BindsTxt ["text"] "is_symbol" "is_symbol" s_is_symbol := fun _ _ _ _ _ _ us hl => match us, hl with | [_], _ => rfl
abbrev s_need_rule : Stmt := topS 20
theorem sc_need_rule : FnScope ["rule", "symbol"] ["rule"] (defScope s_need_rule) := ⟨rfl, rfl, rfl, by decide +kernel, rfl, by decide +kernel, by decide +kernel⟩
theorem bt_need_rule : BindsTxt ["rule"] "need_rule" "need_rule" s_need_rule := fun _ _ _ _ _ _ us hl => match us, hl with | [_], _ => rfl
abbrev s_Grammar_found_live : Stmt := inClass (topS 21) 1
theorem sc_Grammar_found_live : FnScope ["self", "found", "many", "head", "body", "part", "symbol"] ["self"] (defScope s_Grammar_found_live) := ⟨rfl, rfl, rfl, by decide +kernel, rfl, by decide +kernel, by decide +kernel⟩
theorem bt_Grammar_found_live : BindsTxt ["self"] "found_live" "Grammar.found_live" s_Grammar_found_live := fun _ _ _ _ _ _ us hl => match us, hl with | [_], _ => rfl
abbrev s_Grammar___init__ : Stmt := inClass (topS 21) 0
theorem sc_Grammar___init__ : FnScope ["self", "start", "rules", "rule", "one", "head"] ["self", "start", "rules"] (defScope s_Grammar___init__) := ⟨rfl, rfl, rfl, by decide +kernel, rfl, by decide +kernel, by decide +kernel⟩
theorem bt_Grammar___init__ : BindsTxt ["self", "start", "rules"] "__init__" "Grammar.__init__" s_Grammar___init__ := fun _ _ _ _ _ _ us hl => match us, hl with | [_, _, _], _ => rfl
abbrev s_Grammar_rules : Stmt := inClass (topS 21) 2
theorem sc_Grammar_rules : FnScope ["self"] ["self"] (defScope s_Grammar_rules) := ⟨rfl, rfl, rfl, by decide +kernel, rfl, by decide +kernel, by decide +kernel⟩
theorem bt_Grammar_rules : BindsTxt ["self"] "rules" "Grammar.rules" s_Grammar_rules := fun _ _ _ _ _ _ us hl => match us, hl with | [_], _ => rfl
abbrev s_Grammar_start : Stmt := inClass (topS 21) 4
theorem sc_Grammar_start : FnScope ["self"] ["self"] (defScope s_Grammar_start) := ⟨rfl, rfl, rfl, by decide +kernel, rfl, by decide +kernel, by decide +kernel⟩
theorem bt_Grammar_start : BindsTxt ["self"] "start" "Grammar.start" s_Grammar_start := fun _ _ _ _ _ _ us hl => match us, hl with | [_], _ => rfl
abbrev s_number_of : Stmt := topS 25
theorem sc_number_of : FnScope ["word", "sign"] ["word"] (defScope s_number_of) := ⟨rfl, rfl, rfl, by decide +kernel, rfl, by decide +kernel, by decide +kernel⟩
theorem bt_number_of : BindsTxt ["word"] "number_of" "number_of" s_number_of := fun _ _ _ _ _ _ us hl => match us, hl with | [_], _ => rfl
abbrev s_need_symbol : Stmt := topS 26
theorem sc_need_symbol : FnScope ["word"] ["word"] (defScope s_need_symbol) := ⟨rfl, rfl, rfl, by decide +kernel, rfl, by decide +kernel, by decide +kernel⟩
theorem bt_need_symbol : BindsTxt ["word"] "need_symbol" "need_symbol" s_need_symbol := fun _ _ _ _ _ _ us hl => match us, hl with | [_], _ => rfl
abbrev s_rule_of : Stmt := topS 27
theorem sc_rule_of : FnScope ["row", "words", "top", "line", "bottom", "own", "word"] ["row"] (defScope s_rule_of) := ⟨rfl, rfl, rfl, by decide +kernel, rfl, by decide +kernel, by decide +kernel⟩
theorem bt_rule_of : BindsTxt ["row"] "rule_of" "rule_of" s_rule_of := fun _ _ _ _ _ _ us hl => match us, hl with | [_], _ => rfl
abbrev s_read : Stmt := topS 28
theorem sc_read : FnScope ["text", "rows", "head", "blank", "start", "row"] ["text"] (defScope s_read) := ⟨rfl, rfl, rfl, by decide +kernel, rfl, by decide +kernel, by decide +kernel⟩
theorem bt_read : BindsTxt ["text"] "read" "read" s_read := fun _ _ _ _ _ _ us hl => match us, hl with | [_], _ => rfl
abbrev s__law_kind : Stmt := topS 35
theorem sc__law_kind : FnScope ["_law_text", "e"] ["_law_text"] (defScope s__law_kind) := ⟨rfl, rfl, rfl, by decide +kernel, rfl, by decide +kernel, by decide +kernel⟩
theorem bt__law_kind : BindsTxt ["_law_text"] "_law_kind" "_law_kind" s__law_kind := fun _ _ _ _ _ _ us hl => match us, hl with | [_], _ => rfl
abbrev s__law_odd : Stmt := topS 36
theorem sc__law_odd : FnScope ["_law_names", "_law_own", "_law_cell", "_law_head", "_law_word", "_law_told", "_law_some"] ["_law_names", "_law_own", "_law_cell"] (defScope s__law_odd) := ⟨rfl, rfl, rfl, by decide +kernel, rfl, by decide +kernel, by decide +kernel⟩
theorem bt__law_odd : BindsTxt ["_law_names", "_law_own", "_law_cell"] "_law_odd" "_law_odd" s__law_odd := fun _ _ _ _ _ _ us hl => match us, hl with | [_, _, _], _ => rfl
abbrev s__law_cell_at : Stmt := topS 30
theorem sc__law_cell_at : FnScope ["_law_script", "_law_k"] ["_law_script", "_law_k"] (defScope s__law_cell_at) := ⟨rfl, rfl, rfl, by decide +kernel, rfl, by decide +kernel, by decide +kernel⟩
theorem bt__law_cell_at : BindsTxt ["_law_script", "_law_k"] "_law_cell_at" "_law_cell_at" s__law_cell_at := fun _ _ _ _ _ _ us hl => match us, hl with | [_, _], _ => rfl
abbrev s__law_share : Stmt := topS 32
theorem sc__law_share : FnScope ["_law_top", "_law_bottom", "_law_one", "_law_other", "_law_rest"] ["_law_top", "_law_bottom"] (defScope s__law_share) := ⟨rfl, rfl, rfl, by decide +kernel, rfl, by decide +kernel, by decide +kernel⟩
theorem bt__law_share : BindsTxt ["_law_top", "_law_bottom"] "_law_share" "_law_share" s__law_share := fun _ _ _ _ _ _ us hl => match us, hl with | [_, _], _ => rfl
abbrev s__law_symbols : Stmt := topS 31
theorem sc__law_symbols : FnScope ["_law_cell", "_law_many", "_law_letters", "_law_size", "_law_at", "_law_out", "_law_k", "_law_name", "_law_place", "_law_step"] ["_law_cell", "_law_many"] (defScope s__law_symbols) := ⟨rfl, rfl, rfl, by decide +kernel, rfl, by decide +kernel, by decide +kernel⟩
theorem bt__law_symbols : BindsTxt ["_law_cell", "_law_many"] "_law_symbols" "_law_symbols" s__law_symbols := fun _ _ _ _ _ _ us hl => match us, hl with | [_, _], _ => rfl
abbrev s_law : Stmt := topS 37
theorem sc_law : FnScope ["_law_script", "_law_names", "_law_parts", "_law_shares", "_law_part", "_law_rows", "_law_bodies", "_law_k", "_law_told", "_law_at", "_law_row", "_law_why", "_law_text"] ["_law_script"] (defScope s_law) := ⟨rfl, rfl, rfl, by decide +kernel, rfl, by decide +kernel, by decide +kernel⟩
theorem bt_law : BindsTxt ["_law_script"] "law" "law" s_law := fun _ _ _ _ _ _ us hl => match us, hl with | [_], _ => rfl
/-- what the top leaves -/
structure Tx (P : Program) (K : PySem.W.Frag) (mg : Str → Option Value) : Prop where
  sys : SysOk P K
  z_len : mg "len" = none
  z_list : mg "list" = none
  z_int : mg "int" = none
  z_tuple : mg "tuple" = none
  z_ValueError : mg "ValueError" = none
  z_isinstance : mg "isinstance" = none
  z_str : mg "str" = none
  z_range : mg "range" = none
  z_sum : mg "sum" = none
  e_NoShare : ExcX K mg "NoShare"
  e_NoGrammar : ExcX K mg "NoGrammar"
  e_NoText : ExcX K mg "NoText"
  e_NoEnd : ExcX K mg "NoEnd"
  e_NoTree : ExcX K mg "NoTree"
  e_ScoreError : ExcX K mg "ScoreError"
  km_NoShare_ScoreError : PySem.W.exmOne K (.ref (ga K "NoShare")) (.ref (ga K "ScoreError")) = some true
  xc_NoShare : ExcC K (ga K "NoShare")
  ki_NoShare_NoEnd : PySem.W.kitOne K (.ref (ga K "NoShare")) (.ref (ga K "NoEnd")) = some false
  ki_NoShare_NoGrammar : PySem.W.kitOne K (.ref (ga K "NoShare")) (.ref (ga K "NoGrammar")) = some false
  ki_NoShare_NoShare : PySem.W.kitOne K (.ref (ga K "NoShare")) (.ref (ga K "NoShare")) = some true
  ki_NoShare_NoText : PySem.W.kitOne K (.ref (ga K "NoShare")) (.ref (ga K "NoText")) = some false
  ki_NoShare_NoTree : PySem.W.kitOne K (.ref (ga K "NoShare")) (.ref (ga K "NoTree")) = some false
  ki_NoShare_ValueError : PySem.W.kitOne K (.ref (ga K "NoShare")) (.type "ValueError") = some true
  km_NoGrammar_ScoreError : PySem.W.exmOne K (.ref (ga K "NoGrammar")) (.ref (ga K "ScoreError")) = some true
  xc_NoGrammar : ExcC K (ga K "NoGrammar")
  ki_NoGrammar_NoEnd : PySem.W.kitOne K (.ref (ga K "NoGrammar")) (.ref (ga K "NoEnd")) = some false
  ki_NoGrammar_NoGrammar : PySem.W.kitOne K (.ref (ga K "NoGrammar")) (.ref (ga K "NoGrammar")) = some true
  ki_NoGrammar_NoShare : PySem.W.kitOne K (.ref (ga K "NoGrammar")) (.ref (ga K "NoShare")) = some false
  ki_NoGrammar_NoText : PySem.W.kitOne K (.ref (ga K "NoGrammar")) (.ref (ga K "NoText")) = some false
  ki_NoGrammar_NoTree : PySem.W.kitOne K (.ref (ga K "NoGrammar")) (.ref (ga K "NoTree")) = some false
  ki_NoGrammar_ValueError : PySem.W.kitOne K (.ref (ga K "NoGrammar")) (.type "ValueError") = some true
  km_NoText_ScoreError : PySem.W.exmOne K (.ref (ga K "NoText")) (.ref (ga K "ScoreError")) = some true
  xc_NoText : ExcC K (ga K "NoText")
  ki_NoText_NoEnd : PySem.W.kitOne K (.ref (ga K "NoText")) (.ref (ga K "NoEnd")) = some false
  ki_NoText_NoGrammar : PySem.W.kitOne K (.ref (ga K "NoText")) (.ref (ga K "NoGrammar")) = some false
  ki_NoText_NoShare : PySem.W.kitOne K (.ref (ga K "NoText")) (.ref (ga K "NoShare")) = some false
  ki_NoText_NoText : PySem.W.kitOne K (.ref (ga K "NoText")) (.ref (ga K "NoText")) = some true
  ki_NoText_NoTree : PySem.W.kitOne K (.ref (ga K "NoText")) (.ref (ga K "NoTree")) = some false
  ki_NoText_ValueError : PySem.W.kitOne K (.ref (ga K "NoText")) (.type "ValueError") = some true
  c_LETTERS : ∃ u, mg "LETTERS" = some (.str "abcdefghijklmnopqrstuvwxyzABCDEFGHIJKLMNOPQRSTUVWXYZ" u)
  c_LONGEST : ∃ u, mg "LONGEST" = some (.int 8 u)
  c_MOST_BODY : ∃ u, mg "MOST_BODY" = some (.int 4 u)
  c_ALL : mg "ALL" = some (.ref (ga K "ALL"))
  v_ALL : ∀ H : Hp, SqT K H (ga K "ALL") [.int 1, .int 1]
  c_MOST_RULES : ∃ u, mg "MOST_RULES" = some (.int 30 u)
  c_NONE : mg "NONE" = some (.ref (ga K "NONE"))
  v_NONE : ∀ H : Hp, SqT K H (ga K "NONE") [.int 0, .int 1]
  c_FIGURES : ∃ u, mg "FIGURES" = some (.str "0123456789" u)
  c_MOST_FIGURES : ∃ u, mg "MOST_FIGURES" = some (.int 60 u)
  g_Grammar : mg "Grammar" = some (.ref (ga K "Grammar"))
  cl_Grammar : Cls K (ga K "Grammar")
  na_Grammar_begun : NoAttr K (ga K "Grammar") "begun"
  na_Grammar_listed : NoAttr K (ga K "Grammar") "listed"
  na_Grammar_headed : NoAttr K (ga K "Grammar") "headed"
  na_Grammar_living : NoAttr K (ga K "Grammar") "living"
  f_divisor : mg "divisor" = some (.ref (ga K "divisor"))
  d_divisor : Df K "divisor" "divisor" s_divisor (ga K "divisor")
  f_share : mg "share" = some (.ref (ga K "share"))
  d_share : Df K "share" "share" s_share (ga K "share")
  f_added : mg "added" = some (.ref (ga K "added"))
  d_added : Df K "added" "added" s_added (ga K "added")
  f_is_symbol : mg "is_symbol" = some (.ref (ga K "is_symbol"))
  d_is_symbol : Df K "is_symbol" "is_symbol" s_is_symbol (ga K "is_symbol")
  f_need_rule : mg "need_rule" = some (.ref (ga K "need_rule"))
  d_need_rule : Df K "need_rule" "need_rule" s_need_rule (ga K "need_rule")
  me_Grammar_found_live : Meth K (ga K "Grammar") "found_live" (ma K (ga K "Grammar") "found_live")
  d_Grammar_found_live : Df K "found_live" "Grammar.found_live" s_Grammar_found_live (ma K (ga K "Grammar") "found_live")
  mk_Grammar : Mk K (ga K "Grammar") (ma K (ga K "Grammar") "__init__")
  d_Grammar___init__ : Df K "__init__" "Grammar.__init__" s_Grammar___init__ (ma K (ga K "Grammar") "__init__")
  me_Grammar_rules : Meth K (ga K "Grammar") "rules" (ma K (ga K "Grammar") "rules")
  d_Grammar_rules : Df K "rules" "Grammar.rules" s_Grammar_rules (ma K (ga K "Grammar") "rules")
  me_Grammar_start : Meth K (ga K "Grammar") "start" (ma K (ga K "Grammar") "start")
  d_Grammar_start : Df K "start" "Grammar.start" s_Grammar_start (ma K (ga K "Grammar") "start")
  f_number_of : mg "number_of" = some (.ref (ga K "number_of"))
  d_number_of : Df K "number_of" "number_of" s_number_of (ga K "number_of")
  f_need_symbol : mg "need_symbol" = some (.ref (ga K "need_symbol"))
  d_need_symbol : Df K "need_symbol" "need_symbol" s_need_symbol (ga K "need_symbol")
  f_rule_of : mg "rule_of" = some (.ref (ga K "rule_of"))
  d_rule_of : Df K "rule_of" "rule_of" s_rule_of (ga K "rule_of")
  f_read : mg "read" = some (.ref (ga K "read"))
  d_read : Df K "read" "read" s_read (ga K "read")
  f__law_kind : mg "_law_kind" = some (.ref (ga K "_law_kind"))
  d__law_kind : Df K "_law_kind" "_law_kind" s__law_kind (ga K "_law_kind")
  f__law_odd : mg "_law_odd" = some (.ref (ga K "_law_odd"))
  d__law_odd : Df K "_law_odd" "_law_odd" s__law_odd (ga K "_law_odd")
  f__law_cell_at : mg "_law_cell_at" = some (.ref (ga K "_law_cell_at"))
  d__law_cell_at : Df K "_law_cell_at" "_law_cell_at" s__law_cell_at (ga K "_law_cell_at")
  f__law_share : mg "_law_share" = some (.ref (ga K "_law_share"))
  d__law_share : Df K "_law_share" "_law_share" s__law_share (ga K "_law_share")
  f__law_symbols : mg "_law_symbols" = some (.ref (ga K "_law_symbols"))
  d__law_symbols : Df K "_law_symbols" "_law_symbols" s__law_symbols (ga K "_law_symbols")
  f_law : mg "law" = some (.ref (ga K "law"))
  d_law : Df K "law" "law" s_law (ga K "law")
local macro_rules | `(tactic| walk_at "shp") => `(tactic| first | rfl | (with_reducible apply shaped_shD) | (with_reducible assumption) | decide +kernel)
local macro_rules | `(tactic| walk_at "num") => `(tactic| first | omega | (with_reducible assumption) | decide)
local macro_rules | `(tactic| walk_at "st") => `(tactic| first
  | (with_reducible refine ws_seq ?_) | (with_reducible refine ws_asg ?_) | (with_reducible refine ws_ret ?_) | (with_reducible refine ws_drop ?_)
  | (with_reducible refine we_var rfl ?_) | (with_reducible refine we_int ?_) | (with_reducible refine we_str ?_) | (with_reducible refine we_bl ?_) | (with_reducible refine we_non ?_)
  | (with_reducible refine we_op ?_) | (with_reducible refine we_un ?_) | (with_reducible refine wa_nil ?_) | (with_reducible refine wa_cons ?_) | (with_reducible refine we_call0 ?_) | (with_reducible refine we_cb ?_)
  | (with_reducible refine r2_addI ?_) | (with_reducible refine r2_lt ?_) | (with_reducible refine r2_le ?_) | (with_reducible refine r2_gt ?_) | (with_reducible refine r2_ge ?_) | (with_reducible refine r2_sub ?_)
  | (with_reducible refine ws_next ?_) | (with_reducible refine we_sh0 (by assumption) ?_) | (with_reducible refine we_sh1 (by assumption) ?_) | (with_reducible refine we_raw ?_)
  | (with_reducible refine rc_lenScr ?_) | (with_reducible refine rc_lenT ?_) | (with_reducible refine rc_lenRow (RL.sh _) ?_) | (with_reducible refine rc_lenL (RL.sh _) ?_) | (refine rc_isiF (by rfl) ?_)
  | (refine r2_mod (by walk_at "num") ?_)
  | (refine r2_eqD (DR.sh _) (DR.sh _) (by walk_at "shp") (by walk_at "shp") ?_) | (refine r2_neD (DR.sh _) (DR.sh _) (by walk_at "shp") (by walk_at "shp") ?_)
  | (refine r2_pow (by decide) (by decide) (by decide) ?_)
  | (refine r2_ixT (by rfl) ?_))
local macro_rules | `(tactic| walk_at "run") => `(tactic| repeat walk_at "st")
local macro_rules | `(tactic| walk_at "ep") => `(tactic| first
  | ((with_reducible apply ep_andV); walk_at "ep"; (intro _; walk_at "ep")) | ((with_reducible apply ep_orV); walk_at "ep"; (intro _; walk_at "ep")) | ((with_reducible apply ep_notV); walk_at "ep")
  | (unfold EP1; (repeat walk_at "st"); exact ⟨rfl, rfl⟩))
local macro_rules | `(tactic| walk_at "tp") => `(tactic| first
  | ((with_reducible apply tp_and); walk_at "tp"; (intro _; walk_at "tp")) | ((with_reducible apply tp_or); walk_at "tp"; (intro _; walk_at "tp")) | ((with_reducible apply tp_not); walk_at "tp")
  | ((with_reducible apply tp_test); walk_at "ep") | ((with_reducible apply tp_B); walk_at "ep"))
local macro_rules | `(tactic| walk_at "we") => `(tactic| refine' we_P (by walk_at "ep") ?_)
/-! divisor, share -/
def sp_divisor (_ : PySem.W.Frag) : SpD := fun as M k _ => ∃ a b : Int, as = [.va (.int a), .va (.int b)] ∧ 0 ≤ a ∧ 0 ≤ b ∧ k (.va (.int (Int.gcd a b))) M
/-! divisor -/
def t_divisor (K : PySem.W.Frag) (E : XK) : TS :=
  (tSeq (tWhile (tTest (tOp rGtI (tVar 1) (tC (.int 0))))
  (tSeq (tAsg (tOp rModN (tVar 0) (tVar 1)) (gName 2))
  (tSeq (tAsg (tVar 1) (gName 0))
  (tAsg (tVar 2) (gName 1)))))
  (tRet (tVar 0)))
set_option maxHeartbeats 4000000 in
theorem p_divisor {P : Program} {w : World} {K : PySem.W.Frag} {mg : Str → Option Value} {base : Heap} (T : Tx P K mg) {f : Addr} {cdv : Value} {A : Around} {outer : List Env} {s : Shared} {H : Hp} {E : XK} (hr : Room 0 (A.deeper (envOfC "divisor" (defScope s_divisor) s.heap.objs.size f cdv))) :
    PSs (cxOf (L2.CX P w) P w K mg base ["one", "other", "rest"] "divisor" (defScope s_divisor) f cdv A outer s H E) (defBody s_divisor) (t_divisor K E) := by
  have hu1 := hu_of hr
  have hu := hr.units
  have hu65 := hu_65 hr
  exact (pss_cons (ps_while (passes_of rfl) (pt_cmpR op_gt (pv 1) pe_int (nomark _))
  (pss_cons (ps_set (i := 2) sc_divisor.nd rfl (by first | exact Or.inl rfl | exact Or.inr rfl) (pe_op op_modN (pv 0) (pv 1)))
  (pss_cons (ps_set (i := 0) sc_divisor.nd rfl (by first | exact Or.inl rfl | exact Or.inr rfl) (pv 1))
  (pss_one (ps_set (i := 1) sc_divisor.nd rfl (by first | exact Or.inl rfl | exact Or.inr rfl) (pv 2))))))
  (pss_one (ps_ret (pv 0))))
theorem ini_divisor {K : PySem.W.Frag} {sp : SpD} (h : ∀ as M k e, sp as M k e → ∃ a0 a1, as = [a0, a1] ∧ ∀ P0 E, XL K P0 E e → WS K P0 (t_divisor K E) [some a0, some a1, none] M (fun _ M' => k (.va .none) M') k (fun _ _ => False) (fun _ _ => False)) : Keeps K ["one", "other", "rest"] ["one", "other"] (t_divisor K) sp := fun as M k e hs => by
  obtain ⟨a0, a1, rfl, h⟩ := h as M k e hs
  exact ⟨rfl, fun P0 E hE => h P0 E hE⟩
theorem mk_divisor {P : Program} {w : World} {K : PySem.W.Frag} {mg : Str → Option Value} {base : Heap} (T : Tx P K mg) (hv : Keeps K ["one", "other", "rest"] ["one", "other"] (t_divisor K) (sp_divisor K)) : Cal P w K mg base "divisor" 1 (lift K (sp_divisor K)) :=
  cal_mk T.d_divisor T.f_divisor sc_divisor bt_divisor (by decide) (fun cdv A outer s H E hr => p_divisor T  hr) hv

theorem gcd_walk {K : PySem.W.Frag} {P0 : Ent} {E : XK} {M : Mm} {k : Sv → Mm → Prop} {a b : Int} (ha : 0 ≤ a) (hb : 0 ≤ b) (hk : k (.va (.int (Int.gcd a b))) M) : WS K P0 (t_divisor K E) [some (.va (.int a)), some (.va (.int b)), none] M (fun _ M' => k (.va .none) M') k (fun _ _ => False) (fun _ _ => False) := by
  unfold t_divisor
  refine ws_seq (ws_while (fun m G' M' => ∃ (x y : Int) (z : Option Sv), G' = [some (.va (.int x)), some (.va (.int y)), z] ∧ M' = M ∧ 0 ≤ x ∧ 0 ≤ y ∧ Int.gcd x y = Int.gcd a b ∧ m = y.toNat) b.toNat ⟨a, b, none, rfl, rfl, ha, hb, rfl, rfl⟩ ?_)
  rintro m G' M' ⟨x, y, z, rfl, rfl, hx, hy, hg, rfl⟩
  refine' wt_P (by walk_at "tp") ⟨fun h => ?_, fun h => ?_⟩
  · have h : 0 < y := of_decide_eq_true h
    walk_at "run"
    have h1 := Int.emod_nonneg x (show y ≠ 0 by omega)
    have h2 := Int.emod_lt_of_pos x h
    exact ⟨(x % y).toNat, by omega, y, x % y, _, rfl, rfl, hy, h1, (gcd_step hx h).trans hg, rfl⟩
  · have h : ¬ 0 < y := of_decide_eq_false h
    walk_at "run"
    have e : y = 0 := by omega
    subst e
    rw [← hg, gcd_zero_r hx] at hk
    exact hk
theorem v_divisor {K : PySem.W.Frag} : Keeps K ["one", "other", "rest"] ["one", "other"] (t_divisor K) (sp_divisor K) := by
  refine ini_divisor ?_
  rintro as M k e ⟨a, b, rfl, ha, hb, hk⟩
  exact ⟨_, _, rfl, fun P0 E hE => gcd_walk (E := E) ha hb hk⟩
/-- share(top, bottom) -/
def sp_share (K : PySem.W.Frag) : SpD := fun as M k e => ∃ t b : Int, as = [.va (.int t), .va (.int b)] ∧ ((t < 0 ∨ b < 1) → e (.ref (ga K "NoShare")) M) ∧ (0 ≤ t → 1 ≤ b → k (.va (shD (shr t b))) M)
/-! share -/
def t_share (K : PySem.W.Frag) (E : XK) : TS :=
  (tSeq (tIfS (tOr (tTest (tOp rLtI (tVar 0) (tC (.int 0)))) (tTest (tOp rLtI (tVar 1) (tC (.int 1)))))
  (tRaiseX (.ref (ga K "NoShare")) E)
  tNext)
  (tSeq (tAsg (tCall (lift K (sp_divisor K)) [] E0 (tCons (tVar 0) (tCons (tVar 1) tNil))) (gName 2))
  (tRet (tTup (tCons (tOp rDivR (tVar 0) (tVar 2)) (tCons (tOp rDivR (tVar 1) (tVar 2)) tNil))))))
set_option maxHeartbeats 4000000 in
theorem p_share {P : Program} {w : World} {K : PySem.W.Frag} {mg : Str → Option Value} {base : Heap} (T : Tx P K mg) (c_divisor : Cal P w K mg base "divisor" 1 (lift K (sp_divisor K))) {f : Addr} {cdv : Value} {A : Around} {outer : List Env} {s : Shared} {H : Hp} {E : XK} (hr : Room 33 (A.deeper (envOfC "share" (defScope s_share) s.heap.objs.size f cdv))) :
    PSs (cxOf (L2.CX P w) P w K mg base ["top", "bottom", "common"] "share" (defScope s_share) f cdv A outer s H E) (defBody s_share) (t_share K E) := by
  have hu1 := hu_of hr
  have hu := hr.units
  have hu65 := hu_65 hr
  exact (pss_cons (ps_if (PW.pt (pw_or (pt_cmpR op_lt (pv 0) pe_int (nomark _)) (pw_or1 (pt_cmpR op_lt (pv 1) pe_int (nomark _)))))
  (pss_one (praise rfl T.e_NoShare (takes_of rfl rfl rfl rfl) (by rfl)))
  pss_nil)
  (pss_cons (ps_set (i := 2) sc_share.nd rfl (by first | exact Or.inl rfl | exact Or.inr rfl) (pcall c_divisor hr (by decide) (by rfl) passL (pa_cons (pv 0) (pa_cons (pv 1) pa_nil))))
  (pss_one (ps_ret (pe_tup (pa_cons (pe_op (op_fdivR T.sys (hr.mono (by decide)) rfl rfl rfl) (pv 0) (pv 2)) (pa_cons (pe_op (op_fdivR T.sys (hr.mono (by decide)) rfl rfl rfl) (pv 1) (pv 2)) pa_nil)))))))
theorem ini_share {K : PySem.W.Frag} {sp : SpD} (h : ∀ as M k e, sp as M k e → ∃ a0 a1, as = [a0, a1] ∧ ∀ P0 E, XL K P0 E e → WS K P0 (t_share K E) [some a0, some a1, none] M (fun _ M' => k (.va .none) M') k (fun _ _ => False) (fun _ _ => False)) : Keeps K ["top", "bottom", "common"] ["top", "bottom"] (t_share K) sp := fun as M k e hs => by
  obtain ⟨a0, a1, rfl, h⟩ := h as M k e hs
  exact ⟨rfl, fun P0 E hE => h P0 E hE⟩
theorem mk_share {P : Program} {w : World} {K : PySem.W.Frag} {mg : Str → Option Value} {base : Heap} (T : Tx P K mg) (c_divisor : Cal P w K mg base "divisor" 1 (lift K (sp_divisor K))) (hv : Keeps K ["top", "bottom", "common"] ["top", "bottom"] (t_share K) (sp_share K)) : Cal P w K mg base "share" 34 (lift K (sp_share K)) :=
  cal_mk T.d_share T.f_share sc_share bt_share (by decide) (fun cdv A outer s H E hr => p_share T c_divisor hr) hv

theorem v_share {K : PySem.W.Frag} : Keeps K ["top", "bottom", "common"] ["top", "bottom"] (t_share K) (sp_share K) := by
  refine ini_share ?_
  rintro as M k e ⟨t, b, rfl, he, hk⟩
  refine ⟨_, _, rfl, fun P0 E hE => ?_⟩
  unfold t_share
  walk_at "run"
  refine' ws_ifP (by walk_at "tp") (fun h => ?_) (fun h => ?_)
  · simp only [Bool.or_eq_true, decide_eq_true_eq] at h
    exact ws_raiseX hE (he h)
  · simp only [Bool.or_eq_false_iff, decide_eq_false_iff_not] at h
    have ht : 0 ≤ t := by omega
    have hb : 1 ≤ b := by omega
    have hg : 0 < (Int.gcd t b : Int) := by
      have : Int.gcd t b ≠ 0 := fun z => by rw [Int.gcd_eq_zero_iff] at z; omega
      omega
    walk_at "run"
    refine ⟨t, b, rfl, ht, by omega, ?_⟩
    walk_at "run"
    refine we_tup ?_
    walk_at "run"
    refine r2_divR hg ?_
    walk_at "run"
    refine r2_divR hg ?_
    walk_at "run"
    refine ⟨[_, _], rfl, by simp, ?_⟩
    rw [← shD_shr (show 0 < b by omega)]
    exact hk ht hb

/-! added, timed -/
theorem cl_share {K : PySem.W.Frag} {t b : Int} {M : Mm} {k : Sv → Mm → Prop} {e : Value → Mm → Prop} (h1 : 0 ≤ t) (h2 : 1 ≤ b) (hk : k (.va (shD (shr t b))) M) : sp_share K [.va (.int t), .va (.int b)] M k e := ⟨t, b, rfl, fun h => by omega, fun _ _ => hk⟩
def sp_added (_ : PySem.W.Frag) : SpD := fun as M k _ => ∃ r s : Rat, as = [.va (shD r), .va (shD s)] ∧ 0 ≤ r ∧ 0 ≤ s ∧ Fit r ∧ Fit s ∧ k (.va (shD (r + s))) M
theorem cl_added {K : PySem.W.Frag} {r s : Rat} {M : Mm} {k : Sv → Mm → Prop} {e : Value → Mm → Prop} (h1 : 0 ≤ r ∧ Fit r) (h2 : 0 ≤ s ∧ Fit s) (hk : k (.va (shD (r + s))) M) : sp_added K [.va (shD r), .va (shD s)] M k e := ⟨r, s, rfl, h1.1, h2.1, h1.2, h2.2, hk⟩
/-! added -/
def t_added (K : PySem.W.Frag) (E : XK) : TS :=
  (tRet (tCall (lift K (sp_share K)) [] E0 (tCons (tOp (rAddA K) (tOp (rMulA K) (tOp (rIx K) (tVar 0) (tC (.int 0))) (tOp (rIx K) (tVar 1) (tC (.int 1)))) (tOp (rMulA K) (tOp (rIx K) (tVar 1) (tC (.int 0))) (tOp (rIx K) (tVar 0) (tC (.int 1))))) (tCons (tOp (rMulA K) (tOp (rIx K) (tVar 0) (tC (.int 1))) (tOp (rIx K) (tVar 1) (tC (.int 1)))) tNil))))
set_option maxHeartbeats 4000000 in
theorem p_added {P : Program} {w : World} {K : PySem.W.Frag} {mg : Str → Option Value} {base : Heap} (T : Tx P K mg) (c_share : Cal P w K mg base "share" 34 (lift K (sp_share K))) {f : Addr} {cdv : Value} {A : Around} {outer : List Env} {s : Shared} {H : Hp} {E : XK} (hr : Room 34 (A.deeper (envOfC "added" (defScope s_added) s.heap.objs.size f cdv))) :
    PSs (cxOf (L2.CX P w) P w K mg base ["one", "other"] "added" (defScope s_added) f cdv A outer s H E) (defBody s_added) (t_added K E) := by
  have hu1 := hu_of hr
  have hu := hr.units
  have hu65 := hu_65 hr
  exact (pss_one (ps_ret (pcall c_share hr (by decide) (by rfl) passL (pa_cons (pe_op op_addA (pe_op op_mulA (pe_ix ix_seq (pv 0) pe_int (fun _ _ => rfl)) (pe_ix ix_seq (pv 1) pe_int (fun _ _ => rfl))) (pe_op op_mulA (pe_ix ix_seq (pv 1) pe_int (fun _ _ => rfl)) (pe_ix ix_seq (pv 0) pe_int (fun _ _ => rfl)))) (pa_cons (pe_op op_mulA (pe_ix ix_seq (pv 0) pe_int (fun _ _ => rfl)) (pe_ix ix_seq (pv 1) pe_int (fun _ _ => rfl))) pa_nil)))))
theorem ini_added {K : PySem.W.Frag} {sp : SpD} (h : ∀ as M k e, sp as M k e → ∃ a0 a1, as = [a0, a1] ∧ ∀ P0 E, XL K P0 E e → WS K P0 (t_added K E) [some a0, some a1] M (fun _ M' => k (.va .none) M') k (fun _ _ => False) (fun _ _ => False)) : Keeps K ["one", "other"] ["one", "other"] (t_added K) sp := fun as M k e hs => by
  obtain ⟨a0, a1, rfl, h⟩ := h as M k e hs
  exact ⟨rfl, fun P0 E hE => h P0 E hE⟩
theorem mk_added {P : Program} {w : World} {K : PySem.W.Frag} {mg : Str → Option Value} {base : Heap} (T : Tx P K mg) (c_share : Cal P w K mg base "share" 34 (lift K (sp_share K))) (hv : Keeps K ["one", "other"] ["one", "other"] (t_added K) (sp_added K)) : Cal P w K mg base "added" 35 (lift K (sp_added K)) :=
  cal_mk T.d_added T.f_added sc_added bt_added (by decide) (fun cdv A outer s H E hr => p_added T c_share hr) hv

theorem v_added {K : PySem.W.Frag} : Keeps K ["one", "other"] ["one", "other"] (t_added K) (sp_added K) := by
  refine ini_added ?_
  rintro as M k e ⟨r, s, rfl, hr, hs, fr, fs, hk⟩
  refine ⟨_, _, rfl, fun P0 E hE => ?_⟩
  unfold t_added
  walk_at "run"
  refine r2_mulI (mul_ok fr.1 fs.2) ?_
  walk_at "run"
  refine r2_mulI (mul_ok fs.1 fr.2) ?_
  walk_at "run"
  refine r2_mulI (mul_ok fr.2 fs.2) ?_
  walk_at "run"
  have h1 := num_nn hr
  have h2 := num_nn hs
  have h3 := den_pos r
  have h4 := den_pos s
  have h5 := Int.mul_nonneg h1 (Int.le_of_lt h4)
  have h6 := Int.mul_nonneg h2 (Int.le_of_lt h3)
  have h7 := Int.mul_pos h3 h4
  refine cl_share (by omega) (by omega) ?_
  rw [shr_add]
  exact hk

/-! is_symbol, need_rule -/
def sp_is_symbol (_ : PySem.W.Frag) : SpD := fun as M k _ => ∃ x : Str, as = [.va (.str x)] ∧ TxtOk x ∧ k (.va (.bool (isSym x))) M
/-! is_symbol -/
def t_is_symbol (K : PySem.W.Frag) (E : XK) : TS :=
  (tSeq (tIfS (tOr (tTest (tOp (rEqD K) (tVar 0) (tC (.str "")))) (tTest (tOp rGtI (tCB (rLenC K) (tCons (tVar 0) tNil)) (tC (.int 8)))))
  (tRet (tC (.bl false)))
  tNext)
  (tSeq (tFor (iSeq K (tVar 0)) (gName 1)
  (tIfS (tTest (tOp (rNotInB K) (tVar 1) (tC (.str "abcdefghijklmnopqrstuvwxyzABCDEFGHIJKLMNOPQRSTUVWXYZ"))))
  (tRet (tC (.bl false)))
  tNext))
  (tRet (tC (.bl true)))))
set_option maxHeartbeats 4000000 in
theorem p_is_symbol {P : Program} {w : World} {K : PySem.W.Frag} {mg : Str → Option Value} {base : Heap} (T : Tx P K mg) {f : Addr} {cdv : Value} {A : Around} {outer : List Env} {s : Shared} {H : Hp} {E : XK} (hr : Room 0 (A.deeper (envOfC "is_symbol" (defScope s_is_symbol) s.heap.objs.size f cdv))) :
    PSs (cxOf (L2.CX P w) P w K mg base ["text", "sign"] "is_symbol" (defScope s_is_symbol) f cdv A outer s H E) (defBody s_is_symbol) (t_is_symbol K E) := by
  have hu1 := hu_of hr
  have hu := hr.units
  have hu65 := hu_65 hr
  exact (pss_cons (ps_if (PW.pt (pw_or (pt_cmpR (op_eqD hu) (pv 0) pe_str (nomark _)) (pw_or1 (pt_cmpR op_gt (pe_callB call_len (by rfl) T.z_len (by decide +kernel) (pa_cons (pv 0) pa_nil)) (pgint T.c_LONGEST (by rfl)) (nomark _)))))
  (pss_one (ps_ret pe_bl))
  pss_nil)
  (pss_cons (ps_for (passes_of rfl) rfl (pi_seq (pv 0)) (pg_name (i := 1) sc_is_symbol.nd rfl (by first | exact Or.inl rfl | exact Or.inr rfl))
  (pss_one (ps_if (pt_cmpR (op_notInB hu65) (pv 1) (pgstr T.c_LETTERS (by rfl)) rfl)
  (pss_one (ps_ret pe_bl))
  pss_nil)))
  (pss_one (ps_ret pe_bl))))
theorem ini_is_symbol {K : PySem.W.Frag} {sp : SpD} (h : ∀ as M k e, sp as M k e → ∃ a0, as = [a0] ∧ ∀ P0 E, XL K P0 E e → WS K P0 (t_is_symbol K E) [some a0, none] M (fun _ M' => k (.va .none) M') k (fun _ _ => False) (fun _ _ => False)) : Keeps K ["text", "sign"] ["text"] (t_is_symbol K) sp := fun as M k e hs => by
  obtain ⟨a0, rfl, h⟩ := h as M k e hs
  exact ⟨rfl, fun P0 E hE => h P0 E hE⟩
theorem mk_is_symbol {P : Program} {w : World} {K : PySem.W.Frag} {mg : Str → Option Value} {base : Heap} (T : Tx P K mg) (hv : Keeps K ["text", "sign"] ["text"] (t_is_symbol K) (sp_is_symbol K)) : Cal P w K mg base "is_symbol" 1 (lift K (sp_is_symbol K)) :=
  cal_mk T.d_is_symbol T.f_is_symbol sc_is_symbol bt_is_symbol (by decide) (fun cdv A outer s H E hr => p_is_symbol T  hr) hv

theorem v_is_symbol {K : PySem.W.Frag} : Keeps K ["text", "sign"] ["text"] (t_is_symbol K) (sp_is_symbol K) := by
  refine ini_is_symbol ?_
  rintro as M k e ⟨x, rfl, hx, hk⟩
  refine ⟨_, rfl, fun P0 E hE => ?_⟩
  have hsh : SeqAt.shaped (.str x) = true := (hx.shp 0).ok (by decide)
  have hlen := hx.len
  unfold t_is_symbol
  have elen : (x.length : Int) = x.cps.size := rfl
  walk_at "run"
  refine' ws_ifP (tp_or (b1 := decide (x.cps.size = 0)) (b2 := decide (8 < (x.cps.size : Int))) ?_ fun _ => ?_) (fun h => ?_) (fun h => ?_)
  · refine tp_test ?_
    unfold EP1
    walk_at "run"
    rw [eqv_str]
    refine ⟨?_, rfl⟩
    have : (x = "") ↔ (x.cps.size = 0) := by
      constructor
      · intro h; rw [h]; rfl
      · intro h
        obtain ⟨c⟩ := x
        have : c = #[] := Array.eq_empty_of_size_eq_zero h
        rw [this]; rfl
    rw [decide_eq_decide.mpr this]
  · refine tp_test ?_
    unfold EP1
    walk_at "run"
    refine rc_lenS hlen ?_
    walk_at "run"
    exact ⟨rfl, rfl⟩
  · walk_at "run"
    have : isSym x = false := by
      unfold isSym
      simp only [Bool.or_eq_true, decide_eq_true_eq] at h
      rcases h with h | h
      · rw [decide_eq_false (by omega)]; rfl
      · rw [decide_eq_false (show ¬ x.cps.size ≤ 8 by omega)]; simp
    rw [this] at hk
    exact hk
  simp only [Bool.or_eq_false_iff, decide_eq_false_iff_not] at h
  walk_at "run"
  refine ws_for (wi_seqS ?_)
  walk_at "run"
  refine ⟨x, rfl, fun i G' M' => M' = M ∧ (∃ z, G' = [some (.va (.str x)), z]) ∧ ∀ j, j < i → x.cps.getD j 0 ∈ letters.cps.toList, ⟨rfl, ⟨_, rfl⟩, fun j hj => by omega⟩, fun _ _ _ _ _ => trivial, ?_, ?_⟩
  · rintro i G' M' hi ⟨rfl, ⟨z, rfl⟩, hj⟩
    refine wg_name ?_
    refine' ws_ifP (tp_test (b := !decide (x.cps.getD i 0 ∈ letters.cps.toList)) ?_) (fun h2 => ?_) (fun h2 => ?_)
    · unfold EP1
      walk_at "run"
      exact r2_notInSg ⟨rfl, rfl⟩
    · walk_at "run"
      have h3 : x.cps.getD i 0 ∉ letters.cps.toList := by simpa using h2
      have : isSym x = false := by
        unfold isSym
        have : (x.cps.toList.all fun c => decide (c ∈ letters.cps.toList)) = false := by
          rw [Bool.eq_false_iff]
          intro z
          rw [List.all_eq_true] at z
          refine h3 (of_decide_eq_true (z _ ?_))
          rw [Array.getD_eq_getD_getElem?, Array.getElem?_eq_getElem hi]
          exact Array.mem_toList_iff.mpr (Array.getElem_mem hi)
        rw [this]; simp
      rw [this] at hk
      exact hk
    · walk_at "run"
      have h3 : x.cps.getD i 0 ∈ letters.cps.toList := by simpa using h2
      refine ⟨rfl, ⟨_, rfl⟩, fun j hj2 => ?_⟩
      by_cases e : j = i
      · rw [e]; exact h3
      · exact hj j (by omega)
  · rintro G' M' ⟨rfl, ⟨z, rfl⟩, hj⟩
    walk_at "run"
    have : isSym x = true := by
      unfold isSym
      rw [decide_eq_true (by omega), decide_eq_true (show x.cps.size ≤ 8 by omega)]
      rw [Bool.true_and, Bool.true_and, List.all_eq_true]
      intro c hc
      obtain ⟨j, hj1, hj2⟩ := Array.mem_iff_getElem.mp (Array.mem_toList_iff.mp hc)
      have := hj j hj1
      rw [Array.getD_eq_getD_getElem?, Array.getElem?_eq_getElem hj1] at this
      rw [← hj2]
      exact decide_eq_true this
    rw [this] at hk
    exact hk
theorem cl_sym {K : PySem.W.Frag} {x : Str} {M : Mm} {k : Sv → Mm → Prop} {e : Value → Mm → Prop} (h : TxtOk x) (hk : k (.va (.bool (isSym x))) M) : sp_is_symbol K [.va (.str x)] M k e := ⟨x, rfl, h, hk⟩
def sp_need_rule (K : PySem.W.Frag) : SpD := fun as M k e => ∃ r : RuleD, as = [.va (ruleD r)] ∧ RuleOk r ∧ (goodRule r = true → k (.va .none) M) ∧ (goodRule r = false → e (.ref (ga K "NoGrammar")) M)
/-! need_rule -/
def t_need_rule (K : PySem.W.Frag) (E : XK) : TS :=
  (tSeq (tIfS (tOr (tNot (tB (tCall (lift K (sp_is_symbol K)) [] E0 (tCons (tOp (rIx K) (tVar 0) (tC (.int 0))) tNil)))) (tOr (tNot (tTest (tChain rLeI rLeI (tC (.int 1)) (tCB (rLenC K) (tCons (tOp (rIx K) (tVar 0) (tC (.int 1))) tNil)) (tC (.int 4))))) (tTest (tOp (rEqD K) (tOp (rIx K) (tOp (rIx K) (tVar 0) (tC (.int 2))) (tC (.int 0))) (tC (.int 0))))))
  (tRaiseX (.ref (ga K "NoGrammar")) E)
  tNext)
  (tFor (iSeq K (tOp (rIx K) (tVar 0) (tC (.int 1)))) (gName 1)
  (tIfS (tNot (tB (tCall (lift K (sp_is_symbol K)) [] E0 (tCons (tVar 1) tNil))))
  (tRaiseX (.ref (ga K "NoGrammar")) E)
  tNext)))
set_option maxHeartbeats 4000000 in
theorem p_need_rule {P : Program} {w : World} {K : PySem.W.Frag} {mg : Str → Option Value} {base : Heap} (T : Tx P K mg) (c_is_symbol : Cal P w K mg base "is_symbol" 1 (lift K (sp_is_symbol K))) {f : Addr} {cdv : Value} {A : Around} {outer : List Env} {s : Shared} {H : Hp} {E : XK} (hr : Room 1 (A.deeper (envOfC "need_rule" (defScope s_need_rule) s.heap.objs.size f cdv))) :
    PSs (cxOf (L2.CX P w) P w K mg base ["rule", "symbol"] "need_rule" (defScope s_need_rule) f cdv A outer s H E) (defBody s_need_rule) (t_need_rule K E) := by
  have hu1 := hu_of hr
  have hu := hr.units
  have hu65 := hu_65 hr
  exact (pss_cons (ps_if (PW.pt (pw_or (pt_not (pt_val (pcall c_is_symbol hr (by decide) (by rfl) passL (pa_cons (pe_ix ix_seq (pv 0) pe_int (fun _ _ => rfl)) pa_nil)))) (pw_or (pt_not (pt_chain op_le op_le pe_int (pe_callB call_len (by rfl) T.z_len (by decide +kernel) (pa_cons (pe_ix ix_seq (pv 0) pe_int (fun _ _ => rfl)) pa_nil)) (pgint T.c_MOST_BODY (by rfl)))) (pw_or1 (pt_cmpR (op_eqD hu) (pe_ix ix_seq (pe_ix ix_seq (pv 0) pe_int (fun _ _ => rfl)) pe_int (fun _ _ => rfl)) pe_int (nomark _))))))
  (pss_one (praise rfl T.e_NoGrammar (takes_of rfl rfl rfl rfl) (by rfl)))
  pss_nil)
  (pss_one (ps_for (passes_of rfl) rfl (pi_seq (pe_ix ix_seq (pv 0) pe_int (fun _ _ => rfl))) (pg_name (i := 1) sc_need_rule.nd rfl (by first | exact Or.inl rfl | exact Or.inr rfl))
  (pss_one (ps_if (pt_not (pt_val (pcall c_is_symbol hr (by decide) (by rfl) passL (pa_cons (pv 1) pa_nil))))
  (pss_one (praise rfl T.e_NoGrammar (takes_of rfl rfl rfl rfl) (by rfl)))
  pss_nil)))))
theorem ini_need_rule {K : PySem.W.Frag} {sp : SpD} (h : ∀ as M k e, sp as M k e → ∃ a0, as = [a0] ∧ ∀ P0 E, XL K P0 E e → WS K P0 (t_need_rule K E) [some a0, none] M (fun _ M' => k (.va .none) M') k (fun _ _ => False) (fun _ _ => False)) : Keeps K ["rule", "symbol"] ["rule"] (t_need_rule K) sp := fun as M k e hs => by
  obtain ⟨a0, rfl, h⟩ := h as M k e hs
  exact ⟨rfl, fun P0 E hE => h P0 E hE⟩
theorem mk_need_rule {P : Program} {w : World} {K : PySem.W.Frag} {mg : Str → Option Value} {base : Heap} (T : Tx P K mg) (c_is_symbol : Cal P w K mg base "is_symbol" 1 (lift K (sp_is_symbol K))) (hv : Keeps K ["rule", "symbol"] ["rule"] (t_need_rule K) (sp_need_rule K)) : Cal P w K mg base "need_rule" 2 (lift K (sp_need_rule K)) :=
  cal_mk T.d_need_rule T.f_need_rule sc_need_rule bt_need_rule (by decide) (fun cdv A outer s H E hr => p_need_rule T c_is_symbol hr) hv

theorem v_need_rule {K : PySem.W.Frag} : Keeps K ["rule", "symbol"] ["rule"] (t_need_rule K) (sp_need_rule K) := by
  refine ini_need_rule ?_
  rintro as M k e ⟨r, rfl, hr, hk, he⟩
  refine ⟨_, rfl, fun P0 E hE => ?_⟩
  unfold t_need_rule ruleD
  walk_at "run"
  have hdh := hr.head
  have lem1 : ∀ a c d e : Bool, (!a || (!(c && d) || e)) = true → ((a && (c && d)) && !e) = false := by decide
  have lem2 : ∀ a c d e : Bool, (!a || (!(c && d) || e)) = false → ((a && (c && d)) && !e) = true := by decide
  refine' ws_ifP (b := !isSym r.head || (!(decide (1 ≤ r.body.length) && decide (r.body.length ≤ 4)) || decide (r.part.num = 0))) ?_ (fun h => ?_) (fun h => ?_)
  · refine tp_or (tp_not (tp_B ?_)) fun _ => tp_or (tp_not (tp_test ?_)) fun _ => tp_test ?_
    · unfold EP1
      walk_at "run"
      exact cl_sym hdh ⟨rfl, rfl⟩
    · unfold EP1
      refine we_chain ?_
      walk_at "run"
      rw [List.length_map]
      refine ⟨_, rfl, fun h1 => ?_, fun h1 => ?_⟩
      · walk_at "run"
        refine ⟨?_, rfl⟩
        have h1 : 1 ≤ (r.body.length : Int) := of_decide_eq_true h1
        congr 2
        rw [decide_eq_true (show 1 ≤ r.body.length by omega), Bool.true_and]
        exact decide_eq_decide.mpr (by omega)
      · refine ⟨?_, rfl⟩
        have h1 : ¬ 1 ≤ (r.body.length : Int) := of_decide_eq_false h1
        congr 2
        rw [decide_eq_false (show ¬ 1 ≤ r.body.length by omega)]
        rfl
    · unfold EP1
      walk_at "run"
      rw [eqv_int2]
      exact ⟨rfl, rfl⟩
  · refine ws_raiseX hE (he ?_)
    unfold goodRule
    rw [lem1 _ _ _ _ h]
    rfl
  have h := lem2 _ _ _ _ h
  walk_at "run"
  refine ws_for (wi_seqT ?_)
  walk_at "run"
  refine ⟨_, rfl, fun i G' M' => M' = M ∧ (∃ z, G' = [some (.va (ruleD r)), z]) ∧ ∀ j, j < i → isSym (r.body.getD j "") = true, ⟨rfl, ⟨_, rfl⟩, fun j hj => by omega⟩, fun _ _ _ _ _ => trivial, ?_, ?_⟩
  · rintro i G' M' hi ⟨rfl, ⟨z, rfl⟩, hj⟩
    rw [List.length_map] at hi
    refine wg_name ?_
    have e0 : (List.map PyData.str r.body).getD i .none = .str r.body[i] := by
      rw [List.getD_eq_getElem?_getD]
      simp [hi]
    simp only [e0]
    have hmem : r.body[i] ∈ r.body := List.getElem_mem hi
    refine' ws_ifP (tp_not (tp_B (b := isSym r.body[i]) ?_)) (fun h2 => ?_) (fun h2 => ?_)
    · unfold EP1
      walk_at "run"
      exact cl_sym (hr.body _ hmem) ⟨rfl, rfl⟩
    · refine ws_raiseX hE (he ?_)
      unfold goodRule
      have : (r.body.all isSym) = false := by
        rw [Bool.eq_false_iff]
        intro z
        rw [List.all_eq_true] at z
        have := z _ hmem
        rw [this] at h2
        cases h2
      rw [this]; simp
    · walk_at "run"
      refine ⟨rfl, ⟨_, rfl⟩, fun j hj2 => ?_⟩
      by_cases e : j = i
      · subst e
        rw [List.getD_eq_getElem?_getD, List.getElem?_eq_getElem hi]
        simpa using h2
      · exact hj j (by omega)
  · rintro G' M' ⟨rfl, ⟨z, rfl⟩, hj⟩
    rw [List.length_map] at hj
    refine hk ?_
    unfold goodRule
    rw [h, Bool.true_and, List.all_eq_true]
    intro s hs
    obtain ⟨j, hj1, rfl⟩ := List.mem_iff_getElem.mp hs
    have := hj j hj1
    rw [List.getD_eq_getElem?_getD, List.getElem?_eq_getElem hj1] at this
    exact this

/-! class Grammar -/
def sp_Grammar_found_live (K : PySem.W.Frag) : SpD := fun as M k _ => ∃ (g L Hd : Addr) (fs : List (Str × Sv)) (rs : List RuleD) (f : Str → Sv), as = [.rf (.ref g)] ∧ M g = some (.ins (ga K "Grammar") fs) ∧ fs.lookup ("listed" : Str) = some (.rf (.ref L)) ∧ fs.lookup ("headed" : Str) = some (.rf (.ref Hd)) ∧
  M L = some (.lst ((rulesD rs).map Sv.va)) ∧ M Hd = some (.dK (dm (headsOf rs) f)) ∧ (∀ r ∈ rs, RuleOk r) ∧ rs.length ≤ 1000 ∧ ∀ p l, M p = none → IsLive rs l → k (.rf (.ref p)) (mup M p (.dK (dm l fun _ => .va (.bool true))))
/-! Grammar.found_live -/
def t_Grammar_found_live (K : PySem.W.Frag) (E : XK) : TS :=
  (tSeq (tAsg tDNewK (gName 1))
  (tSeq (tAsg (tUn (rU fun i => .int (-i)) (tC (.int 1))) (gName 2))
  (tSeq (tWhile (tTest (tOp rLtI (tVar 2) (tCB rLenKD (tCons (tVar 1) tNil))))
  (tSeq (tAsg (tCB rLenKD (tCons (tVar 1) tNil)) (gName 2))
  (tFor (iSeq K (tFld K (tVar 0) "listed")) (gTup K 3 (gCons (gName 3) (gCons (gName 4) (gCons (gName 5) gNil))))
  (tIfS (tTest (tOp (rEqD K) (tLc (iSeq K (tVar 4)) (gName 6) (tAnd (tB (tDIn (tVar 6) (tFld K (tVar 0) "headed"))) (tB (tDNotIn (tVar 6) (tVar 1)))) (tVar 6) [6]) (tLst tNil)))
  (sDPut (tVar 1) (tVar 3) (tC (.bl true)))
  tNext))))
  (tRet (tVar 1)))))
set_option maxHeartbeats 4000000 in
theorem p_Grammar_found_live {P : Program} {w : World} {K : PySem.W.Frag} {mg : Str → Option Value} {base : Heap} (T : Tx P K mg) {f : Addr} {cdv : Value} {A : Around} {outer : List Env} {s : Shared} {H : Hp} {E : XK} (hr : Room 0 (A.deeper (envOfC "Grammar.found_live" (defScope s_Grammar_found_live) s.heap.objs.size f cdv))) :
    PSs (cxOf (L2.CX P w) P w K mg base ["self", "found", "many", "head", "body", "part", "symbol"] "Grammar.found_live" (defScope s_Grammar_found_live) f cdv A outer s H E) (defBody s_Grammar_found_live) (t_Grammar_found_live K E) := by
  have hu1 := hu_of hr
  have hu := hr.units
  have hu65 := hu_65 hr
  exact (pss_cons (ps_set (i := 1) sc_Grammar_found_live.nd rfl (by first | exact Or.inl rfl | exact Or.inr rfl) pe_dnewK)
  (pss_cons (ps_set (i := 2) sc_Grammar_found_live.nd rfl (by first | exact Or.inl rfl | exact Or.inr rfl) (pe_un un_neg pe_int))
  (pss_cons (ps_while (passes_of rfl) (pt_cmpR op_lt (pv 2) (pe_callB call_lenKD (by rfl) T.z_len (by decide +kernel) (pa_cons (pv 1) pa_nil)) (nomark _))
  (pss_cons (ps_set (i := 2) sc_Grammar_found_live.nd rfl (by first | exact Or.inl rfl | exact Or.inr rfl) (pe_callB call_lenKD (by rfl) T.z_len (by decide +kernel) (pa_cons (pv 1) pa_nil)))
  (pss_one (ps_for (passes_of rfl) rfl (pi_seq (pe_fld (pv 0) rfl)) (pg_tup (by rfl) (pgs_cons (pg_name (i := 3) sc_Grammar_found_live.nd rfl (by first | exact Or.inl rfl | exact Or.inr rfl)) (pgs_cons (pg_name (i := 4) sc_Grammar_found_live.nd rfl (by first | exact Or.inl rfl | exact Or.inr rfl)) (pgs_cons (pg_name (i := 5) sc_Grammar_found_live.nd rfl (by first | exact Or.inl rfl | exact Or.inr rfl)) pgs_nil))))
  (pss_one (ps_if (pt_cmpR (op_eqD hu) (pe_lc (own := [("symbol", 6)]) (g := (gName 6)) (tt := (tAnd (tB (tDIn (tVar 6) (tFld K (tVar 0) "headed"))) (tB (tDNotIn (tVar 6) (tVar 1))))) (te := (tVar 6)) rfl sc_Grammar_found_live.nd (pi_seq (pv 4)) (blkOk_by (by first | decide +kernel | rfl)) (fun _ _ _ _ _ => (pg_name (i := 6) sc_Grammar_found_live.nd rfl (by first | exact Or.inl rfl | exact Or.inr rfl))) (fun _ _ _ _ _ => (pts_one (PW.pt (pw_and (pt_cmp (pc_din hu1 (pv 6) (pe_fld (pv 0) rfl))) (pw_and1 (pt_cmp (pc_dnotin hu1 (pv 6) (pv 1)))))))) (fun _ _ _ _ _ => (pv 6))) (pe_lst pa_nil) (nomark _))
  (pss_one (ps_dput hu1 (pv 1) (pv 3) pe_bl rfl))
  pss_nil))))))
  (pss_one (ps_ret (pv 1))))))
theorem ini_Grammar_found_live {K : PySem.W.Frag} {sp : SpD} (h : ∀ as M k e, sp as M k e → ∃ a0, as = [a0] ∧ ∀ P0 E, XL K P0 E e → WS K P0 (t_Grammar_found_live K E) [some a0, none, none, none, none, none, none] M (fun _ M' => k (.va .none) M') k (fun _ _ => False) (fun _ _ => False)) : Keeps K ["self", "found", "many", "head", "body", "part", "symbol"] ["self"] (t_Grammar_found_live K) sp := fun as M k e hs => by
  obtain ⟨a0, rfl, h⟩ := h as M k e hs
  exact ⟨rfl, fun P0 E hE => h P0 E hE⟩
theorem mk_Grammar_found_live {P : Program} {w : World} {K : PySem.W.Frag} {mg : Str → Option Value} {base : Heap} (T : Tx P K mg) (hv : Keeps K ["self", "found", "many", "head", "body", "part", "symbol"] ["self"] (t_Grammar_found_live K) (sp_Grammar_found_live K)) : Met P w K mg base (ga K "Grammar") "found_live" 1 (lift K (sp_Grammar_found_live K)) :=
  met_mk T.d_Grammar_found_live T.cl_Grammar T.me_Grammar_found_live sc_Grammar_found_live bt_Grammar_found_live (by decide) (fun cdv A outer s H E hr => p_Grammar_found_live T  hr) hv

theorem v_Grammar_found_live {P : Program} {K : PySem.W.Frag} {mg : Str → Option Value} (T : Tx P K mg) : Keeps K ["self", "found", "many", "head", "body", "part", "symbol"] ["self"] (t_Grammar_found_live K) (sp_Grammar_found_live K) := by
  refine ini_Grammar_found_live ?_
  rintro as M k e ⟨g, L, Hd, fs, rs, f, rfl, hg, hfl, hfh, hL, hH, hok, hn, hk⟩
  refine ⟨_, rfl, fun P0 E hE => ?_⟩
  unfold t_Grammar_found_live
  walk_at "run"
  refine we_dnewK fun p hp => ?_
  walk_at "run"
  have hrl : ∀ i, i < rs.length → ((rulesD rs).map Sv.va).getD i (.va .none) = .va (ruleD (rs.getD i ⟨"", [], 0⟩)) := fun i hi => by
    rw [List.getD_eq_getElem?_getD, List.getD_eq_getElem?_getD]
    unfold rulesD
    simp [hi]
  have npg : g ≠ p := mne hg hp
  have npL : L ≠ p := mne hL hp
  have npH : Hd ≠ p := mne hH hp
  have lenE : (headsOf rs).length ≤ 1000 := by
    have : ∀ qs : List RuleD, (headsOf qs).length ≤ qs.length := by
      intro qs
      induction qs using snoc_ind with
      | h0 => exact Nat.le_refl _
      | hs l a ih =>
        rw [headsOf_snoc, List.length_append]
        unfold addHead
        split
        · simp; omega
        · rw [List.length_append]; simp; omega
    have := this rs
    omega
  refine r1_neg ?_
  walk_at "run"
  refine ws_while (fun m G' M' => ∃ (l : List Str) (many : Int) (z3 z4 z5 z6 : Option Sv), G' = [some (.rf (.ref g)), some (.rf (.ref p)), some (.va (.int many)), z3, z4, z5, z6] ∧ M' = mup M p (.dK (dm l fun _ => .va (.bool true))) ∧
    l.Nodup ∧ (∀ c, closedL rs c → ∀ x ∈ l, x ∈ c) ∧ (∀ x ∈ l, x ∈ headsOf rs) ∧ ((many = -1 ∧ l = []) ∨ ∃ l0 : List Str, many = l0.length ∧ l = passN (headsOf rs) rs l0) ∧ m = ((headsOf rs).length - many).toNat)
    ((headsOf rs).length + 1) ⟨[], -1, _, _, _, _, rfl, rfl, List.nodup_nil, fun _ _ _ h => (nomatch h), fun _ h => (nomatch h), .inl ⟨rfl, rfl⟩, by omega⟩ ?_
  rintro m G' M' ⟨l, many, z3, z4, z5, z6, rfl, rfl, hnd, hleast, hsub, hst, rfl⟩
  refine' wt_P (tp_test (b := decide (many < (l.length : Int))) ?_) ⟨fun h => ?_, fun h => ?_⟩
  · unfold EP1
    walk_at "run"
    refine rc_lenKD mup_same ?_
    walk_at "run"
    rw [dm_len]
    exact ⟨rfl, rfl⟩
  · have h : many < (l.length : Int) := of_decide_eq_true h
    have hll : l.length ≤ (headsOf rs).length := hnd.length_le_of_subset hsub
    have hm1 : -1 ≤ many := by
      rcases hst with ⟨a, _⟩ | ⟨l0, a, _⟩
      · omega
      · omega
    walk_at "run"
    refine rc_lenKD mup_same ?_
    walk_at "run"
    rw [dm_len]
    refine ws_for (wi_seqL ?_)
    walk_at "run"
    refine we_fld ?_
    walk_at "run"
    refine ⟨g, _, fs, _, rfl, by rw [mup_ne npg]; exact hg, T.cl_Grammar, T.na_Grammar_listed, hfl, _, .ow (by rw [mup_ne npL]; exact hL), ?_⟩
    refine ⟨fun i G' M' => (∃ z3 z4 z5, G' = [some (.rf (.ref g)), some (.rf (.ref p)), some (.va (.int l.length)), z3, z4, z5, z6]) ∧ M' = mup M p (.dK (dm (passN (headsOf rs) (rs.take i) l) fun _ => .va (.bool true))), ⟨⟨_, _, _, rfl⟩, by simp [passN]⟩,
      fun i G' M' _ ⟨_, eM⟩ => by rw [eM]; exact .ow (by rw [mup_ne npL]; exact hL), ?_, ?_⟩
    · rintro i G' M' hi ⟨⟨z3, z4, z5, rfl⟩, rfl⟩
      have hi : i < rs.length := by simpa [rulesD] using hi
      simp only [hrl i hi]
      have hmem : rs.getD i ⟨"", [], 0⟩ ∈ rs := by
        rw [List.getD_eq_getElem?_getD, List.getElem?_eq_getElem hi]
        exact List.getElem_mem hi
      have htake : rs.take (i + 1) = rs.take i ++ [rs.getD i ⟨"", [], 0⟩] := by
        rw [List.take_succ, List.getD_eq_getElem?_getD, List.getElem?_eq_getElem hi]
        rfl
      generalize rs.getD i ⟨"", [], 0⟩ = r at hmem htake
      have hr := hok r hmem
      refine wg_tup (ds := [.str r.head, .tuple (r.body.map PyData.str), shD r.part]) rfl (wgs_cons (wg_name (wgs_cons (wg_name (wgs_cons (wg_name (wgs_nil ?_)))))))
      generalize hl1 : passN (headsOf rs) (rs.take i) l = l1
      have hl2 : passN (headsOf rs) (rs.take (i + 1)) l = pass1 (headsOf rs) l1 r := by
        rw [htake]
        unfold passN
        rw [List.foldl_append]
        show pass1 _ (passN (headsOf rs) (rs.take i) l) r = _
        rw [hl1]
      have hdeadsh : SeqAt.shaped (.list ((dead (headsOf rs) l1 r).map PyData.str)) = true := (shp_list (m := 0) fun x hx => by
        obtain ⟨s, hs, rfl⟩ := List.mem_map.mp hx
        exact (hr.body s (List.mem_filter.mp hs).1).shp 0).ok (by decide)
      refine' ws_ifP (tp_test (b := decide (dead (headsOf rs) l1 r = [])) ?_) (fun h => ?_) (fun h => ?_)
      · unfold EP1
        refine we_op ?_
        refine we_lcP (gon_name (by decide)) (wi_seqT ?_)
        walk_at "run"
        refine ⟨_, rfl, fun i => if (decide (r.body.getD i "" ∈ headsOf rs) && !decide (r.body.getD i "" ∈ l1)) then some (.str (r.body.getD i "")) else none, by rw [List.length_map]; have := hr.few; omega, fun _ _ => trivial, ?_, ?_⟩
        · intro j M' hj hM'
          rw [List.length_map] at hj
          refine wg_name ⟨rfl, ?_⟩
          have e0 : (List.map PyData.str r.body).getD j .none = kS (.inr (r.body.getD j "")) := by
            rw [List.getD_eq_getElem?_getD, List.getD_eq_getElem?_getD]
            simp [hj, kS]
          simp only [e0]
          refine' wt_mono (tp_and (b1 := decide (r.body.getD j "" ∈ headsOf rs)) (b2 := !decide (r.body.getD j "" ∈ l1)) ?_ fun _ => ?_) fun b M2 ⟨eb, eM⟩ => ⟨eM, fun z => ?_, fun z => ?_⟩
          · refine tp_B ?_
            unfold EP1
            refine we_din ?_
            walk_at "run"
            refine we_fld ?_
            walk_at "run"
            refine ⟨g, _, fs, _, rfl, hM' _ _ (by rw [mup_ne npg]; exact hg), T.cl_Grammar, T.na_Grammar_headed, hfh, Hd, _, _, rfl, rfl, .d (hM' _ _ (by rw [mup_ne npH]; exact hH)), ?_⟩
            rw [valS_dm]
            refine ⟨?_, rfl⟩
            by_cases q : r.body.getD j "" ∈ headsOf rs
            · rw [if_pos q, decide_eq_true q]; rfl
            · rw [if_neg q, decide_eq_false q]; rfl
          · refine tp_B ?_
            unfold EP1
            refine we_dnotin ?_
            walk_at "run"
            refine ⟨p, _, _, rfl, rfl, .d (hM' _ _ mup_same), ?_⟩
            rw [valS_dm]
            refine ⟨?_, rfl⟩
            by_cases q : r.body.getD j "" ∈ l1
            · rw [if_pos q, decide_eq_true q]; rfl
            · rw [if_neg q, decide_eq_false q]; rfl
          · subst eM
            walk_at "run"
            refine ⟨rfl, _, rfl, ?_⟩
            rw [← eb, z, if_pos rfl]
            rfl
          · show (if _ then _ else _) = none
            rw [← eb, z, if_neg (by decide)]
        rw [List.length_map, fm_filter (c := fun s => decide (s ∈ headsOf rs) && !decide (s ∈ l1)) (g := PyData.str) (d := "") r.body]
        refine we_lstV (wa_nil ⟨[], rfl, by simp, ?_⟩)
        refine r2_eqD (DR.sh _) (DR.sh _) hdeadsh rfl ?_
        rw [eqv_nil]
        refine ⟨?_, rfl⟩
        congr 2
        exact decide_eq_decide.mpr ⟨fun z => List.map_eq_nil_iff.mp z, fun z => by unfold dead at z; rw [z]; rfl⟩
      · have h : dead (headsOf rs) l1 r = [] := of_decide_eq_true h
        refine ws_dputK ?_
        walk_at "run"
        refine ⟨p, _, .inr r.head, rfl, rfl, mup_same, ?_, ?_⟩
        · rw [dm_len]
          have : l1.length ≤ (headsOf rs).length := by
            refine List.Nodup.length_le_of_subset ?_ ?_
            · rw [← hl1]; exact passN_nd hnd
            · rw [← hl1]
              exact passN_sub (c := headsOf rs) (fun r hr _ => mem_headsOf.mpr ⟨r, hr, rfl⟩) (fun r hr => List.mem_of_mem_take hr) hsub
          omega
        · refine ⟨⟨_, _, _, rfl⟩, ?_⟩
          rw [mup_mup, hl2, putSK_dm]
          unfold pass1
          rw [if_pos h]
          congr 2
          exact dm_congr fun x _ => by split <;> rfl
      · have h : ¬ dead (headsOf rs) l1 r = [] := of_decide_eq_false h
        walk_at "run"
        refine ⟨⟨_, _, _, rfl⟩, ?_⟩
        rw [hl2]
        unfold pass1
        rw [if_neg h]
    · rintro G' M' ⟨⟨z3, z4, z5, rfl⟩, rfl⟩
      have elen : ((rulesD rs).map Sv.va).length = rs.length := by simp [rulesD]
      rw [elen, List.take_length]
      have hcl : closedL rs (headsOf rs) := fun r hr _ => mem_headsOf.mpr ⟨r, hr, rfl⟩
      refine ⟨((headsOf rs).length - (l.length : Int)).toNat, by omega, _, _, _, _, _, _, rfl, rfl, passN_nd hnd, fun c hc => passN_sub hc (fun r hr => hr) (hleast c hc), passN_sub hcl (fun r hr => hr) hsub, .inr ⟨l, rfl, rfl⟩, rfl⟩
  · have h : ¬ many < (l.length : Int) := of_decide_eq_false h
    walk_at "run"
    refine hk p l hp ⟨?_, hleast, hnd, hsub⟩
    rcases hst with ⟨a, b⟩ | ⟨l0, a, b⟩
    · omega
    · obtain ⟨e, he⟩ := passN_ext (hs := headsOf rs) (rs := rs) (l := l0)
      have e0 : e = [] := by
        have q := congrArg List.length b
        rw [he, List.length_append] at q
        exact List.length_eq_zero_iff.mp (by omega)
      rw [e0, List.append_nil] at he
      have el : l = l0 := by rw [b, he]
      subst el
      intro r hr hd
      exact passN_fix he r hr (dead_nil.mpr hd)
theorem mex_refl {S : Addr → Prop} {M : Mm} : Mex S M M := fun _ _ h _ => h
def sp_Grammar___init__ (K : PySem.W.Frag) : SpD := fun as M k e => ∃ (g : Addr) (st : Str) (rs : List RuleD) (s : Sv), as = [.rf (.ref g), .va (.str st), s] ∧ M g = some (.ins (ga K "Grammar") []) ∧ RL M s ((rulesD rs).map Sv.va) ∧ TxtOk st ∧ (∀ r ∈ rs, RuleOk r) ∧ rs.length ≤ 1000 ∧
  (GoodG st rs → ∀ M', Mex (fun b => b = g) M M' → GrNew K M M' g st rs → k (.va .none) M') ∧ (¬ GoodG st rs → ∀ M', Mex (fun b => b = g) M M' → e (.ref (ga K "NoGrammar")) M')
/-! Grammar.__init__ -/
def t_Grammar___init__ (K : PySem.W.Frag) (E : XK) : TS :=
  (tSeq (tIfS (tOr (tNot (tB (tCall (lift K (sp_is_symbol K)) [] E0 (tCons (tVar 1) tNil)))) (tNot (tTest (tChain rLeI rLeI (tC (.int 1)) (tCB (rLenC K) (tCons (tVar 2) tNil)) (tC (.int 30))))))
  (tRaiseX (.ref (ga K "NoGrammar")) E)
  tNext)
  (tSeq (sFld K (tVar 0) (tVar 1) "begun")
  (tSeq (sFld K (tVar 0) (tLst tNil) "listed")
  (tSeq (sFld K (tVar 0) tDNewK "headed")
  (tSeq (tFor (iSeq K (tVar 2)) (gName 3)
  (tSeq (tDrop (tCall (lift K (sp_need_rule K)) [] E (tCons (tVar 3) tNil)))
  (tSeq (tIfS (tTest (tOp (rNeD K) (tLc (iSeq K (tFld K (tVar 0) "listed")) (gName 4) (tTest (tOp (rEqD K) (tSl (rSlX K) (tVar 4) tNoPart (tPart (tC (.int 2)))) (tSl (rSlX K) (tVar 3) tNoPart (tPart (tC (.int 2)))))) (tVar 4) [4]) (tLst tNil)))
  (tRaiseX (.ref (ga K "NoGrammar")) E)
  tNext)
  (tSeq (tDrop (tBM K "list" rAppend (tFld K (tVar 0) "listed") (tCons (tVar 3) tNil)))
  (sDPut (tFld K (tVar 0) "headed") (tOp (rIx K) (tVar 3) (tC (.int 0))) (tCall (lift K (sp_added K)) [] E0 (tCons (tDGet2 (tFld K (tVar 0) "headed") (tOp (rIx K) (tVar 3) (tC (.int 0))) (tC (.ref (ga K "NONE")))) (tCons (tOp (rIx K) (tVar 3) (tC (.int 2))) tNil))))))))
  (tSeq (tIfS (tB (tDNotIn (tVar 1) (tFld K (tVar 0) "headed")))
  (tRaiseX (.ref (ga K "NoGrammar")) E)
  tNext)
  (tSeq (tLock (tFor (iKeys (tFld K (tVar 0) "headed")) (gName 5)
  (tIfS (tTest (tOp (rNeD K) (tDGet (tFld K (tVar 0) "headed") (tVar 5)) (tC (.ref (ga K "ALL")))))
  (tRaiseX (.ref (ga K "NoGrammar")) E)
  tNext)))
  (sFld K (tVar 0) (tMeth (ga K "Grammar") "found_live" (lift K (sp_Grammar_found_live K)) [] E0 (tVar 0) tNil) "living"))))))))
set_option maxHeartbeats 4000000 in
theorem p_Grammar___init__ {P : Program} {w : World} {K : PySem.W.Frag} {mg : Str → Option Value} {base : Heap} (T : Tx P K mg) (c_Grammar_found_live : Met P w K mg base (ga K "Grammar") "found_live" 1 (lift K (sp_Grammar_found_live K))) (c_added : Cal P w K mg base "added" 35 (lift K (sp_added K))) (c_need_rule : Cal P w K mg base "need_rule" 2 (lift K (sp_need_rule K))) (c_is_symbol : Cal P w K mg base "is_symbol" 1 (lift K (sp_is_symbol K))) {f : Addr} {cdv : Value} {A : Around} {outer : List Env} {s : Shared} {H : Hp} {E : XK} (hr : Room 35 (A.deeper (envOfC "Grammar.__init__" (defScope s_Grammar___init__) s.heap.objs.size f cdv))) :
    PSs (cxOf (L2.CX P w) P w K mg base ["self", "start", "rules", "rule", "one", "head"] "Grammar.__init__" (defScope s_Grammar___init__) f cdv A outer s H E) (defBody s_Grammar___init__) (t_Grammar___init__ K E) := by
  have hu1 := hu_of hr
  have hu := hr.units
  have hu65 := hu_65 hr
  exact (pss_cons (ps_if (PW.pt (pw_or (pt_not (pt_val (pcall c_is_symbol hr (by decide) (by rfl) passL (pa_cons (pv 1) pa_nil)))) (pw_or1 (pt_not (pt_chain op_le op_le pe_int (pe_callB call_len (by rfl) T.z_len (by decide +kernel) (pa_cons (pv 2) pa_nil)) (pgint T.c_MOST_RULES (by rfl)))))))
  (pss_one (praise rfl T.e_NoGrammar (takes_of rfl rfl rfl rfl) (by rfl)))
  pss_nil)
  (pss_cons (ps_fld (pv 0) (pv 1) rfl)
  (pss_cons (ps_fld (pv 0) (pe_lst pa_nil) rfl)
  (pss_cons (ps_fld (pv 0) pe_dnewK rfl)
  (pss_cons (ps_for (passes_of rfl) rfl (pi_seq (pv 2)) (pg_name (i := 3) sc_Grammar___init__.nd rfl (by first | exact Or.inl rfl | exact Or.inr rfl))
  (pss_cons (ps_expr (pcall c_need_rule hr (by decide) (by rfl) (passes_call (takes_of rfl rfl rfl rfl) fun _ _ _ _ z => z) (pa_cons (pv 3) pa_nil)))
  (pss_cons (ps_if (pt_cmpR (op_neD hu) (pe_lc (own := [("one", 4)]) (g := (gName 4)) (tt := (tTest (tOp (rEqD K) (tSl (rSlX K) (tVar 4) tNoPart (tPart (tC (.int 2)))) (tSl (rSlX K) (tVar 3) tNoPart (tPart (tC (.int 2))))))) (te := (tVar 4)) rfl sc_Grammar___init__.nd (pi_seq (pe_fld (pv 0) rfl)) (blkOk_by (by first | decide +kernel | rfl)) (fun _ _ _ _ _ => (pg_name (i := 4) sc_Grammar___init__.nd rfl (by first | exact Or.inl rfl | exact Or.inr rfl))) (fun _ _ _ _ _ => (pts_one (pt_cmpR (op_eqD hu) (pe_slice sl_X (pv 4) po_none (po_some pe_int)) (pe_slice sl_X (pv 3) po_none (po_some pe_int)) (nomark _)))) (fun _ _ _ _ _ => (pv 4))) (pe_lst pa_nil) (nomark _))
  (pss_one (praise rfl T.e_NoGrammar (takes_of rfl rfl rfl rfl) (by rfl)))
  pss_nil)
  (pss_cons (ps_expr (pe_bm PySem.F.plainAttrs_list PySem.F.slot_list_append PySem.F.type_list_append mt_append (pe_fld (pv 0) rfl) (pa_cons (pv 3) pa_nil)))
  (pss_one (ps_dput hu1 (pe_fld (pv 0) rfl) (pe_ix ix_seq (pv 3) pe_int (fun _ _ => rfl)) (pcall c_added hr (by decide) (by rfl) passL (pa_cons (pe_dget2 hu1 (pe_fld (pv 0) rfl) (pe_ix ix_seq (pv 3) pe_int (fun _ _ => rfl)) (pgref T.c_NONE (by rfl)) ⟨by rfl, by rfl, by rfl, by rfl⟩) (pa_cons (pe_ix ix_seq (pv 3) pe_int (fun _ _ => rfl)) pa_nil))) rfl))))))
  (pss_cons (ps_if (pt_cmp (pc_dnotin hu1 (pv 1) (pe_fld (pv 0) rfl)))
  (pss_one (praise rfl T.e_NoGrammar (takes_of rfl rfl rfl rfl) (by rfl)))
  pss_nil)
  (pss_cons (ps_lock (ps_for (passes_of rfl) rfl (pi_keys (pe_fld (pv 0) rfl)) (pg_name (i := 5) sc_Grammar___init__.nd rfl (by first | exact Or.inl rfl | exact Or.inr rfl))
  (pss_one (ps_if (pt_cmpR (op_neD hu) (pe_dget hu1 (pe_fld (pv 0) rfl) (pv 5) (fun _ _ => rfl)) (pgref T.c_ALL (by rfl)) (nomark _))
  (pss_one (praise rfl T.e_NoGrammar (takes_of rfl rfl rfl rfl) (by rfl)))
  pss_nil))))
  (pss_one (ps_fld (pv 0) (pmeth0 c_Grammar_found_live hr (by decide) passL (pv 0)) rfl)))))))))
theorem ini_Grammar___init__ {K : PySem.W.Frag} {sp : SpD} (h : ∀ as M k e, sp as M k e → ∃ a0 a1 a2, as = [a0, a1, a2] ∧ ∀ P0 E, XL K P0 E e → WS K P0 (t_Grammar___init__ K E) [some a0, some a1, some a2, none, none, none] M (fun _ M' => k (.va .none) M') k (fun _ _ => False) (fun _ _ => False)) : Keeps K ["self", "start", "rules", "rule", "one", "head"] ["self", "start", "rules"] (t_Grammar___init__ K) sp := fun as M k e hs => by
  obtain ⟨a0, a1, a2, rfl, h⟩ := h as M k e hs
  exact ⟨rfl, fun P0 E hE => h P0 E hE⟩
theorem mk_Grammar___init__ {P : Program} {w : World} {K : PySem.W.Frag} {mg : Str → Option Value} {base : Heap} (T : Tx P K mg) (c_Grammar_found_live : Met P w K mg base (ga K "Grammar") "found_live" 1 (lift K (sp_Grammar_found_live K))) (c_added : Cal P w K mg base "added" 35 (lift K (sp_added K))) (c_need_rule : Cal P w K mg base "need_rule" 2 (lift K (sp_need_rule K))) (c_is_symbol : Cal P w K mg base "is_symbol" 1 (lift K (sp_is_symbol K))) (hv : Keeps K ["self", "start", "rules", "rule", "one", "head"] ["self", "start", "rules"] (t_Grammar___init__ K) (sp_Grammar___init__ K)) : Mak P w K mg base "Grammar" (ga K "Grammar") 36 (lift K (sp_Grammar___init__ K)) :=
  mak_mk T.d_Grammar___init__ T.mk_Grammar T.g_Grammar sc_Grammar___init__ bt_Grammar___init__ (by decide) (fun cdv A outer s H E hr => p_Grammar___init__ T c_Grammar_found_live c_added c_need_rule c_is_symbol hr) hv

theorem v_Grammar___init__ {P : Program} {K : PySem.W.Frag} {mg : Str → Option Value} (T : Tx P K mg) : Keeps K ["self", "start", "rules", "rule", "one", "head"] ["self", "start", "rules"] (t_Grammar___init__ K) (sp_Grammar___init__ K) := by
  refine ini_Grammar___init__ ?_
  rintro as M k e ⟨g, st, rs, s, rfl, hg, hrl, hst, hok, hn, hk, he⟩
  refine ⟨_, _, _, rfl, fun P0 E hE => ?_⟩
  have hNONE := T.v_NONE
  have hALL := T.v_ALL
  unfold t_Grammar___init__
  walk_at "run"
  refine' ws_ifP (b := !isSym st || !(decide (1 ≤ rs.length) && decide (rs.length ≤ 30))) ?_ (fun h => ?_) (fun h => ?_)
  · refine tp_or (tp_not (tp_B ?_)) fun _ => tp_not (tp_test ?_)
    · unfold EP1
      walk_at "run"
      exact cl_sym hst ⟨rfl, rfl⟩
    · unfold EP1
      refine we_chain ?_
      walk_at "run"
      refine rc_lenL hrl ?_
      walk_at "run"
      rw [rulesD_len]
      refine ⟨_, rfl, fun h1 => ?_, fun h1 => ?_⟩
      · walk_at "run"
        refine ⟨?_, rfl⟩
        have h1 : 1 ≤ (rs.length : Int) := of_decide_eq_true h1
        congr 2
        rw [decide_eq_true (show 1 ≤ rs.length by omega), Bool.true_and]
        exact decide_eq_decide.mpr (by omega)
      · refine ⟨?_, rfl⟩
        have h1 : ¬ 1 ≤ (rs.length : Int) := of_decide_eq_false h1
        congr 2
        rw [decide_eq_false (show ¬ 1 ≤ rs.length by omega)]
        rfl
  · refine ws_raiseX hE (he (fun q => ?_) M mex_refl)
    rw [q.sym, decide_eq_true q.few1, decide_eq_true q.few2] at h
    cases h
  have hsym : isSym st = true := by
    cases z : isSym st with
    | true => rfl
    | false => rw [z] at h; cases h
  rw [hsym] at h
  have hlen : 1 ≤ rs.length ∧ rs.length ≤ 30 := by simpa using h
  clear h
  walk_at "run"
  refine ws_fld ?_
  walk_at "run"
  refine ⟨g, _, _, rfl, hg, T.cl_Grammar, T.na_Grammar_begun, Nat.lt_of_le_of_lt (Nat.zero_le 0) (by decide), ?_⟩
  walk_at "run"
  refine ws_fld (we_lst (wa_nil ⟨by simp, fun L hL => ?_⟩))
  have hLg : L ≠ g := fun z => by rw [z, mup_same] at hL; cases hL
  rw [mup_ne hLg] at hL
  walk_at "run"
  refine ⟨g, _, _, rfl, by rw [mup_ne (Ne.symm hLg), mup_same], T.cl_Grammar, T.na_Grammar_listed, Nat.lt_of_le_of_lt (Nat.le_refl 1) (by decide), ?_⟩
  walk_at "run"
  refine ws_fld (we_dnewK fun Hd hH => ?_)
  have hHg : Hd ≠ g := fun z => by rw [z, mup_same] at hH; cases hH
  rw [mup_ne hHg] at hH
  have hHL : Hd ≠ L := fun z => by rw [z, mup_same] at hH; cases hH
  rw [mup_ne hHL, mup_ne hHg] at hH
  walk_at "run"
  refine ⟨g, _, _, rfl, by rw [mup_ne (Ne.symm hHg), mup_same], T.cl_Grammar, T.na_Grammar_headed, Nat.lt_of_le_of_lt (Nat.le_refl 2) (by decide), ?_⟩
  walk_at "run"
  generalize hM1 : mup (mup (mup (mup (mup M g _) L _) g _) Hd _) g _ = M1
  have m1g : M1 g = some (.ins (ga K "Grammar") [("begun", .va (.str st)), ("listed", .rf (.ref L)), ("headed", .rf (.ref Hd))]) := by rw [← hM1, mup_same]; rfl
  have m1L : M1 L = some (.lst ((rulesD []).map Sv.va)) := by rw [← hM1, mup_ne hLg, mup_ne (Ne.symm hHL), mup_ne hLg, mup_same]; rfl
  have m1H : M1 Hd = some (.dK (dm (headsOf []) fun h => .va (shD (partSum [] h)))) := by rw [← hM1, mup_ne hHg, mup_same]; rfl
  have m1x : Mex (fun b => b = g) M M1 := fun a o h hag => by rw [← hM1, mup_ne hag, mup_ne (mne h hH), mup_ne hag, mup_ne (mne h hL), mup_ne hag]; exact h
  clear hM1
  have rl' : ∀ M', Mex (fun b => b = g) M M' → RL M' s ((rulesD rs).map Sv.va) := fun M' hx => by
    generalize (rulesD rs).map Sv.va = ss at hrl
    cases hrl with
    | sh ds => exact .sh ds
    | ow h => exact .ow (hx _ _ h fun z => by rw [z, hg] at h; cases h)
  refine ws_for (wi_seqL ?_)
  walk_at "run"
  refine ⟨_, rl' M1 m1x, fun i G' M' => (∃ z3 z5, G' = [some (.rf (.ref g)), some (.va (.str st)), some s, z3, none, z5]) ∧ M' g = some (.ins (ga K "Grammar") [("begun", .va (.str st)), ("listed", .rf (.ref L)), ("headed", .rf (.ref Hd))]) ∧
    M' L = some (.lst ((rulesD (rs.take i)).map Sv.va)) ∧ M' Hd = some (.dK (dm (headsOf (rs.take i)) fun h => .va (shD (partSum (rs.take i) h)))) ∧ Mex (fun b => b = g) M M' ∧ (∀ r ∈ rs.take i, goodRule r = true) ∧ (rs.take i).Pairwise fun a b => ¬ (a.head = b.head ∧ a.body = b.body),
    ⟨⟨_, _, rfl⟩, m1g, m1L, m1H, m1x, fun r hr => (nomatch hr), List.Pairwise.nil⟩, fun i G' M' _ ⟨_, _, _, _, q, _⟩ => rl' M' q, ?_, ?_⟩
  · clear m1g m1L m1H m1x
    rintro i G' M' hi ⟨⟨z3, z5, rfl⟩, mg', mL, mH, mx, hgd, hdi⟩
    rw [rulesD_len] at hi
    have htake : rs.take (i + 1) = rs.take i ++ [rs[i]] := by rw [List.take_succ, List.getElem?_eq_getElem hi]; rfl
    have hmem : rs[i] ∈ rs := List.getElem_mem hi
    refine wg_name ?_
    simp only [rule_at hi]
    have hti : ∀ x ∈ rs.take i, x ∈ rs := fun x hx => List.mem_of_mem_take hx
    rw [htake]
    generalize rs[i] = r at htake hmem
    have hro := hok r hmem
    have hlt : (rs.take i).length ≤ 30 := by rw [List.length_take]; omega
    generalize rs.take i = ts at *
    have fld : ∀ {M2 : Mm} {x : Str} {t : Sv} {k : Sv → Mm → Prop} {G : Gm}, M2 g = some (.ins (ga K "Grammar") [("begun", .va (.str st)), ("listed", .rf (.ref L)), ("headed", .rf (.ref Hd))]) → G[0]? = some (some (.rf (.ref g))) → NoAttr K (ga K "Grammar") x →
        List.lookup x [(("begun" : Str), Sv.va (.str st)), ("listed", .rf (.ref L)), ("headed", .rf (.ref Hd))] = some t → k t M2 → WE K P0 (tFld K (tVar 0) x) G M2 k := fun h1 h0 h2 h3 q => we_fld (we_var h0 ⟨g, _, _, _, rfl, h1, T.cl_Grammar, h2, h3, q⟩)
    walk_at "run"
    refine we_call hE ?_
    walk_at "run"
    refine ⟨r, rfl, hro, fun hgr => ?_, fun hgr => he (fun q => by rw [q.ok r hmem] at hgr; cases hgr) M' mx⟩
    walk_at "run"
    have hsl : ∀ q : RuleD, cutG [PyData.str q.head, .tuple (q.body.map PyData.str), shD q.part] none (some 2) = [.str q.head, .tuple (q.body.map PyData.str)] := fun q => rfl
    have hshq : ∀ q : RuleD, RuleOk q → SeqAt.shaped (.tuple [.str q.head, .tuple (q.body.map PyData.str)]) = true := fun q hq => (shp_tuple (m := 1) fun x hx => by
      rcases List.mem_cons.mp hx with z | z
      · rw [z]; exact hq.head.shp 1
      · rw [List.mem_singleton.mp z]
        exact shp_tuple fun y hy => by
          obtain ⟨s, hs, rfl⟩ := List.mem_map.mp hy
          exact (hq.body s hs).shp 0).ok (by decide)
    have heq : ∀ q : RuleD, PyData.eqv (.tuple [.str q.head, .tuple (q.body.map PyData.str)]) (.tuple [.str r.head, .tuple (r.body.map PyData.str)]) = decide (q.head = r.head ∧ q.body = r.body) := fun q => by
      rw [Bool.eq_iff_iff, decide_eq_true_iff, eqv_pl]
      · constructor
        · intro z
          injection z with z
          injection z with z1 z
          injection z with z2 _
          injection z1 with z1
          injection z2 with z2
          exact ⟨z1, (List.map_inj_right (fun x y z => by injection z)).mp z2⟩
        · rintro ⟨z1, z2⟩
          rw [z1, z2]
      · refine pl_all fun x hx => ?_
        rcases List.mem_cons.mp hx with z | z
        · rw [z]; rfl
        · rw [List.mem_singleton.mp z]
          exact pl_all fun y hy => by
            obtain ⟨s, _, rfl⟩ := List.mem_map.mp hy
            rfl
      · refine pl_all fun x hx => ?_
        rcases List.mem_cons.mp hx with z | z
        · rw [z]; rfl
        · rw [List.mem_singleton.mp z]
          exact pl_all fun y hy => by
            obtain ⟨s, _, rfl⟩ := List.mem_map.mp hy
            rfl
    refine' ws_ifP (tp_test (b := !decide (ts.filter (fun q => decide (q.head = r.head ∧ q.body = r.body)) = [])) ?_) (fun h => ?_) (fun h => ?_)
    · unfold EP1
      refine we_op ?_
      refine we_lcP (gon_name (by decide)) (wi_seqL ?_)
      refine fld mg' rfl T.na_Grammar_listed rfl ⟨_, .ow mL, fun j => if decide ((ts.getD j ⟨"", [], 0⟩).head = r.head ∧ (ts.getD j ⟨"", [], 0⟩).body = r.body) then some (ruleD (ts.getD j ⟨"", [], 0⟩)) else none, by rw [rulesD_len]; omega, fun M2 h2 => .ow (h2 _ _ mL), ?_, ?_⟩
      · intro j M2 hj hM2
        rw [rulesD_len] at hj
        refine wg_name ⟨rfl, ?_⟩
        have hq : ts[j] ∈ ts := List.getElem_mem hj
        have e0 : ts.getD j ⟨"", [], 0⟩ = ts[j] := by rw [List.getD_eq_getElem?_getD, List.getElem?_eq_getElem hj] <;> rfl
        simp only [rule_at hj, e0]
        generalize ts[j] = q at hq
        refine' wt_mono (tp_test (b := decide (q.head = r.head ∧ q.body = r.body)) ?_) fun b M3 ⟨eb, eM⟩ => ⟨eM, fun z => ?_, fun z => ?_⟩
        · unfold EP1
          refine we_op (we_sl (we_var rfl (wo_none (wo_part (we_int ⟨_, rfl, ?_⟩)))))
          refine rs_T ?_
          refine we_sl (we_var rfl (wo_none (wo_part (we_int ⟨_, rfl, ?_⟩))))
          refine rs_T ?_
          rw [hsl, hsl]
          refine r2_eqD (DR.sh _) (DR.sh _) (hshq q (hok q (hti q hq))) (hshq r hro) ?_
          rw [heq]
          exact ⟨rfl, rfl⟩
        · subst eM
          walk_at "run"
          refine ⟨rfl, _, rfl, ?_⟩
          rw [← eb, z, if_pos rfl]
        · rw [← eb, z, if_neg (by decide)]
      rw [rulesD_len, fm_filter (c := fun q => decide (q.head = r.head ∧ q.body = r.body)) (g := ruleD) (d := ⟨"", [], 0⟩) ts]
      refine we_lstV (wa_nil ⟨[], rfl, by simp, ?_⟩)
      refine r2_neD (DR.sh _) (DR.sh _) ((shp_list (m := 2) fun x hx => by
        obtain ⟨q, hq, rfl⟩ := List.mem_map.mp hx
        exact (hok q (hti q (List.mem_filter.mp hq).1)).shp).ok (by decide)) rfl ?_
      rw [eqv_nil]
      refine ⟨?_, rfl⟩
      congr 3
      exact decide_eq_decide.mpr ⟨fun z => List.map_eq_nil_iff.mp z, fun z => by rw [z]; rfl⟩
    · refine ws_raiseX hE (he (fun z => ?_) M' mx)
      have h : ts.filter (fun q => decide (q.head = r.head ∧ q.body = r.body)) ≠ [] := by simpa using h
      obtain ⟨q, hq⟩ := List.exists_mem_of_ne_nil _ h
      obtain ⟨q1, q2⟩ := List.mem_filter.mp hq
      have hd := z.dist.sublist (List.take_sublist (i + 1) rs)
      rw [htake] at hd
      exact (List.pairwise_append.mp hd).2.2 q q1 r (by simp) (of_decide_eq_true q2)
    have h : ts.filter (fun q => decide (q.head = r.head ∧ q.body = r.body)) = [] := by simpa using h
    walk_at "run"
    refine we_append (fld mg' rfl T.na_Grammar_listed rfl ⟨L, rfl, ⟨_, mL⟩, ?_⟩)
    walk_at "run"
    refine ⟨_, _, rfl, mL, by rw [rulesD_len]; omega, ?_⟩
    have gL : g ≠ L := Ne.symm hLg
    have gH : g ≠ Hd := Ne.symm hHg
    have mg2 : (mup M' L (.lst ((rulesD ts).map Sv.va ++ [.va (ruleD r)]))) g = some (.ins (ga K "Grammar") [("begun", .va (.str st)), ("listed", .rf (.ref L)), ("headed", .rf (.ref Hd))]) := by rw [mup_ne gL]; exact mg'
    have mH2 : (mup M' L (.lst ((rulesD ts).map Sv.va ++ [.va (ruleD r)]))) Hd = some (.dK (dm (headsOf ts) fun h => .va (shD (partSum ts h)))) := by rw [mup_ne hHL]; exact mH
    refine ws_dputK ?_
    walk_at "run"
    refine we_dget2 (fld mg2 rfl T.na_Grammar_headed rfl ⟨Hd, _, rfl, .d mH2, ?_⟩)
    walk_at "run"
    refine ⟨_, .inr r.head, rfl, .d mH2, ?_⟩
    rw [valS_dm]
    have hps := bt_partSum (h := r.head) (m := 1900000) (by decide) (rs := ts) fun x hx => ⟨(hok x (hti x hx)).nn, (hok x (hti x hx)).bt⟩
    have eget : (if r.head ∈ headsOf ts then some (Sv.va (shD (partSum ts r.head))) else none).getD (.va (shD 0)) = .va (shD (partSum ts r.head)) := by
      split
      · rfl
      · rename_i z
        rw [partSum_none z]; rfl
    rw [eget]
    walk_at "run"
    refine cl_added ⟨hps.1, hps.2.fit (by omega)⟩ ⟨hro.nn, hro.bt.fit (by decide)⟩ ?_
    refine fld mg2 rfl T.na_Grammar_headed rfl ?_
    walk_at "run"
    refine ⟨Hd, _, .inr r.head, rfl, rfl, mH2, by rw [dm_len]; have := headsOf_len ts; omega, ?_⟩
    refine ⟨⟨_, _, rfl⟩, by rw [mup_ne gH]; exact mg2, ?_, ?_, fun a o ha hag => ?_, fun x hx => ?_, ?_⟩
    · rw [mup_ne (Ne.symm hHL), mup_same]
      congr 2
      unfold rulesD
      simp
    · rw [mup_same, putSK_dm, headsOf_snoc]
      congr 2
      exact dm_congr fun x _ => by
        rw [partSum_snoc]
        by_cases z : x = r.head
        · subst z; rw [if_pos rfl, if_pos rfl]
        · rw [if_neg z, if_neg (Ne.symm z)]
          congr 2
          grind
    · rw [mup_ne (mne ha hH), mup_ne (mne ha hL)]
      exact mx a o ha hag
    · rcases List.mem_append.mp hx with z | z
      · exact hgd x z
      · rw [List.mem_singleton.mp z]; exact hgr
    · rw [List.pairwise_append]
      refine ⟨hdi, List.pairwise_singleton _ _, fun a ha b hb => ?_⟩
      rw [List.mem_singleton.mp hb]
      intro z
      have : a ∈ ts.filter (fun q => decide (q.head = r.head ∧ q.body = r.body)) := List.mem_filter.mpr ⟨ha, decide_eq_true z⟩
      rw [h] at this
      cases this
  · clear m1g m1L m1H m1x M1
    rintro G' M' ⟨⟨z3, z5, rfl⟩, mg', mL, mH, mx, hgd, hdi⟩
    rw [rulesD_len, List.take_length] at *
    have fld : ∀ {M2 : Mm} {x : Str} {t : Sv} {k : Sv → Mm → Prop} {G : Gm}, M2 g = some (.ins (ga K "Grammar") [("begun", .va (.str st)), ("listed", .rf (.ref L)), ("headed", .rf (.ref Hd))]) → G[0]? = some (some (.rf (.ref g))) → NoAttr K (ga K "Grammar") x →
        List.lookup x [(("begun" : Str), Sv.va (.str st)), ("listed", .rf (.ref L)), ("headed", .rf (.ref Hd))] = some t → k t M2 → WE K P0 (tFld K (tVar 0) x) G M2 k := fun h1 h0 h2 h3 q => we_fld (we_var h0 ⟨g, _, _, _, rfl, h1, T.cl_Grammar, h2, h3, q⟩)
    walk_at "run"
    refine' ws_ifP (tp_B (b := !decide (st ∈ headsOf rs)) ?_) (fun h => ?_) (fun h => ?_)
    · unfold EP1
      refine we_dnotin ?_
      walk_at "run"
      refine fld mg' rfl T.na_Grammar_headed rfl ⟨Hd, _, .inr st, rfl, rfl, .d mH, ?_⟩
      rw [valS_dm]
      refine ⟨?_, rfl⟩
      by_cases q : st ∈ headsOf rs
      · rw [if_pos q, decide_eq_true q]; rfl
      · rw [if_neg q, decide_eq_false q]; rfl
    · exact ws_raiseX hE (he (fun q => by rw [decide_eq_true q.start] at h; cases h) M' mx)
    have hstart : st ∈ headsOf rs := by simpa using h
    clear h
    walk_at "run"
    refine ws_lock mH fun od ks => ?_
    have gH : g ≠ Hd := Ne.symm hHg
    refine ws_for (wi_keys ?_)
    refine fld (by rw [mup_ne gH]; exact mg') rfl T.na_Grammar_headed rfl ⟨Hd, od, ks, _, rfl, mup_same, ?_⟩
    rw [dm_len]
    refine ⟨fun i G' M2 => (∃ z5, G' = [some (.rf (.ref g)), some (.va (.str st)), some s, z3, none, z5]) ∧ M2 = mup M' Hd (.kK od ks (dm (headsOf rs) fun h => .va (shD (partSum rs h)))) ∧ ∀ j, j < i → partSum rs ((headsOf rs).getD j "") = 1, ⟨⟨_, rfl⟩, rfl, fun j hj => by omega⟩,
      fun i G' M2 _ ⟨_, eM, _⟩ => (by subst eM; exact mup_same), ?_, ?_⟩
    · rintro i G' M2 hi ⟨⟨z5, rfl⟩, rfl, hj⟩
      refine wg_name ?_
      have e0 : ((dm (headsOf rs) fun h => Sv.va (shD (partSum rs h))).getD i (.inl 0, .va .none)).1 = (.inr ((headsOf rs).getD i "") : Key) := by
        rw [List.getD_eq_getElem?_getD, List.getD_eq_getElem?_getD]
        unfold dm
        simp [hi]
      simp only [e0]
      have hmem : (headsOf rs).getD i "" ∈ headsOf rs := by
        rw [List.getD_eq_getElem?_getD, List.getElem?_eq_getElem hi]
        exact List.getElem_mem hi
      refine' ws_ifP (tp_test (b := !decide (partSum rs ((headsOf rs).getD i "") = 1)) ?_) (fun h => ?_) (fun h => ?_)
      · unfold EP1
        walk_at "run"
        refine we_dgetK ?_
        refine fld (by rw [mup_ne gH]; exact mg') rfl T.na_Grammar_headed rfl ?_
        walk_at "run"
        refine ⟨Hd, _, .inr ((headsOf rs).getD i ""), _, rfl, rfl, .k mup_same, by rw [valS_dm, if_pos hmem], ?_⟩
        walk_at "run"
        rw [eqv_shD]
        exact ⟨rfl, rfl⟩
      · refine ws_raiseX hE (he (fun q => ?_) _ fun a o ha hag => ?_)
        · rw [q.one _ hmem] at h
          simp at h
        · rw [mup_ne (mne ha hH)]; exact mx a o ha hag
      · walk_at "run"
        refine ⟨⟨_, rfl⟩, rfl, fun j hj2 => ?_⟩
        by_cases z : j = i
        · subst z; simpa using h
        · exact hj j (by omega)
    · rintro G' M2 ⟨⟨z5', rfl⟩, rfl, hj⟩
      refine ⟨mup_same, ?_⟩
      rw [mup_mup, mup_id mH]
      have hone : ∀ h ∈ headsOf rs, partSum rs h = 1 := fun h hh => by
        obtain ⟨j, hj1, rfl⟩ := List.mem_iff_getElem.mp hh
        have := hj j hj1
        rw [List.getD_eq_getElem?_getD, List.getElem?_eq_getElem hj1] at this
        exact this
      have hG : GoodG st rs := ⟨hsym, hlen.1, hlen.2, hgd, hdi, hstart, hone⟩
      refine ws_fld ?_
      refine we_meth xl0 ?_
      walk_at "run"
      refine ⟨g, _, rfl, mg', rfl, ?_⟩
      walk_at "run"
      refine ⟨g, L, Hd, _, rs, _, rfl, mg', rfl, rfl, mL, mH, hok, hn, fun p l hp hl => ?_⟩
      walk_at "run"
      have ngp : g ≠ p := mne mg' hp
      refine ⟨g, _, _, rfl, by rw [mup_ne ngp]; exact mg', T.cl_Grammar, T.na_Grammar_living, Nat.lt_of_le_of_lt (Nat.le_refl 3) (by decide), ?_⟩
      refine hk hG _ (fun a o ha hag => ?_) (GrNew.mk' (L := L) (Hd := Hd) (Lv := p) (l := l) (by rw [mup_same]; rfl) ?_ ?_ ?_ hl hG hok hL hH ?_)
      · rw [mup_ne hag, mup_ne (mne (mx a o ha hag) hp)]; exact mx a o ha hag
      · rw [mup_ne hLg, mup_ne (mne mL hp)]; exact mL
      · rw [mup_ne hHg, mup_ne (mne mH hp), mH]
        congr 2
        exact dm_congr fun x hx => by rw [hone x hx]
      · rw [mup_ne (Ne.symm ngp), mup_same]
      · cases z : M p with
        | none => rfl
        | some o =>
          have := mx p o z (Ne.symm ngp)
          rw [hp] at this
          cases this

def sp_Grammar_rules (K : PySem.W.Frag) : SpD := fun as M k _ => ∃ (g : Addr) (st : Str) (rs : List RuleD), as = [.rf (.ref g)] ∧ GrAt K M g st rs ∧ ∀ p, M p = none → k (.rf (.ref p)) (mup M p (.lst ((rulesD rs).map Sv.va)))
/-! Grammar.rules -/
def t_Grammar_rules (K : PySem.W.Frag) (E : XK) : TS :=
  (tRet (tCB (rListC K) (tCons (tFld K (tVar 0) "listed") tNil)))
set_option maxHeartbeats 4000000 in
theorem p_Grammar_rules {P : Program} {w : World} {K : PySem.W.Frag} {mg : Str → Option Value} {base : Heap} (T : Tx P K mg) {f : Addr} {cdv : Value} {A : Around} {outer : List Env} {s : Shared} {H : Hp} {E : XK} (hr : Room 0 (A.deeper (envOfC "Grammar.rules" (defScope s_Grammar_rules) s.heap.objs.size f cdv))) :
    PSs (cxOf (L2.CX P w) P w K mg base ["self"] "Grammar.rules" (defScope s_Grammar_rules) f cdv A outer s H E) (defBody s_Grammar_rules) (t_Grammar_rules K E) := by
  have hu1 := hu_of hr
  have hu := hr.units
  have hu65 := hu_65 hr
  exact (pss_one (ps_ret (pe_callTy call_listA (by rfl) T.z_list (by decide +kernel) (pa_cons (pe_fld (pv 0) rfl) pa_nil))))
theorem ini_Grammar_rules {K : PySem.W.Frag} {sp : SpD} (h : ∀ as M k e, sp as M k e → ∃ a0, as = [a0] ∧ ∀ P0 E, XL K P0 E e → WS K P0 (t_Grammar_rules K E) [some a0] M (fun _ M' => k (.va .none) M') k (fun _ _ => False) (fun _ _ => False)) : Keeps K ["self"] ["self"] (t_Grammar_rules K) sp := fun as M k e hs => by
  obtain ⟨a0, rfl, h⟩ := h as M k e hs
  exact ⟨rfl, fun P0 E hE => h P0 E hE⟩
theorem mk_Grammar_rules {P : Program} {w : World} {K : PySem.W.Frag} {mg : Str → Option Value} {base : Heap} (T : Tx P K mg) (hv : Keeps K ["self"] ["self"] (t_Grammar_rules K) (sp_Grammar_rules K)) : Met P w K mg base (ga K "Grammar") "rules" 1 (lift K (sp_Grammar_rules K)) :=
  met_mk T.d_Grammar_rules T.cl_Grammar T.me_Grammar_rules sc_Grammar_rules bt_Grammar_rules (by decide) (fun cdv A outer s H E hr => p_Grammar_rules T  hr) hv

theorem v_Grammar_rules {P : Program} {K : PySem.W.Frag} {mg : Str → Option Value} (T : Tx P K mg) : Keeps K ["self"] ["self"] (t_Grammar_rules K) (sp_Grammar_rules K) := by
  refine ini_Grammar_rules ?_
  rintro as M k e ⟨g, st, rs, rfl, hG, hk⟩
  refine ⟨_, rfl, fun P0 E hE => ?_⟩
  obtain ⟨L, Hd, Lv, l, mg', mL, mH, mV, hl⟩ := hG.at_
  unfold t_Grammar_rules
  walk_at "run"
  refine we_fld (we_var rfl ⟨g, _, _, _, rfl, mg', T.cl_Grammar, T.na_Grammar_listed, rfl, ?_⟩)
  walk_at "run"
  exact rc_listL (.ow mL) hk

def sp_Grammar_start (K : PySem.W.Frag) : SpD := fun as M k _ => ∃ (g : Addr) (st : Str) (rs : List RuleD), as = [.rf (.ref g)] ∧ GrAt K M g st rs ∧ k (.va (.str st)) M
/-! Grammar.start -/
def t_Grammar_start (K : PySem.W.Frag) (E : XK) : TS :=
  (tRet (tFld K (tVar 0) "begun"))
set_option maxHeartbeats 4000000 in
theorem p_Grammar_start {P : Program} {w : World} {K : PySem.W.Frag} {mg : Str → Option Value} {base : Heap} (T : Tx P K mg) {f : Addr} {cdv : Value} {A : Around} {outer : List Env} {s : Shared} {H : Hp} {E : XK} (hr : Room 0 (A.deeper (envOfC "Grammar.start" (defScope s_Grammar_start) s.heap.objs.size f cdv))) :
    PSs (cxOf (L2.CX P w) P w K mg base ["self"] "Grammar.start" (defScope s_Grammar_start) f cdv A outer s H E) (defBody s_Grammar_start) (t_Grammar_start K E) := by
  have hu1 := hu_of hr
  have hu := hr.units
  have hu65 := hu_65 hr
  exact (pss_one (ps_ret (pe_fld (pv 0) rfl)))
theorem ini_Grammar_start {K : PySem.W.Frag} {sp : SpD} (h : ∀ as M k e, sp as M k e → ∃ a0, as = [a0] ∧ ∀ P0 E, XL K P0 E e → WS K P0 (t_Grammar_start K E) [some a0] M (fun _ M' => k (.va .none) M') k (fun _ _ => False) (fun _ _ => False)) : Keeps K ["self"] ["self"] (t_Grammar_start K) sp := fun as M k e hs => by
  obtain ⟨a0, rfl, h⟩ := h as M k e hs
  exact ⟨rfl, fun P0 E hE => h P0 E hE⟩
theorem mk_Grammar_start {P : Program} {w : World} {K : PySem.W.Frag} {mg : Str → Option Value} {base : Heap} (T : Tx P K mg) (hv : Keeps K ["self"] ["self"] (t_Grammar_start K) (sp_Grammar_start K)) : Met P w K mg base (ga K "Grammar") "start" 1 (lift K (sp_Grammar_start K)) :=
  met_mk T.d_Grammar_start T.cl_Grammar T.me_Grammar_start sc_Grammar_start bt_Grammar_start (by decide) (fun cdv A outer s H E hr => p_Grammar_start T  hr) hv

theorem v_Grammar_start {P : Program} {K : PySem.W.Frag} {mg : Str → Option Value} (T : Tx P K mg) : Keeps K ["self"] ["self"] (t_Grammar_start K) (sp_Grammar_start K) := by
  refine ini_Grammar_start ?_
  rintro as M k e ⟨g, st, rs, rfl, hG, hk⟩
  refine ⟨_, rfl, fun P0 E hE => ?_⟩
  obtain ⟨L, Hd, Lv, l, mg', mL, mH, mV, hl⟩ := hG.at_
  unfold t_Grammar_start
  walk_at "run"
  exact we_fld (we_var rfl ⟨g, _, _, _, rfl, mg', T.cl_Grammar, T.na_Grammar_begun, rfl, hk⟩)

/-! texts read -/
theorem str_empty {x : Str} : x = ("" : Str) ↔ x.cps.size = 0 := by
  constructor
  · intro h; rw [h]; rfl
  · intro h
    obtain ⟨c⟩ := x
    have : c = #[] := Array.eq_empty_of_size_eq_zero h
    rw [this]; rfl
theorem blank_txt : TxtOk (" " : Str) := ⟨by decide +kernel, by decide +kernel⟩
theorem slash_txt : TxtOk ("/" : Str) := ⟨by decide +kernel, by decide +kernel⟩
def sp_number_of (K : PySem.W.Frag) : SpD := fun as M k e => ∃ x : Str, as = [.va (.str x)] ∧ TxtOk x ∧ (numOk x = true → k (.va (.int (numV x : Int))) M) ∧ (numOk x = false → e (.ref (ga K "NoText")) M)
/-! number_of -/
def t_number_of (K : PySem.W.Frag) (E : XK) : TS :=
  (tSeq (tIfS (tOr (tTest (tOp (rEqD K) (tVar 0) (tC (.str "")))) (tOr (tTest (tOp rGtI (tCB (rLenC K) (tCons (tVar 0) tNil)) (tC (.int 60)))) (tTest (tOp (rEqD K) (tOp (rIx K) (tVar 0) (tC (.int 0))) (tC (.str "0"))))))
  (tRaiseX (.ref (ga K "NoText")) E)
  tNext)
  (tSeq (tFor (iSeq K (tVar 0)) (gName 1)
  (tIfS (tTest (tOp (rNotInB K) (tVar 1) (tC (.str "0123456789"))))
  (tRaiseX (.ref (ga K "NoText")) E)
  tNext))
  (tRet (tCB rIntC (tCons (tVar 0) tNil)))))
set_option maxHeartbeats 4000000 in
theorem p_number_of {P : Program} {w : World} {K : PySem.W.Frag} {mg : Str → Option Value} {base : Heap} (T : Tx P K mg) {f : Addr} {cdv : Value} {A : Around} {outer : List Env} {s : Shared} {H : Hp} {E : XK} (hr : Room 0 (A.deeper (envOfC "number_of" (defScope s_number_of) s.heap.objs.size f cdv))) :
    PSs (cxOf (L2.CX P w) P w K mg base ["word", "sign"] "number_of" (defScope s_number_of) f cdv A outer s H E) (defBody s_number_of) (t_number_of K E) := by
  have hu1 := hu_of hr
  have hu := hr.units
  have hu65 := hu_65 hr
  exact (pss_cons (ps_if (PW.pt (pw_or (pt_cmpR (op_eqD hu) (pv 0) pe_str (nomark _)) (pw_or (pt_cmpR op_gt (pe_callB call_len (by rfl) T.z_len (by decide +kernel) (pa_cons (pv 0) pa_nil)) (pgint T.c_MOST_FIGURES (by rfl)) (nomark _)) (pw_or1 (pt_cmpR (op_eqD hu) (pe_ix ix_seq (pv 0) pe_int (fun _ _ => rfl)) pe_str (nomark _))))))
  (pss_one (praise rfl T.e_NoText (takes_of rfl rfl rfl rfl) (by rfl)))
  pss_nil)
  (pss_cons (ps_for (passes_of rfl) rfl (pi_seq (pv 0)) (pg_name (i := 1) sc_number_of.nd rfl (by first | exact Or.inl rfl | exact Or.inr rfl))
  (pss_one (ps_if (pt_cmpR (op_notInB hu65) (pv 1) (pgstr T.c_FIGURES (by rfl)) rfl)
  (pss_one (praise rfl T.e_NoText (takes_of rfl rfl rfl rfl) (by rfl)))
  pss_nil)))
  (pss_one (ps_ret (pe_callTy call_intA (by rfl) T.z_int (by decide +kernel) (pa_cons (pv 0) pa_nil))))))
theorem ini_number_of {K : PySem.W.Frag} {sp : SpD} (h : ∀ as M k e, sp as M k e → ∃ a0, as = [a0] ∧ ∀ P0 E, XL K P0 E e → WS K P0 (t_number_of K E) [some a0, none] M (fun _ M' => k (.va .none) M') k (fun _ _ => False) (fun _ _ => False)) : Keeps K ["word", "sign"] ["word"] (t_number_of K) sp := fun as M k e hs => by
  obtain ⟨a0, rfl, h⟩ := h as M k e hs
  exact ⟨rfl, fun P0 E hE => h P0 E hE⟩
theorem mk_number_of {P : Program} {w : World} {K : PySem.W.Frag} {mg : Str → Option Value} {base : Heap} (T : Tx P K mg) (hv : Keeps K ["word", "sign"] ["word"] (t_number_of K) (sp_number_of K)) : Cal P w K mg base "number_of" 1 (lift K (sp_number_of K)) :=
  cal_mk T.d_number_of T.f_number_of sc_number_of bt_number_of (by decide) (fun cdv A outer s H E hr => p_number_of T  hr) hv

theorem v_number_of {K : PySem.W.Frag} : Keeps K ["word", "sign"] ["word"] (t_number_of K) (sp_number_of K) := by
  refine ini_number_of ?_
  rintro as M k e ⟨x, rfl, hx, hk, he⟩
  refine ⟨_, rfl, fun P0 E hE => ?_⟩
  have hsh : SeqAt.shaped (.str x) = true := (hx.shp 0).ok (by decide)
  have hlen := hx.len
  have efig : ("0123456789" : Str) = figures := rfl
  unfold t_number_of
  refine ws_seq (ws_ifP (b := decide (x.cps.size = 0) || (decide (60 < x.cps.size) || decide (x.cps.toList.head? = some 48))) (tp_or (tp_test ?_) fun h0 => tp_or (tp_test ?_) fun _ => tp_test ?_) (fun h => ?_) (fun h => ?_))
  · unfold EP1
    walk_at "run"
    rw [eqv_str]
    refine ⟨?_, rfl⟩
    rw [decide_eq_decide.mpr str_empty]
  · unfold EP1
    walk_at "run"
    refine rc_lenS hlen ?_
    walk_at "run"
    refine ⟨?_, rfl⟩
    have elen : (x.length : Int) = (x.cps.size : Int) := rfl
    rw [elen]
    congr 2
    rw [decide_eq_decide]
    omega
  · have h0 := of_decide_eq_false h0
    obtain ⟨c, l, hl⟩ : ∃ c l, x.cps.toList = c :: l := by
      match hx : x.cps.toList with
      | [] =>
        have := congrArg List.length hx
        simp at this
        exact absurd (by rw [this]; rfl) h0
      | c :: l => exact ⟨c, l, rfl⟩
    unfold EP1
    walk_at "run"
    refine r2_ixS hlen (ch := c) (i := ((0 : Nat) : Int)) (atI_nat (by rw [hl]; rfl)) ?_
    have hc : c < 0x110000 := by
      have h2 := (txtOk_iff.mp hx).2 c (by show c ∈ x.cps.toList; rw [hl]; simp)
      exact h2
    have s1 : SeqAt.shaped (.str ⟨#[c]⟩) = true := by
      have : TxtOk (⟨#[c]⟩ : Str) := txtOk_iff.mpr ⟨by show [c].length ≤ 1000; simp, fun d hd => by rw [List.mem_singleton.mp hd]; exact hc⟩
      exact (this.shp 0).ok (by decide)
    refine we_str (r2_eqD (DR.sh _) (DR.sh _) s1 (by decide +kernel) ?_)
    rw [eqv_str, hl]
    refine ⟨?_, rfl⟩
    congr 2
    rw [decide_eq_decide]
    constructor
    · intro z
      have := congrArg (fun s : Str => s.cps.toList) z
      have e0 : ("0" : Str).cps.toList = [48] := by decide +kernel
      rw [e0] at this
      simpa using this
    · intro z
      have z : c = 48 := by simpa using z
      subst z
      decide +kernel
  · refine ws_raiseX hE (he ?_)
    rw [← Bool.not_eq_true, numOk_iff]
    simp only [Bool.or_eq_true, decide_eq_true_eq] at h
    rintro ⟨g1, g2, g3, _⟩
    rcases h with h | h | h
    · exact g1 h
    · omega
    · exact g3 h
  simp only [Bool.or_eq_false_iff, decide_eq_false_iff_not] at h
  refine ws_next (ws_seq (ws_for (wi_seqS ?_)))
  walk_at "run"
  refine ⟨x, rfl, fun i G' M' => M' = M ∧ (∃ z, G' = [some (.va (.str x)), z]) ∧ ∀ j, j < i → x.cps.getD j 0 ∈ figures.cps.toList, ⟨rfl, ⟨_, rfl⟩, fun j hj => by omega⟩, fun _ _ _ _ _ => trivial, ?_, ?_⟩
  · rintro i G' M' hi ⟨rfl, ⟨z, rfl⟩, hj⟩
    refine wg_name ?_
    refine' ws_ifP (tp_test (b := !decide (x.cps.getD i 0 ∈ figures.cps.toList)) ?_) (fun h2 => ?_) (fun h2 => ?_)
    · unfold EP1
      walk_at "run"
      rw [efig]
      exact r2_notInSg ⟨rfl, rfl⟩
    · refine ws_raiseX hE (he ?_)
      have h3 : x.cps.getD i 0 ∉ figures.cps.toList := by simpa using h2
      rw [← Bool.not_eq_true, numOk_iff]
      rintro ⟨_, _, _, g4⟩
      refine h3 (figures_mem.mpr (g4 _ ?_))
      rw [Array.getD_eq_getD_getElem?, Array.getElem?_eq_getElem hi]
      exact Array.mem_toList_iff.mpr (Array.getElem_mem hi)
    · walk_at "run"
      have h3 : x.cps.getD i 0 ∈ figures.cps.toList := by simpa using h2
      refine ⟨rfl, ⟨_, rfl⟩, fun j hj2 => ?_⟩
      by_cases e : j = i
      · rw [e]; exact h3
      · exact hj j (by omega)
  · rintro G' M' ⟨rfl, ⟨z, rfl⟩, hj⟩
    have hok : numOk x = true := numOk_iff.mpr ⟨h.1, by omega, h.2.2, fun c hc => by
      obtain ⟨j, hj1, hj2⟩ := Array.mem_iff_getElem.mp (Array.mem_toList_iff.mp hc)
      have := hj j hj1
      rw [Array.getD_eq_getD_getElem?, Array.getElem?_eq_getElem hj1] at this
      rw [← hj2]
      exact figures_mem.mp this⟩
    walk_at "run"
    refine rc_intS (numOk_int hok) ?_ (hk hok)
    show x.cps.size ≤ 640
    have := h.2.1
    omega
def sp_need_symbol (K : PySem.W.Frag) : SpD := fun as M k e => ∃ x : Str, as = [.va (.str x)] ∧ TxtOk x ∧ (isSym x = true → k (.va (.str x)) M) ∧ (isSym x = false → e (.ref (ga K "NoText")) M)
/-! need_symbol -/
def t_need_symbol (K : PySem.W.Frag) (E : XK) : TS :=
  (tSeq (tIfS (tNot (tB (tCall (lift K (sp_is_symbol K)) [] E0 (tCons (tVar 0) tNil))))
  (tRaiseX (.ref (ga K "NoText")) E)
  tNext)
  (tRet (tVar 0)))
set_option maxHeartbeats 4000000 in
theorem p_need_symbol {P : Program} {w : World} {K : PySem.W.Frag} {mg : Str → Option Value} {base : Heap} (T : Tx P K mg) (c_is_symbol : Cal P w K mg base "is_symbol" 1 (lift K (sp_is_symbol K))) {f : Addr} {cdv : Value} {A : Around} {outer : List Env} {s : Shared} {H : Hp} {E : XK} (hr : Room 1 (A.deeper (envOfC "need_symbol" (defScope s_need_symbol) s.heap.objs.size f cdv))) :
    PSs (cxOf (L2.CX P w) P w K mg base ["word"] "need_symbol" (defScope s_need_symbol) f cdv A outer s H E) (defBody s_need_symbol) (t_need_symbol K E) := by
  have hu1 := hu_of hr
  have hu := hr.units
  have hu65 := hu_65 hr
  exact (pss_cons (ps_if (pt_not (pt_val (pcall c_is_symbol hr (by decide) (by rfl) passL (pa_cons (pv 0) pa_nil))))
  (pss_one (praise rfl T.e_NoText (takes_of rfl rfl rfl rfl) (by rfl)))
  pss_nil)
  (pss_one (ps_ret (pv 0))))
theorem ini_need_symbol {K : PySem.W.Frag} {sp : SpD} (h : ∀ as M k e, sp as M k e → ∃ a0, as = [a0] ∧ ∀ P0 E, XL K P0 E e → WS K P0 (t_need_symbol K E) [some a0] M (fun _ M' => k (.va .none) M') k (fun _ _ => False) (fun _ _ => False)) : Keeps K ["word"] ["word"] (t_need_symbol K) sp := fun as M k e hs => by
  obtain ⟨a0, rfl, h⟩ := h as M k e hs
  exact ⟨rfl, fun P0 E hE => h P0 E hE⟩
theorem mk_need_symbol {P : Program} {w : World} {K : PySem.W.Frag} {mg : Str → Option Value} {base : Heap} (T : Tx P K mg) (c_is_symbol : Cal P w K mg base "is_symbol" 1 (lift K (sp_is_symbol K))) (hv : Keeps K ["word"] ["word"] (t_need_symbol K) (sp_need_symbol K)) : Cal P w K mg base "need_symbol" 2 (lift K (sp_need_symbol K)) :=
  cal_mk T.d_need_symbol T.f_need_symbol sc_need_symbol bt_need_symbol (by decide) (fun cdv A outer s H E hr => p_need_symbol T c_is_symbol hr) hv

theorem v_need_symbol {K : PySem.W.Frag} : Keeps K ["word"] ["word"] (t_need_symbol K) (sp_need_symbol K) := by
  refine ini_need_symbol ?_
  rintro as M k e ⟨x, rfl, hx, hk, he⟩
  refine ⟨_, rfl, fun P0 E hE => ?_⟩
  unfold t_need_symbol
  refine ws_seq (ws_ifP (b := !isSym x) (tp_not (tp_B ?_)) (fun h => ?_) (fun h => ?_))
  · unfold EP1
    walk_at "run"
    exact cl_sym hx ⟨rfl, rfl⟩
  · exact ws_raiseX hE (he (by simpa using h))
  · walk_at "run"
    exact hk (by simpa using h)
theorem strs_getD {bs : List Str} {i : Nat} (hi : i < bs.length) : ((bs.map PyData.str).map Sv.va).getD i (.va .none) = .va (.str (bs.getD i "")) := by
  rw [List.getD_eq_getElem?_getD, List.getD_eq_getElem?_getD]
  simp [hi]
theorem strs_lc {bs : List Str} : (List.range bs.length).map (fun i => PyData.str (bs.getD i "")) = bs.map PyData.str := by
  apply List.ext_getElem?
  intro i
  by_cases q : i < bs.length
  · simp [q]
  · rw [List.getElem?_eq_none (by simp; omega), List.getElem?_eq_none (by simp; omega)]
theorem cut_dropN {α : Type} {xs : List α} {m : Nat} (hm : m ≤ xs.length) : cutG xs (some (m : Int)) none = xs.drop m := by
  unfold cutG HT.sIx
  show List.take (xs.length - (if (m : Int) < 0 then _ else min (m : Int).toNat xs.length)) (List.drop (if (m : Int) < 0 then _ else min (m : Int).toNat xs.length) xs) = _
  rw [if_neg (by omega), Int.toNat_natCast, Nat.min_eq_left hm, ← List.length_drop, List.take_length]
theorem gcd_nat {a b : Nat} : (Int.gcd (a : Int) (b : Int) : Int) = 1 ↔ Int.gcd (a : Int) (b : Int) = 1 := by omega

/-! rule_of, any row -/
def sp_rule_of (K : PySem.W.Frag) : SpD := fun as M k e => ∃ row : Str, as = [.va (.str row)] ∧ TxtOk row ∧ (∀ r, ruleRd row = some r → k (.va (ruleD r)) M) ∧ (ruleRd row = none → ∀ M', Mext M M' → e (.ref (ga K "NoText")) M')
/-! rule_of -/
def t_rule_of (K : PySem.W.Frag) (E : XK) : TS :=
  (tSeq (tAsg (tM1 rSplit (tVar 0) (tC (.str " "))) (gName 1))
  (tSeq (tIfS (tOr (tTest (tOp rLtI (tCB (rLenC K) (tCons (tVar 1) tNil)) (tC (.int 3)))) (tOr (tTest (tOp rGtI (tCB (rLenC K) (tCons (tVar 1) tNil)) (tOp (rAddA K) (tC (.int 2)) (tC (.int 4))))) (tTest (tOp (rNeD K) (tSl (rSlX K) (tOp (rIx K) (tVar 1) (tC (.int 1))) (tPart (tUn (rU fun i => .int (-i)) (tC (.int 1)))) tNoPart) (tC (.str ":"))))))
  (tRaiseX (.ref (ga K "NoText")) E)
  tNext)
  (tSeq (tAsg (tM1 rPartition (tSl (rSlX K) (tOp (rIx K) (tVar 1) (tC (.int 1))) tNoPart (tPart (tUn (rU fun i => .int (-i)) (tC (.int 1))))) (tC (.str "/"))) (gTup K 3 (gCons (gName 2) (gCons (gName 3) (gCons (gName 4) gNil)))))
  (tSeq (tAsg (tTup (tCons (tCall (lift K (sp_number_of K)) [] E (tCons (tVar 2) tNil)) (tCons (tCall (lift K (sp_number_of K)) [] E (tCons (tVar 4) tNil)) tNil))) (gName 5))
  (tSeq (tIfS (tTest (tOp (rNeD K) (tCall (lift K (sp_divisor K)) [] E0 (tCons (tOp (rIx K) (tVar 5) (tC (.int 0))) (tCons (tOp (rIx K) (tVar 5) (tC (.int 1))) tNil))) (tC (.int 1))))
  (tRaiseX (.ref (ga K "NoText")) E)
  tNext)
  (tRet (tTup (tCons (tCall (lift K (sp_need_symbol K)) [] E (tCons (tOp (rIx K) (tVar 1) (tC (.int 0))) tNil)) (tCons (tCB (rTupleC K) (tCons (tLc (iSeq K (tSl (rSlX K) (tVar 1) (tPart (tC (.int 2))) tNoPart)) (gName 6) tYes (tCall (lift K (sp_need_symbol K)) [] E (tCons (tVar 6) tNil)) [6]) tNil)) (tCons (tVar 5) tNil))))))))))
set_option maxHeartbeats 4000000 in
theorem p_rule_of {P : Program} {w : World} {K : PySem.W.Frag} {mg : Str → Option Value} {base : Heap} (T : Tx P K mg) (c_need_symbol : Cal P w K mg base "need_symbol" 2 (lift K (sp_need_symbol K))) (c_divisor : Cal P w K mg base "divisor" 1 (lift K (sp_divisor K))) (c_number_of : Cal P w K mg base "number_of" 1 (lift K (sp_number_of K))) {f : Addr} {cdv : Value} {A : Around} {outer : List Env} {s : Shared} {H : Hp} {E : XK} (hr : Room 2 (A.deeper (envOfC "rule_of" (defScope s_rule_of) s.heap.objs.size f cdv))) :
    PSs (cxOf (L2.CX P w) P w K mg base ["row", "words", "top", "line", "bottom", "own", "word"] "rule_of" (defScope s_rule_of) f cdv A outer s H E) (defBody s_rule_of) (t_rule_of K E) := by
  have hu1 := hu_of hr
  have hu := hr.units
  have hu65 := hu_65 hr
  exact (pss_cons (ps_set (i := 1) sc_rule_of.nd rfl (by first | exact Or.inl rfl | exact Or.inr rfl) (pe_split (pv 0) pe_str))
  (pss_cons (ps_if (PW.pt (pw_or (pt_cmpR op_lt (pe_callB call_len (by rfl) T.z_len (by decide +kernel) (pa_cons (pv 1) pa_nil)) pe_int (nomark _)) (pw_or (pt_cmpR op_gt (pe_callB call_len (by rfl) T.z_len (by decide +kernel) (pa_cons (pv 1) pa_nil)) (pe_op op_addA pe_int (pgint T.c_MOST_BODY (by rfl))) (nomark _)) (pw_or1 (pt_cmpR (op_neD hu) (pe_slice sl_X (pe_ix ix_seq (pv 1) pe_int (fun _ _ => rfl)) (po_some (pe_un un_neg pe_int)) po_none) pe_str (nomark _))))))
  (pss_one (praise rfl T.e_NoText (takes_of rfl rfl rfl rfl) (by rfl)))
  pss_nil)
  (pss_cons (ps_asg (pe_partition (pe_slice sl_X (pe_ix ix_seq (pv 1) pe_int (fun _ _ => rfl)) po_none (po_some (pe_un un_neg pe_int))) pe_str) (pg_tup (by rfl) (pgs_cons (pg_name (i := 2) sc_rule_of.nd rfl (by first | exact Or.inl rfl | exact Or.inr rfl)) (pgs_cons (pg_name (i := 3) sc_rule_of.nd rfl (by first | exact Or.inl rfl | exact Or.inr rfl)) (pgs_cons (pg_name (i := 4) sc_rule_of.nd rfl (by first | exact Or.inl rfl | exact Or.inr rfl)) pgs_nil)))))
  (pss_cons (ps_set (i := 5) sc_rule_of.nd rfl (by first | exact Or.inl rfl | exact Or.inr rfl) (pe_tup (pa_cons (pcall c_number_of hr (by decide) (by rfl) (passes_call (takes_of rfl rfl rfl rfl) fun _ _ _ _ z => z) (pa_cons (pv 2) pa_nil)) (pa_cons (pcall c_number_of hr (by decide) (by rfl) (passes_call (takes_of rfl rfl rfl rfl) fun _ _ _ _ z => z) (pa_cons (pv 4) pa_nil)) pa_nil))))
  (pss_cons (ps_if (pt_cmpR (op_neD hu) (pcall c_divisor hr (by decide) (by rfl) passL (pa_cons (pe_ix ix_seq (pv 5) pe_int (fun _ _ => rfl)) (pa_cons (pe_ix ix_seq (pv 5) pe_int (fun _ _ => rfl)) pa_nil))) pe_int (nomark _))
  (pss_one (praise rfl T.e_NoText (takes_of rfl rfl rfl rfl) (by rfl)))
  pss_nil)
  (pss_one (ps_ret (pe_tup (pa_cons (pcall c_need_symbol hr (by decide) (by rfl) (passes_call (takes_of rfl rfl rfl rfl) fun _ _ _ _ z => z) (pa_cons (pe_ix ix_seq (pv 1) pe_int (fun _ _ => rfl)) pa_nil)) (pa_cons (pe_callTy call_tupleA (by rfl) T.z_tuple (by decide +kernel) (pa_cons (pe_lcE (own := [("word", 6)]) (g := (gName 6)) (tt := tYes) (te := (tCall (lift K (sp_need_symbol K)) [] E (tCons (tVar 6) tNil))) rfl sc_rule_of.nd rfl rfl (takes_of rfl rfl rfl rfl) (pi_seq (pe_slice sl_X (pv 1) (po_some pe_int) po_none)) (blkOk_by (by first | decide +kernel | rfl)) (fun _ _ _ _ _ => (pg_name (i := 6) sc_rule_of.nd rfl (by first | exact Or.inl rfl | exact Or.inr rfl))) (fun _ _ _ _ _ => pts_nil) (fun _ _ _ _ _ xe pass => (pcall c_need_symbol hr (by decide) (by rfl) pass (pa_cons (pv 6) pa_nil)))) pa_nil)) (pa_cons (pv 5) pa_nil)))))))))))
theorem ini_rule_of {K : PySem.W.Frag} {sp : SpD} (h : ∀ as M k e, sp as M k e → ∃ a0, as = [a0] ∧ ∀ P0 E, XL K P0 E e → WS K P0 (t_rule_of K E) [some a0, none, none, none, none, none, none] M (fun _ M' => k (.va .none) M') k (fun _ _ => False) (fun _ _ => False)) : Keeps K ["row", "words", "top", "line", "bottom", "own", "word"] ["row"] (t_rule_of K) sp := fun as M k e hs => by
  obtain ⟨a0, rfl, h⟩ := h as M k e hs
  exact ⟨rfl, fun P0 E hE => h P0 E hE⟩
theorem mk_rule_of {P : Program} {w : World} {K : PySem.W.Frag} {mg : Str → Option Value} {base : Heap} (T : Tx P K mg) (c_need_symbol : Cal P w K mg base "need_symbol" 2 (lift K (sp_need_symbol K))) (c_divisor : Cal P w K mg base "divisor" 1 (lift K (sp_divisor K))) (c_number_of : Cal P w K mg base "number_of" 1 (lift K (sp_number_of K))) (hv : Keeps K ["row", "words", "top", "line", "bottom", "own", "word"] ["row"] (t_rule_of K) (sp_rule_of K)) : Cal P w K mg base "rule_of" 3 (lift K (sp_rule_of K)) :=
  cal_mk T.d_rule_of T.f_rule_of sc_rule_of bt_rule_of (by decide) (fun cdv A outer s H E hr => p_rule_of T c_need_symbol c_divisor c_number_of hr) hv

set_option maxHeartbeats 4000000 in
theorem v_rule_of {K : PySem.W.Frag} : Keeps K ["row", "words", "top", "line", "bottom", "own", "word"] ["row"] (t_rule_of K) (sp_rule_of K) := by
  refine ini_rule_of ?_
  rintro as M k e ⟨row, rfl, hx, hk, he⟩
  refine ⟨_, rfl, fun P0 E hE => ?_⟩
  have hWt := split_txt hx (by rw [blank_ok.1]; simp) blank_ok.2
  have hWl := split_few (x := row) (y := " ") (by rw [blank_ok.1]; simp) blank_ok.2
  have hlt := (txtOk_iff.mp hx).1
  have erd : ruleRd row = wordsRd (Txt.split row " ") := rfl
  rw [erd] at hk he
  unfold t_rule_of
  refine ws_seq (ws_asg (we_split (we_var rfl ⟨row, rfl, we_str ⟨" ", rfl, by decide +kernel, hx.len, ?_⟩⟩)))
  generalize Txt.split row " " = W at hk he hWt hWl
  rcases W with _ | ⟨h, _ | ⟨m, _ | ⟨s, b⟩⟩⟩
  · refine ws_seq (ws_ifP (b := true || false) (tp_or (tp_test ?_) fun z => by cases z) (fun _ => ws_raiseX hE (he rfl M (Mext.refl M))) (fun z => by cases z))
    walk_at "ep"
  · refine ws_seq (ws_ifP (b := true || false) (tp_or (tp_test ?_) fun z => by cases z) (fun _ => ws_raiseX hE (he rfl M (Mext.refl M))) (fun z => by cases z))
    walk_at "ep"
  · refine ws_seq (ws_ifP (b := true || false) (tp_or (tp_test ?_) fun z => by cases z) (fun _ => ws_raiseX hE (he rfl M (Mext.refl M))) (fun z => by cases z))
    walk_at "ep"
  have hm := hWt m (by simp)
  have hh := hWt h (by simp)
  have hsb : ∀ x ∈ s :: b, TxtOk x := fun x hx => hWt x (by simp at hx ⊢; rcases hx with z | z; exact .inr (.inr (.inl z)); exact .inr (.inr (.inr z)))
  have hlen : (((h :: m :: s :: b).map PyData.str).map Sv.va).length = b.length + 3 := by simp
  have at0 : atI (((h :: m :: s :: b).map PyData.str).map Sv.va) ((0 : Nat) : Int) = some (.va (.str h)) := atI_nat rfl
  have at1 : atI (((h :: m :: s :: b).map PyData.str).map Sv.va) ((1 : Nat) : Int) = some (.va (.str m)) := atI_nat rfl
  have c1 := cutS_txt (lo := some (-1)) (hi := none) hm
  have c2 := cutS_txt (lo := none) (hi := some (-1)) hm
  have ewr : wordsRd (h :: m :: s :: b) = if decide ((s :: b).length ≤ 4) && (midOk m && (isSym h && (s :: b).all isSym)) then some ⟨h, s :: b, midV m⟩ else none := rfl
  rw [ewr] at hk he
  have hno : ¬ (decide ((s :: b).length ≤ 4) && (midOk m && (isSym h && (s :: b).all isSym))) = true → ∀ M', Mext M M' → e (.ref (ga K "NoText")) M' := fun z => he (if_neg z)
  refine ws_seq (ws_ifP (b := false || (decide (4 < (s :: b).length) || !decide (cutS m (some (-1)) none = ":"))) (tp_or (tp_test ?_) fun _ => tp_or (tp_test ?_) fun _ => tp_test ?_) (fun z => ?_) (fun z => ?_))
  · unfold EP1
    walk_at "run"
    rw [hlen, decide_eq_false (by omega)]
    exact ⟨rfl, rfl⟩
  · unfold EP1
    walk_at "run"
    rw [hlen]
    refine ⟨?_, rfl⟩
    congr 2
    rw [decide_eq_decide, List.length_cons]
    omega
  · unfold EP1
    walk_at "run"
    refine we_sl (we_op (we_var rfl (we_int (r2_ixL (RL.sh _) at1 (wo_part ?_)))))
    walk_at "run"
    refine r1_neg ⟨_, rfl, wo_none (rs_S hm.len ?_)⟩
    refine we_str (r2_neD (DR.sh _) (DR.sh _) ((c1.shp 0).ok (by decide)) (by decide +kernel) ?_)
    rw [eqv_str]
    exact ⟨rfl, rfl⟩
  · refine ws_raiseX hE (hno (fun q => ?_) M (Mext.refl M))
    rw [Bool.and_eq_true, Bool.and_eq_true, decide_eq_true_iff] at q
    unfold midOk at q
    have q2 := q.2.1
    rw [Bool.and_eq_true, decide_eq_true_iff] at q2
    rw [decide_eq_true q2.1, decide_eq_false (by omega)] at z
    cases z
  have z1 : (s :: b).length ≤ 4 ∧ cutS m (some (-1)) none = ":" := by
    rw [Bool.false_or, Bool.or_eq_false_iff, decide_eq_false_iff_not, Bool.not_eq_false', decide_eq_true_iff] at z
    exact ⟨by omega, z.2⟩
  rw [decide_eq_true z1.1, Bool.true_and] at hk hno
  refine ws_next (ws_seq (ws_asgG (we_partition (we_sl (we_op (we_var rfl (we_int (r2_ixL (RL.sh _) at1 (wo_none (wo_part ?_))))))))))
  walk_at "run"
  refine r1_neg ⟨_, rfl, rs_S hm.len ⟨_, rfl, we_str ⟨"/", rfl, by decide +kernel, c2.len, ?_⟩⟩⟩
  obtain ⟨pt1, pt2, pt3⟩ := partition_txt c2 slash_txt (by rw [slash_ok.1]; simp)
  have hmv := @mid_ok m
  have emo : midOk m = (decide (cutS m (some (-1)) none = ":") && (numOk (Txt.partition (cutS m none (some (-1))) "/").1 && (numOk (Txt.partition (cutS m none (some (-1))) "/").2.2 && decide (Int.gcd (numV (Txt.partition (cutS m none (some (-1))) "/").1) (numV (Txt.partition (cutS m none (some (-1))) "/").2.2) = 1)))) := rfl
  rw [decide_eq_true z1.2, Bool.true_and] at emo
  generalize (Txt.partition (cutS m none (some (-1))) "/").1 = top at pt1 emo hmv
  generalize (Txt.partition (cutS m none (some (-1))) "/").2.1 = line at pt2
  generalize (Txt.partition (cutS m none (some (-1))) "/").2.2 = bot at pt3 emo hmv
  refine wg_tup (ds := [.str top, .str line, .str bot]) rfl (wgs_cons (wg_name (wgs_cons (wg_name (wgs_cons (wg_name (wgs_nil ?_)))))))
  refine ws_seq (ws_asg (we_tup (wa_cons (we_call hE (wa_cons (we_var rfl (wa_nil ⟨top, rfl, pt1, fun n1 => ?_, fun n1 => ?_⟩)))))))
  rotate_left
  · refine hno (fun q => ?_) M (Mext.refl M)
    rw [emo, n1] at q
    cases q
  refine wa_cons (we_call hE (wa_cons (we_var rfl (wa_nil ⟨bot, rfl, pt3, fun n2 => ?_, fun n2 => ?_⟩))))
  rotate_left
  · refine hno (fun q => ?_) M (Mext.refl M)
    rw [emo, n1, n2] at q
    cases q
  refine wa_nil ⟨[.int (numV top : Int), .int (numV bot : Int)], rfl, by simp, ?_⟩
  rw [n1, n2, Bool.true_and, Bool.true_and] at emo
  refine ws_seq (ws_ifP (b := !decide (Int.gcd (numV top : Int) (numV bot : Int) = 1)) (tp_test ?_) (fun z => ?_) (fun z => ?_))
  · unfold EP1
    walk_at "run"
    refine ⟨_, _, rfl, by omega, by omega, ?_⟩
    walk_at "run"
    rw [eqv_int2]
    refine ⟨?_, rfl⟩
    congr 3
    rw [decide_eq_decide]
    exact gcd_nat
  · refine ws_raiseX hE (hno (fun q => ?_) M (Mext.refl M))
    rw [emo] at q
    rw [Bool.not_eq_true', decide_eq_false_iff_not] at z
    rw [decide_eq_false z] at q
    cases q
  have z2 : Int.gcd (numV top : Int) (numV bot : Int) = 1 := by
    rw [Bool.not_eq_false', decide_eq_true_iff] at z
    exact z
  rw [decide_eq_true z2] at emo
  obtain ⟨_, _, hsd⟩ := hmv emo
  rw [emo, Bool.true_and] at hk hno
  refine ws_next (ws_ret (we_tup (wa_cons (we_call hE (wa_cons (we_op (we_var rfl (we_int (r2_ixL (RL.sh _) at0 (wa_nil ⟨h, rfl, hh, fun s1 => ?_, fun s1 => ?_⟩))))))))))
  rotate_left
  · refine hno (fun q => ?_) M (Mext.refl M)
    rw [s1] at q
    cases q
  rw [s1, Bool.true_and] at hk hno
  refine wa_cons (we_cb (wa_cons (we_lcR (gon_name (by decide)) (wi_seqL ?_))))
  refine we_sl (we_var rfl (wo_part (we_int ⟨_, rfl, wo_none (rs_Lv (RL.sh _) ?_)⟩)))
  have ecut : cutG ((h :: m :: s :: b).map PyData.str) (some ((2 : Nat) : Int)) none = (s :: b).map PyData.str := by
    rw [cut_dropN (by simp)]
    rfl
  have ecut : cutG ((h :: m :: s :: b).map PyData.str) (some 2) none = (s :: b).map PyData.str := ecut
  rw [ecut]
  refine ⟨_, RL.sh _, ?_⟩
  have hlen2 : (((s :: b).map PyData.str).map Sv.va).length = (s :: b).length := by simp
  rw [hlen2]
  refine ⟨fun i => some (.str ((s :: b).getD i "")), fun i => ∀ x ∈ (s :: b).take i, isSym x = true, by omega, fun _ _ => RL.sh _, (fun x hx => nomatch hx), ?_, fun hall => ?_⟩
  · intro i M' hi hI hM'
    have e0 : (((s :: b).map PyData.str).map Sv.va).getD i (.va .none) = .va (.str ((s :: b).getD i "")) := strs_getD hi
    have hg : (s :: b).getD i "" = (s :: b)[i] := by rw [List.getD_eq_getElem?_getD, List.getElem?_eq_getElem hi] <;> rfl
    have hmem : (s :: b).getD i "" ∈ s :: b := by rw [hg]; exact List.getElem_mem hi
    have htk : (s :: b).take (i + 1) = (s :: b).take i ++ [(s :: b).getD i ""] := by rw [List.take_succ, List.getElem?_eq_getElem hi, hg]; rfl
    simp only [e0]
    rw [htk]
    generalize (s :: b).getD i "" = x at hmem
    refine wg_name ⟨rfl, wt_yes ⟨rfl, fun _ => ?_, fun z => by cases z⟩⟩
    refine we_call hE (wa_cons (we_var rfl (wa_nil ⟨x, rfl, hsb x hmem, fun q => ⟨rfl, fun y hy => ?_, _, rfl, rfl⟩, fun q => ?_⟩)))
    · rcases List.mem_append.mp hy with z | z
      · exact hI y z
      · rw [List.mem_singleton.mp z]; exact q
    · refine hno (fun z => ?_) M' hM'
      rw [List.all_eq_true.mp z x hmem] at q
      cases q
  have hall : ∀ x ∈ (s :: b).take (s :: b).length, isSym x = true := hall
  rw [List.take_length] at hall
  rw [filterMap_all fun i _ => rfl]
  have emap : (List.range (s :: b).length).map (fun i => PyData.str ((s :: b).getD i "")) = (s :: b).map PyData.str := strs_lc
  rw [emap]
  refine wa_nil (rc_tupleL (RL.sh _) (wa_cons (we_var rfl (wa_nil ⟨[.str h, bodyD (s :: b), shD (midV m)], ?_, by simp, ?_⟩))))
  · rw [hsd]
    rfl
  · exact hk ⟨h, s :: b, midV m⟩ (if_pos (List.all_eq_true.mpr hall))

/-! read, any text -/
def sp_read (K : PySem.W.Frag) : SpD := fun as M k e => ∃ text : Str, as = [.va (.str text)] ∧ text.length ≤ 100000 ∧ (∀ p ∈ Txt.split text "\n", TxtOk p) ∧ (Txt.split text "\n").length ≤ 1000 ∧
  (readP text = none → ∀ M', Mext M M' → e (.ref (ga K "NoText")) M') ∧
  ∀ st rs, readP text = some (st, rs) → (¬ GoodG st rs → ∀ M', Mext M M' → e (.ref (ga K "NoGrammar")) M') ∧ (GoodG st rs → ∀ M' g, Mext M M' → M g = none → GrAt K M' g st rs → k (.rf (.ref g)) M')
/-! read -/
def t_read (K : PySem.W.Frag) (E : XK) : TS :=
  (tSeq (tAsg (tM1 rSplit (tVar 0) (tC (.str "\n"))) (gName 1))
  (tSeq (tAsg (tM1 rPartition (tOp (rIx K) (tVar 1) (tC (.int 0))) (tC (.str " "))) (gTup K 3 (gCons (gName 2) (gCons (gName 3) (gCons (gName 4) gNil)))))
  (tSeq (tIfS (tOr (tTest (tOp (rNeD K) (tVar 2) (tC (.str "start")))) (tTest (tOp (rEqD K) (tVar 3) (tC (.str "")))))
  (tRaiseX (.ref (ga K "NoText")) E)
  tNext)
  (tSeq (tDrop (tCall (lift K (sp_need_symbol K)) [] E (tCons (tVar 4) tNil)))
  (tRet (tMake (ga K "Grammar") (lift K (sp_Grammar___init__ K)) [] E (tCons (tVar 4) (tCons (tLc (iSeq K (tSl (rSlX K) (tVar 1) (tPart (tC (.int 1))) tNoPart)) (gName 5) tYes (tCall (lift K (sp_rule_of K)) [] E (tCons (tVar 5) tNil)) [5]) tNil))))))))
set_option maxHeartbeats 4000000 in
theorem p_read {P : Program} {w : World} {K : PySem.W.Frag} {mg : Str → Option Value} {base : Heap} (T : Tx P K mg) (c_Grammar___init__ : Mak P w K mg base "Grammar" (ga K "Grammar") 36 (lift K (sp_Grammar___init__ K))) (c_rule_of : Cal P w K mg base "rule_of" 3 (lift K (sp_rule_of K))) (c_need_symbol : Cal P w K mg base "need_symbol" 2 (lift K (sp_need_symbol K))) {f : Addr} {cdv : Value} {A : Around} {outer : List Env} {s : Shared} {H : Hp} {E : XK} (hr : Room 37 (A.deeper (envOfC "read" (defScope s_read) s.heap.objs.size f cdv))) :
    PSs (cxOf (L2.CX P w) P w K mg base ["text", "rows", "head", "blank", "start", "row"] "read" (defScope s_read) f cdv A outer s H E) (defBody s_read) (t_read K E) := by
  have hu1 := hu_of hr
  have hu := hr.units
  have hu65 := hu_65 hr
  exact (pss_cons (ps_set (i := 1) sc_read.nd rfl (by first | exact Or.inl rfl | exact Or.inr rfl) (pe_split (pv 0) pe_str))
  (pss_cons (ps_asg (pe_partition (pe_ix ix_seq (pv 1) pe_int (fun _ _ => rfl)) pe_str) (pg_tup (by rfl) (pgs_cons (pg_name (i := 2) sc_read.nd rfl (by first | exact Or.inl rfl | exact Or.inr rfl)) (pgs_cons (pg_name (i := 3) sc_read.nd rfl (by first | exact Or.inl rfl | exact Or.inr rfl)) (pgs_cons (pg_name (i := 4) sc_read.nd rfl (by first | exact Or.inl rfl | exact Or.inr rfl)) pgs_nil)))))
  (pss_cons (ps_if (PW.pt (pw_or (pt_cmpR (op_neD hu) (pv 2) pe_str (nomark _)) (pw_or1 (pt_cmpR (op_eqD hu) (pv 3) pe_str (nomark _)))))
  (pss_one (praise rfl T.e_NoText (takes_of rfl rfl rfl rfl) (by rfl)))
  pss_nil)
  (pss_cons (ps_expr (pcall c_need_symbol hr (by decide) (by rfl) (passes_call (takes_of rfl rfl rfl rfl) fun _ _ _ _ z => z) (pa_cons (pv 4) pa_nil)))
  (pss_one (ps_ret (pmake c_Grammar___init__ hr (by decide) (by rfl) (passes_call (takes_of rfl rfl rfl rfl) fun _ _ _ _ z => z) (pa_cons (pv 4) (pa_cons (pe_lcE (own := [("row", 5)]) (g := (gName 5)) (tt := tYes) (te := (tCall (lift K (sp_rule_of K)) [] E (tCons (tVar 5) tNil))) rfl sc_read.nd rfl rfl (takes_of rfl rfl rfl rfl) (pi_seq (pe_slice sl_X (pv 1) (po_some pe_int) po_none)) (blkOk_by (by first | decide +kernel | rfl)) (fun _ _ _ _ _ => (pg_name (i := 5) sc_read.nd rfl (by first | exact Or.inl rfl | exact Or.inr rfl))) (fun _ _ _ _ _ => pts_nil) (fun _ _ _ _ _ xe pass => (pcall c_rule_of hr (by decide) (by rfl) pass (pa_cons (pv 5) pa_nil)))) pa_nil)))))))))
theorem ini_read {K : PySem.W.Frag} {sp : SpD} (h : ∀ as M k e, sp as M k e → ∃ a0, as = [a0] ∧ ∀ P0 E, XL K P0 E e → WS K P0 (t_read K E) [some a0, none, none, none, none, none] M (fun _ M' => k (.va .none) M') k (fun _ _ => False) (fun _ _ => False)) : Keeps K ["text", "rows", "head", "blank", "start", "row"] ["text"] (t_read K) sp := fun as M k e hs => by
  obtain ⟨a0, rfl, h⟩ := h as M k e hs
  exact ⟨rfl, fun P0 E hE => h P0 E hE⟩
theorem mk_read {P : Program} {w : World} {K : PySem.W.Frag} {mg : Str → Option Value} {base : Heap} (T : Tx P K mg) (c_Grammar___init__ : Mak P w K mg base "Grammar" (ga K "Grammar") 36 (lift K (sp_Grammar___init__ K))) (c_rule_of : Cal P w K mg base "rule_of" 3 (lift K (sp_rule_of K))) (c_need_symbol : Cal P w K mg base "need_symbol" 2 (lift K (sp_need_symbol K))) (hv : Keeps K ["text", "rows", "head", "blank", "start", "row"] ["text"] (t_read K) (sp_read K)) : Cal P w K mg base "read" 38 (lift K (sp_read K)) :=
  cal_mk T.d_read T.f_read sc_read bt_read (by decide) (fun cdv A outer s H E hr => p_read T c_Grammar___init__ c_rule_of c_need_symbol hr) hv

set_option maxHeartbeats 4000000 in
theorem v_read {K : PySem.W.Frag} : Keeps K ["text", "rows", "head", "blank", "start", "row"] ["text"] (t_read K) (sp_read K) := by
  refine ini_read ?_
  rintro as M k e ⟨text, rfl, hl, hRt, hRl, hno, hyes⟩
  refine ⟨_, rfl, fun P0 E hE => ?_⟩
  have erd : readP text = rowsRd (Txt.split text "\n") := rfl
  have hne := split_ne (x := text) (y := "\n") (by rw [feed_ok.1]; simp) feed_ok.2
  rw [erd] at hno hyes
  unfold t_read
  refine ws_seq (ws_asg (we_split (we_var rfl ⟨text, rfl, we_str ⟨"\n", rfl, by decide +kernel, hl, ?_⟩⟩)))
  generalize Txt.split text "\n" = R at hRt hRl hno hyes hne
  rcases R with _ | ⟨r0, rows⟩
  · exact absurd rfl hne
  have h0t := hRt r0 (by simp)
  obtain ⟨p1, p2, p3⟩ := partition_txt h0t blank_txt (by rw [blank_ok.1]; simp)
  have at0 : atI (((r0 :: rows).map PyData.str).map Sv.va) ((0 : Nat) : Int) = some (.va (.str r0)) := atI_nat rfl
  rw [rowsRd_cons] at hno hyes
  refine ws_seq (ws_asgG (we_partition (we_op (we_var rfl (we_int (r2_ixL (RL.sh _) at0 ⟨r0, rfl, we_str ⟨" ", rfl, by decide +kernel, h0t.len, ?_⟩⟩))))))
  generalize (Txt.partition r0 " ").1 = hd at p1 hno hyes
  generalize (Txt.partition r0 " ").2.1 = bl at p2 hno hyes
  generalize (Txt.partition r0 " ").2.2 = s0 at p3 hno hyes
  refine wg_tup (ds := [.str hd, .str bl, .str s0]) rfl (wgs_cons (wg_name (wgs_cons (wg_name (wgs_cons (wg_name (wgs_nil ?_)))))))
  refine ws_seq (ws_ifP (b := (!decide (hd = "start")) || decide (bl = "")) (tp_or (tp_test ?_) fun _ => tp_test ?_) (fun z => ?_) (fun z => ?_))
  · unfold EP1
    refine we_op (we_var rfl (we_str (r2_neD (DR.sh _) (DR.sh _) ((p1.shp 0).ok (by decide)) (by decide +kernel) ?_)))
    rw [eqv_str]
    exact ⟨rfl, rfl⟩
  · unfold EP1
    refine we_op (we_var rfl (we_str (r2_eqD (DR.sh _) (DR.sh _) ((p2.shp 0).ok (by decide)) (by decide +kernel) ?_)))
    rw [eqv_str]
    exact ⟨rfl, rfl⟩
  · refine ws_raiseX hE (hno ?_ M (Mext.refl M))
    rw [if_neg]
    intro q
    rw [Bool.and_eq_true, Bool.and_eq_true] at q
    rw [q.1] at z
    have q2 := q.2.1
    rw [Bool.not_eq_true'] at q2
    rw [q2] at z
    cases z
  have q1 : decide (hd = "start") = true ∧ decide (bl = "") = false := by
    rw [Bool.or_eq_false_iff, Bool.not_eq_false'] at z
    exact z
  rw [q1.1, q1.2, Bool.true_and, show (!false) = true from rfl, Bool.true_and] at hno hyes
  refine ws_next (ws_seq (ws_drop (we_call hE (wa_cons (we_var rfl (wa_nil ⟨s0, rfl, p3, fun q3 => ?_, fun q3 => ?_⟩))))))
  rotate_left
  · refine hno ?_ M (Mext.refl M)
    rw [q3]
    rfl
  rw [if_pos q3] at hno hyes
  refine ws_ret (we_make hE (wa_cons (we_var rfl (wa_cons (we_lcR (gon_name (by decide)) (wi_seqL ?_))))))
  refine we_sl (we_var rfl (wo_part (we_int ⟨_, rfl, wo_none (rs_Lv (RL.sh _) ?_)⟩)))
  have ecut : cutG ((r0 :: rows).map PyData.str) (some ((1 : Nat) : Int)) none = rows.map PyData.str := by
    rw [cut_dropN (by simp)]
    rfl
  have ecut : cutG ((r0 :: rows).map PyData.str) (some 1) none = rows.map PyData.str := ecut
  rw [ecut]
  refine ⟨_, RL.sh _, ?_⟩
  have hlen2 : ((rows.map PyData.str).map Sv.va).length = rows.length := by simp
  rw [hlen2]
  have hRl2 : rows.length ≤ 999 := by simp at hRl; omega
  refine ⟨fun i => (ruleRd (rows.getD i "")).map ruleD, fun i => ∀ (j : Nat) (h : j < rows.length), j < i → ruleRd rows[j] ≠ none, by omega, fun _ _ => RL.sh _, fun j h z => by omega, ?_, fun hI => ?_⟩
  · intro i M' hi hI hM'
    have e0 : ((rows.map PyData.str).map Sv.va).getD i (.va .none) = .va (.str (rows.getD i "")) := strs_getD hi
    have e1 : rows.getD i "" = rows[i] := by rw [List.getD_eq_getElem?_getD, List.getElem?_eq_getElem hi] <;> rfl
    have hm := hRt rows[i] (List.mem_cons_of_mem _ (List.getElem_mem hi))
    simp only [e0, e1]
    refine wg_name ⟨rfl, wt_yes ⟨rfl, fun _ => ?_, fun z => by cases z⟩⟩
    refine we_call hE (wa_cons (we_var rfl (wa_nil ⟨rows[i], rfl, hm, fun r hr => ⟨rfl, fun j hj hji => ?_, _, rfl, by rw [hr]; rfl⟩, fun hr M2 hM2 => ?_⟩)))
    · by_cases q : j < i
      · exact hI j hj q
      · have : j = i := by omega
        subst this
        rw [hr]
        exact fun z => nomatch z
    · refine hno ?_ M2 fun x o h => hM2 x o (hM' x o h)
      cases h : rdAll rows with
      | none => rfl
      | some rs =>
        obtain ⟨hln, hall⟩ := rdAll_some h
        rw [hall i hi (by omega)] at hr
        cases hr
  · have hI : ∀ (j : Nat) (h : j < rows.length), j < rows.length → ruleRd rows[j] ≠ none := hI
    cases hrd : rdAll rows with
    | none =>
      obtain ⟨i, hi, hr⟩ := rdAll_none hrd
      exact absurd hr (hI i hi hi)
    | some rs =>
    rw [hrd] at hyes
    obtain ⟨hbad, hgood⟩ := hyes s0 rs rfl
    obtain ⟨hln, hall⟩ := rdAll_some hrd
    have emap : (List.range rows.length).filterMap (fun i => (ruleRd (rows.getD i "")).map ruleD) = rulesD rs := by
      rw [filterMap_all (g := fun i => ruleD (rs.getD i ⟨"", [], 0⟩)) fun i hi => by
        have hi' : i < rs.length := by omega
        rw [List.getD_eq_getElem?_getD, List.getElem?_eq_getElem hi, List.getD_eq_getElem?_getD, List.getElem?_eq_getElem hi']
        show (ruleRd rows[i]).map ruleD = some (ruleD rs[i])
        rw [hall i hi hi']
        rfl]
      unfold rulesD
      apply List.ext_getElem?
      intro i
      by_cases q : i < rows.length
      · have q2 : i < rs.length := by omega
        simp [q, q2]
      · rw [List.getElem?_eq_none (by simp; omega), List.getElem?_eq_none (by simp; omega)]
    rw [emap]
    have hok : ∀ r ∈ rs, RuleOk r := fun r hr => by
      obtain ⟨i, hi, rfl⟩ := List.mem_iff_getElem.mp hr
      exact ruleRd_ok (hRt rows[i] (List.mem_cons_of_mem _ (List.getElem_mem _))) (hall i (by omega) hi)
    refine wa_nil fun g hg => ?_
    have hex : ∀ {M2 : Mm}, Mex (fun b => b = g) (mup M g (.ins (ga K "Grammar") [])) M2 → Mext M M2 := fun {M2} hx x o h => hx x o (by rw [mup_ne (mne h hg)]; exact h) (mne h hg)
    exact ⟨g, s0, rs, _, rfl, mup_same, RL.sh _, p3, hok, by omega, fun hgd M2 hx hN => ⟨rfl, hgood hgd M2 g (hex hx) hg hN.gr⟩, fun hn M2 hx => hbad hn M2 (hex hx)⟩

/-! what becomes of a text -/
def sp__law_kind (_ : PySem.W.Frag) : SpD := fun as M k _ => ∃ text : Str, as = [.va (.str text)] ∧ text.length ≤ 100000 ∧ (∀ p ∈ Txt.split text "\n", TxtOk p) ∧ (Txt.split text "\n").length ≤ 1000 ∧
  (readP text = none → k (.va (.str "no text")) M) ∧ ∀ st rs, readP text = some (st, rs) → (¬ GoodG st rs → k (.va (.str "no grammar")) M) ∧ (GoodG st rs → k (.va (.str "read")) M)
/-! _law_kind -/
def t__law_kind (K : PySem.W.Frag) (E : XK) : TS :=
  (tSeq (tTryAs K (.ref (ga K "ScoreError")) 1 (fun W => tDrop (tCallS (lift K (sp_read K)) (L2.WE W) (tCons (tVar 0) tNil))) (fun a cls d => (tSeq (tIfS (tOr (tB (tCB (rIsX K a cls d) (tCons (tVar 1) (tCons (tC (.ref (ga K "NoShare"))) tNil)))) (tOr (tB (tCB (rIsX K a cls d) (tCons (tVar 1) (tCons (tC (.ref (ga K "NoEnd"))) tNil)))) (tOr (tB (tCB (rIsX K a cls d) (tCons (tVar 1) (tCons (tC (.ref (ga K "NoTree"))) tNil)))) (tNot (tB (tCB (rIsX K a cls d) (tCons (tVar 1) (tCons (tC (.ty "ValueError")) tNil))))))))
  (tRet (tC (.str "other")))
  tNext)
  (tSeq (tIfS (tTest (tOp (rEqD K) (tCB (rIsX K a cls d) (tCons (tVar 1) (tCons (tC (.ref (ga K "NoText"))) tNil))) (tCB (rIsX K a cls d) (tCons (tVar 1) (tCons (tC (.ref (ga K "NoGrammar"))) tNil)))))
  (tRet (tC (.str "both")))
  tNext)
  (tRet (tOp (rIx K) (tLst (tCons (tC (.str "no text")) (tCons (tC (.str "no grammar")) tNil))) (tCB rIntC (tCons (tCB (rIsX K a cls d) (tCons (tVar 1) (tCons (tC (.ref (ga K "NoGrammar"))) tNil))) tNil))))))) (fun _ _ _ _ => False))
  (tRet (tC (.str "read"))))
set_option maxHeartbeats 4000000 in
theorem p__law_kind {P : Program} {w : World} {K : PySem.W.Frag} {mg : Str → Option Value} {base : Heap} (T : Tx P K mg) (c_read : Cal P w K mg base "read" 38 (lift K (sp_read K))) {f : Addr} {cdv : Value} {A : Around} {outer : List Env} {s : Shared} {H : Hp} {E : XK} (hr : Room 38 (A.deeper (envOfC "_law_kind" (defScope s__law_kind) s.heap.objs.size f cdv))) :
    PSs (cxOf (L2.CX P w) P w K mg base ["_law_text", "e"] "_law_kind" (defScope s__law_kind) f cdv A outer s H E) (defBody s__law_kind) (t__law_kind K E) := by
  have hu1 := hu_of hr
  have hu := hr.units
  have hu65 := hu_65 hr
  exact (pss_cons (ps_try_as (i := 1) (tb := fun W => tDrop (tCallS (lift K (sp_read K)) (L2.WE W) (tCons (tVar 0) tNil))) (ts := fun a cls d => (tSeq (tIfS (tOr (tB (tCB (rIsX K a cls d) (tCons (tVar 1) (tCons (tC (.ref (ga K "NoShare"))) tNil)))) (tOr (tB (tCB (rIsX K a cls d) (tCons (tVar 1) (tCons (tC (.ref (ga K "NoEnd"))) tNil)))) (tOr (tB (tCB (rIsX K a cls d) (tCons (tVar 1) (tCons (tC (.ref (ga K "NoTree"))) tNil)))) (tNot (tB (tCB (rIsX K a cls d) (tCons (tVar 1) (tCons (tC (.ty "ValueError")) tNil))))))))
  (tRet (tC (.str "other")))
  tNext)
  (tSeq (tIfS (tTest (tOp (rEqD K) (tCB (rIsX K a cls d) (tCons (tVar 1) (tCons (tC (.ref (ga K "NoText"))) tNil))) (tCB (rIsX K a cls d) (tCons (tVar 1) (tCons (tC (.ref (ga K "NoGrammar"))) tNil)))))
  (tRet (tC (.str "both")))
  tNext)
  (tRet (tOp (rIx K) (tLst (tCons (tC (.str "no text")) (tCons (tC (.str "no grammar")) tNil))) (tCB rIntC (tCons (tCB (rIsX K a cls d) (tCons (tVar 1) (tCons (tC (.ref (ga K "NoGrammar"))) tNil))) tNil))))))) (Wout := fun _ _ _ _ => False) rfl rfl sc__law_kind.nd rfl rfl ⟨by rfl, by decide, .inl T.e_ScoreError.g⟩ takes0 (fun W pn xe tk _ => pss_one (ps_expr (pcallS c_read hr (by decide) (by rfl) (fun σ => passAt tk σ) (pa_cons (pv 0) pa_nil)))) (fun a oe cls d pn hz hf => (pss_cons (ps_if (PW.pt (pw_or (pt_val (pe_callB (call_isX hz hf) (by rfl) T.z_isinstance (by decide +kernel) (pa_cons (pv 1) (pa_cons (pgref T.e_NoShare.g (by rfl)) pa_nil)))) (pw_or (pt_val (pe_callB (call_isX hz hf) (by rfl) T.z_isinstance (by decide +kernel) (pa_cons (pv 1) (pa_cons (pgref T.e_NoEnd.g (by rfl)) pa_nil)))) (pw_or (pt_val (pe_callB (call_isX hz hf) (by rfl) T.z_isinstance (by decide +kernel) (pa_cons (pv 1) (pa_cons (pgref T.e_NoTree.g (by rfl)) pa_nil)))) (pw_or1 (pt_not (pt_val (pe_callB (call_isX hz hf) (by rfl) T.z_isinstance (by decide +kernel) (pa_cons (pv 1) (pa_cons (pe_bltn (by rfl) T.z_ValueError (by decide +kernel) rfl) pa_nil))))))))))
  (pss_one (ps_ret pe_str))
  pss_nil)
  (pss_cons (ps_if (pt_cmpR (op_eqD hu) (pe_callB (call_isX hz hf) (by rfl) T.z_isinstance (by decide +kernel) (pa_cons (pv 1) (pa_cons (pgref T.e_NoText.g (by rfl)) pa_nil))) (pe_callB (call_isX hz hf) (by rfl) T.z_isinstance (by decide +kernel) (pa_cons (pv 1) (pa_cons (pgref T.e_NoGrammar.g (by rfl)) pa_nil))) (nomark _))
  (pss_one (ps_ret pe_str))
  pss_nil)
  (pss_one (ps_ret (pe_ix ix_seq (pe_lst (pa_cons pe_str (pa_cons pe_str pa_nil))) (pe_callTy call_intA (by rfl) T.z_int (by decide +kernel) (pa_cons (pe_callB (call_isX hz hf) (by rfl) T.z_isinstance (by decide +kernel) (pa_cons (pv 1) (pa_cons (pgref T.e_NoGrammar.g (by rfl)) pa_nil))) pa_nil)) (fun _ _ => rfl))))))))
  (pss_one (ps_ret pe_str)))
theorem ini__law_kind {K : PySem.W.Frag} {sp : SpD} (h : ∀ as M k e, sp as M k e → ∃ a0, as = [a0] ∧ ∀ P0 E, XL K P0 E e → WS K P0 (t__law_kind K E) [some a0, none] M (fun _ M' => k (.va .none) M') k (fun _ _ => False) (fun _ _ => False)) : Keeps K ["_law_text", "e"] ["_law_text"] (t__law_kind K) sp := fun as M k e hs => by
  obtain ⟨a0, rfl, h⟩ := h as M k e hs
  exact ⟨rfl, fun P0 E hE => h P0 E hE⟩
theorem mk__law_kind {P : Program} {w : World} {K : PySem.W.Frag} {mg : Str → Option Value} {base : Heap} (T : Tx P K mg) (c_read : Cal P w K mg base "read" 38 (lift K (sp_read K))) (hv : Keeps K ["_law_text", "e"] ["_law_text"] (t__law_kind K) (sp__law_kind K)) : Cal P w K mg base "_law_kind" 39 (lift K (sp__law_kind K)) :=
  cal_mk T.d__law_kind T.f__law_kind sc__law_kind bt__law_kind (by decide) (fun cdv A outer s H E hr => p__law_kind T c_read hr) hv

theorem v__law_kind {P : Program} {K : PySem.W.Frag} {mg : Str → Option Value} (T : Tx P K mg) : Keeps K ["_law_text", "e"] ["_law_text"] (t__law_kind K) (sp__law_kind K) := by
  refine ini__law_kind ?_
  rintro as M k e ⟨text, rfl, hl, hRt, hRl, hno, hyes⟩
  refine ⟨_, rfl, fun P0 E hE => ?_⟩
  unfold t__law_kind
  refine ws_seq (ws_tryAs ?_)
  walk_at "run"
  refine ⟨text, rfl, hl, hRt, hRl, fun hr M2 hM2 => ⟨T.km_NoText_ScoreError, fun a => ?_⟩, fun st rs hr => ⟨fun hbad M2 hM2 => ⟨T.km_NoGrammar_ScoreError, fun a => ?_⟩, fun hgood M2 g hM2 _ _ => ?_⟩⟩
  · refine ws_shrink (M0 := M) hM2 ?_
    have s1 := fun (k : Sv → Mm → Prop) q => rc_isX (P0 := P0) (M := M) (k := k) (a := a) T.xc_NoText (c := .ref (ga K "NoShare")) (fun u hu => hu) T.ki_NoText_NoShare q
    have s2 := fun (k : Sv → Mm → Prop) q => rc_isX (P0 := P0) (M := M) (k := k) (a := a) T.xc_NoText (c := .ref (ga K "NoEnd")) (fun u hu => hu) T.ki_NoText_NoEnd q
    have s3 := fun (k : Sv → Mm → Prop) q => rc_isX (P0 := P0) (M := M) (k := k) (a := a) T.xc_NoText (c := .ref (ga K "NoTree")) (fun u hu => hu) T.ki_NoText_NoTree q
    have s4 := fun (k : Sv → Mm → Prop) q => rc_isX (P0 := P0) (M := M) (k := k) (a := a) T.xc_NoText (c := .ty "ValueError") (fun u hu => hu) T.ki_NoText_ValueError q
    have s5 := fun (k : Sv → Mm → Prop) q => rc_isX (P0 := P0) (M := M) (k := k) (a := a) T.xc_NoText (c := .ref (ga K "NoText")) (fun u hu => hu) T.ki_NoText_NoText q
    have s6 := fun (k : Sv → Mm → Prop) q => rc_isX (P0 := P0) (M := M) (k := k) (a := a) T.xc_NoText (c := .ref (ga K "NoGrammar")) (fun u hu => hu) T.ki_NoText_NoGrammar q
    refine ws_seq (ws_ifP (b := false || (false || (false || !true))) (tp_or (tp_B ?_) fun _ => tp_or (tp_B ?_) fun _ => tp_or (tp_B ?_) fun _ => tp_not (tp_B ?_)) (fun z => by cases z) (fun _ => ?_))
    · unfold EP1
      walk_at "run"
      exact s1 _ ⟨rfl, rfl⟩
    · unfold EP1
      walk_at "run"
      exact s2 _ ⟨rfl, rfl⟩
    · unfold EP1
      walk_at "run"
      exact s3 _ ⟨rfl, rfl⟩
    · unfold EP1
      walk_at "run"
      exact s4 _ ⟨rfl, rfl⟩
    refine ws_next (ws_seq (ws_ifP (b := false) (tp_test ?_) (fun z => by cases z) (fun _ => ?_)))
    · unfold EP1
      walk_at "run"
      refine s5 _ ?_
      walk_at "run"
      refine s6 _ ?_
      exact r2_eqD (DR.sh _) (DR.sh _) rfl rfl ⟨rfl, rfl⟩
    refine ws_next (ws_ret (we_op (we_lstV ?_)))
    walk_at "run"
    refine ⟨[.str "no text", .str "no grammar"], rfl, by simp, ?_⟩
    walk_at "run"
    refine s6 _ ?_
    walk_at "run"
    refine rc_intB ?_
    exact r2_ixL (RL.sh _) (i := ((0 : Nat) : Int)) (atI_nat rfl) (hno hr)
  · refine ws_shrink (M0 := M) hM2 ?_
    have s1 := fun (k : Sv → Mm → Prop) q => rc_isX (P0 := P0) (M := M) (k := k) (a := a) T.xc_NoGrammar (c := .ref (ga K "NoShare")) (fun u hu => hu) T.ki_NoGrammar_NoShare q
    have s2 := fun (k : Sv → Mm → Prop) q => rc_isX (P0 := P0) (M := M) (k := k) (a := a) T.xc_NoGrammar (c := .ref (ga K "NoEnd")) (fun u hu => hu) T.ki_NoGrammar_NoEnd q
    have s3 := fun (k : Sv → Mm → Prop) q => rc_isX (P0 := P0) (M := M) (k := k) (a := a) T.xc_NoGrammar (c := .ref (ga K "NoTree")) (fun u hu => hu) T.ki_NoGrammar_NoTree q
    have s4 := fun (k : Sv → Mm → Prop) q => rc_isX (P0 := P0) (M := M) (k := k) (a := a) T.xc_NoGrammar (c := .ty "ValueError") (fun u hu => hu) T.ki_NoGrammar_ValueError q
    have s5 := fun (k : Sv → Mm → Prop) q => rc_isX (P0 := P0) (M := M) (k := k) (a := a) T.xc_NoGrammar (c := .ref (ga K "NoText")) (fun u hu => hu) T.ki_NoGrammar_NoText q
    have s6 := fun (k : Sv → Mm → Prop) q => rc_isX (P0 := P0) (M := M) (k := k) (a := a) T.xc_NoGrammar (c := .ref (ga K "NoGrammar")) (fun u hu => hu) T.ki_NoGrammar_NoGrammar q
    refine ws_seq (ws_ifP (b := false || (false || (false || !true))) (tp_or (tp_B ?_) fun _ => tp_or (tp_B ?_) fun _ => tp_or (tp_B ?_) fun _ => tp_not (tp_B ?_)) (fun z => by cases z) (fun _ => ?_))
    · unfold EP1
      walk_at "run"
      exact s1 _ ⟨rfl, rfl⟩
    · unfold EP1
      walk_at "run"
      exact s2 _ ⟨rfl, rfl⟩
    · unfold EP1
      walk_at "run"
      exact s3 _ ⟨rfl, rfl⟩
    · unfold EP1
      walk_at "run"
      exact s4 _ ⟨rfl, rfl⟩
    refine ws_next (ws_seq (ws_ifP (b := false) (tp_test ?_) (fun z => by cases z) (fun _ => ?_)))
    · unfold EP1
      walk_at "run"
      refine s5 _ ?_
      walk_at "run"
      refine s6 _ ?_
      exact r2_eqD (DR.sh _) (DR.sh _) rfl rfl ⟨rfl, rfl⟩
    refine ws_next (ws_ret (we_op (we_lstV ?_)))
    walk_at "run"
    refine ⟨[.str "no text", .str "no grammar"], rfl, by simp, ?_⟩
    walk_at "run"
    refine s6 _ ?_
    walk_at "run"
    refine rc_intB ?_
    exact r2_ixL (RL.sh _) (i := ((1 : Nat) : Int)) (atI_nat rfl) ((hyes st rs hr).1 hbad)
  · refine ws_shrink (M0 := M) hM2 ?_
    walk_at "run"
    exact (hyes st rs hr).2 hgood

/-! a row that is another one -/
section
variable {K : PySem.W.Frag} {P0 : Ent} {G : Gm} {M : Mm} {nx : Gm → Mm → Prop} {rt : Sv → Mm → Prop} {bk ct : Gm → Mm → Prop}
theorem ws_g {t : TS} {G' : Gm} (e : G = G') (h : WS K P0 t G' M nx rt bk ct) : WS K P0 t G M nx rt bk ct := e ▸ h
def SB (K : PySem.W.Frag) (P0 : Ent) (k : Nat) (t : TE) (G : Gm) (M : Mm) (x : Str) : Prop := EP1 K P0 t G M (.va (.str x)) ∧ x.length ≤ 300 * 2 ^ k
theorem cut_ok {x : Str} {lo hi : Option Int} (hl : x.length ≤ 100000) : RSD K P0 (rSlX K) (.va (.str x)) lo hi M fun s' M' => s' = .va (.str (cutS x lo hi)) ∧ M' = M := rs_S hl ⟨rfl, rfl⟩
theorem sb_leaf {k : Nat} {t : TE} {x : Str} (h : EP1 K P0 t G M (.va (.str x))) (hl : x.length ≤ 300) : SB K P0 k t G M x := ⟨h, Nat.le_trans hl (Nat.le_mul_of_pos_right _ (Nat.two_pow_pos _))⟩
theorem sb_lit {k : Nat} {x : Str} (hl : x.length ≤ 300) : SB K P0 k (tC (.str x)) G M x := sb_leaf (we_str ⟨rfl, rfl⟩) hl
theorem sb_var {k i : Nat} {x : Str} (h : G[i]? = some (some (.va (.str x)))) (hl : x.length ≤ 300) : SB K P0 k (tVar i) G M x := sb_leaf (we_var h ⟨rfl, rfl⟩) hl
theorem sb_add {k : Nat} {ta tb : TE} {x y : Str} (h1 : SB K P0 k ta G M x) (h2 : SB K P0 k tb G M y) (hk : 600 * 2 ^ k ≤ 100000) : SB K P0 (k + 1) (tOp (rAddA K) ta tb) G M (x ++ y) := by
  have a1 := h1.2
  have a2 := h2.2
  refine ⟨we_op (we_P h1.1 (we_P h2.1 (r2_addS (by omega) ⟨rfl, rfl⟩))), ?_⟩
  rw [len_app, Nat.pow_succ]
  omega
/-- triples of a row -/
def TQ (K : PySem.W.Frag) (P0 : Ent) (ta : TA) (G : Gm) (M : Mm) (l : List (Int × Str × Int)) : Prop := WA K P0 ta G M fun ss M' => ss = (l.map triD).map Sv.va ∧ M' = M
theorem tq_nil : TQ K P0 tNil G M [] := wa_nil ⟨rfl, rfl⟩
theorem wa_mono {ta : TA} {k k' : List Sv → Mm → Prop} (h : WA K P0 ta G M k) (hk : ∀ ss M', k ss M' → k' ss M') : WA K P0 ta G M k' := fun σ Hs H S L Q c => h σ Hs H S L Q fun Hs' H' ss vs M' S' x r q => c Hs' H' ss vs M' S' x r (hk _ _ q)
theorem tq_cons {a b : Int} {t : TE} {ta : TA} {x : Str} {l : List (Int × Str × Int)} (h : SB K P0 6 t G M x) (r : TQ K P0 ta G M l) : TQ K P0 (tCons (tTup (tCons (tC (.int a)) (tCons t (tCons (tC (.int b)) tNil)))) ta) G M ((a, x, b) :: l) := by
  refine wa_cons (we_tup (wa_cons (we_int (wa_cons (we_P h.1 (wa_cons (we_int (wa_nil ⟨[.int a, .str x, .int b], rfl, by simp, ?_⟩)))))))) 
  refine wa_mono r ?_
  rintro ss M' ⟨rfl, rfl⟩
  exact ⟨rfl, rfl⟩
theorem odd_first {z0 z1 z2 z3 z4 z5 z6 : Option Sv} {ta : TA} {l : List (Int × Str × Int)} (h : TQ K P0 ta [z0, z1, z2, z3, z4, z5, z6] M l) (hl : l.length ≤ 1000) (q : nx [z0, z1, z2, z3, z4, z5, some (.va (.list (l.map triD)))] M) :
    WS K P0 (tAsg (tLst ta) (gName 6)) [z0, z1, z2, z3, z4, z5, z6] M nx rt bk ct := by
  refine ws_asg (we_lstV (wa_mono h ?_))
  rintro ss M' ⟨rfl, rfl⟩
  exact ⟨_, rfl, by rw [List.length_map]; omega, q⟩
theorem odd_more {z0 z1 z2 z3 z4 z5 : Option Sv} {ta : TA} {l1 l2 : List (Int × Str × Int)} (h : TQ K P0 ta [z0, z1, z2, z3, z4, z5, some (.va (.list (l1.map triD)))] M l2) (hl1 : l1.length ≤ 1000) (hl2 : l2.length ≤ 1000) (q : nx [z0, z1, z2, z3, z4, z5, some (.va (.list ((l1 ++ l2).map triD)))] M) :
    WS K P0 (tAsg (tOp (rAddA K) (tVar 6) (tLst ta)) (gName 6)) [z0, z1, z2, z3, z4, z5, some (.va (.list (l1.map triD)))] M nx rt bk ct := by
  refine ws_asg (we_op (we_var rfl (we_lstV (wa_mono h ?_))))
  rintro ss M' ⟨rfl, rfl⟩
  refine ⟨_, rfl, by rw [List.length_map]; omega, r2_addLv (RL.sh _) (RL.sh _) (by rw [List.length_map, List.length_map]; omega) ?_⟩
  rw [← List.map_append]
  exact q
end
def sp__law_odd (_ : PySem.W.Frag) : SpD := fun as M k _ => ∃ (A w n : Str) (q : Rat) (c : Int), as = [.va (strsD [A, w, n]), .va (shD q), .va (.int c)] ∧ 0 ≤ q ∧ q.num < 10 ^ 60 ∧ q.den < 10 ^ 60 ∧ A.length ≤ 8 ∧ w.length ≤ 8 ∧ n.length ≤ 8 ∧ ∀ t, t ∈ oddL A w n (toldS q) → k (.va (triD t)) M
/-! _law_odd -/
def t__law_odd (K : PySem.W.Frag) (E : XK) : TS :=
  (tSeq (tAsg (tOp (rIx K) (tVar 0) (tC (.int 0))) (gName 3))
  (tSeq (tAsg (tOp (rIx K) (tVar 0) (tC (.int 1))) (gName 4))
  (tSeq (tAsg (tOp (rAddA K) (tOp (rAddA K) (tOp (rAddA K) (tCB rStrC (tCons (tOp (rIx K) (tVar 1) (tC (.int 0))) tNil)) (tC (.str "/"))) (tCB rStrC (tCons (tOp (rIx K) (tVar 1) (tC (.int 1))) tNil))) (tC (.str ": "))) (gName 5))
  (tSeq (tAsg (tLst (tCons (tTup (tCons (tC (.int 0)) (tCons (tOp (rAddA K) (tC (.str "begin ")) (tVar 3)) (tCons (tC (.int 0)) tNil)))) (tCons (tTup (tCons (tC (.int 0)) (tCons (tC (.str "start")) (tCons (tC (.int 0)) tNil)))) tNil))) (gName 6))
  (tSeq (tAsg (tOp (rAddA K) (tVar 6) (tLst (tCons (tTup (tCons (tC (.int 0)) (tCons (tOp (rAddA K) (tC (.str "start  ")) (tVar 3)) (tCons (tC (.int 0)) tNil)))) (tCons (tTup (tCons (tC (.int 0)) (tCons (tOp (rAddA K) (tOp (rAddA K) (tC (.str "start ")) (tVar 3)) (tC (.str " "))) (tCons (tC (.int 0)) tNil)))) tNil)))) (gName 6))
  (tSeq (tAsg (tOp (rAddA K) (tVar 6) (tLst (tCons (tTup (tCons (tC (.int 0)) (tCons (tC (.str "start a1")) (tCons (tC (.int 0)) tNil)))) (tCons (tTup (tCons (tC (.int 0)) (tCons (tOp (rAddA K) (tC (.str "Start ")) (tVar 3)) (tCons (tC (.int 0)) tNil)))) tNil)))) (gName 6))
  (tSeq (tAsg (tOp (rAddA K) (tVar 6) (tLst (tCons (tTup (tCons (tC (.int 1)) (tCons (tOp (rAddA K) (tOp (rAddA K) (tOp (rAddA K) (tOp (rAddA K) (tVar 3) (tC (.str " "))) (tSl (rSlX K) (tVar 5) tNoPart (tPart (tUn (rU fun i => .int (-i)) (tC (.int 2)))))) (tC (.str " "))) (tVar 4)) (tCons (tC (.int 0)) tNil)))) (tCons (tTup (tCons (tC (.int 1)) (tCons (tOp (rAddA K) (tOp (rAddA K) (tOp (rAddA K) (tVar 3) (tC (.str "  "))) (tVar 5)) (tVar 4)) (tCons (tC (.int 0)) tNil)))) tNil)))) (gName 6))
  (tSeq (tAsg (tOp (rAddA K) (tVar 6) (tLst (tCons (tTup (tCons (tC (.int 1)) (tCons (tOp (rAddA K) (tOp (rAddA K) (tVar 3) (tC (.str " "))) (tVar 5)) (tCons (tC (.int 0)) tNil)))) (tCons (tTup (tCons (tC (.int 1)) (tCons (tOp (rAddA K) (tOp (rAddA K) (tOp (rAddA K) (tOp (rAddA K) (tVar 3) (tC (.str " "))) (tVar 5)) (tVar 4)) (tC (.str " "))) (tCons (tC (.int 0)) tNil)))) tNil)))) (gName 6))
  (tSeq (tAsg (tOp (rAddA K) (tVar 6) (tLst (tCons (tTup (tCons (tC (.int 1)) (tCons (tOp (rAddA K) (tOp (rAddA K) (tOp (rAddA K) (tOp (rAddA K) (tVar 3) (tC (.str " "))) (tVar 5)) (tC (.str " "))) (tVar 4)) (tCons (tC (.int 0)) tNil)))) (tCons (tTup (tCons (tC (.int 1)) (tCons (tOp (rAddA K) (tOp (rAddA K) (tOp (rAddA K) (tVar 3) (tC (.str " "))) (tVar 5)) (tC (.str "a1"))) (tCons (tC (.int 0)) tNil)))) tNil)))) (gName 6))
  (tSeq (tAsg (tOp (rAddA K) (tVar 6) (tLst (tCons (tTup (tCons (tC (.int 1)) (tCons (tC (.str "")) (tCons (tC (.int 0)) tNil)))) (tCons (tTup (tCons (tC (.int 1)) (tCons (tOp (rAddA K) (tOp (rAddA K) (tOp (rAddA K) (tVar 3) (tC (.str " 0"))) (tVar 5)) (tVar 4)) (tCons (tC (.int 0)) tNil)))) tNil)))) (gName 6))
  (tSeq (tAsg (tOp (rAddA K) (tVar 6) (tLst (tCons (tTup (tCons (tC (.int 1)) (tCons (tOp (rAddA K) (tOp (rAddA K) (tVar 3) (tC (.str " 0/1: "))) (tVar 4)) (tCons (tC (.int 0)) tNil)))) (tCons (tTup (tCons (tC (.int 1)) (tCons (tOp (rAddA K) (tOp (rAddA K) (tVar 3) (tC (.str " 2/4: "))) (tVar 4)) (tCons (tC (.int 0)) tNil)))) tNil)))) (gName 6))
  (tSeq (tAsg (tOp (rAddA K) (tVar 6) (tLst (tCons (tTup (tCons (tC (.int 1)) (tCons (tOp (rAddA K) (tOp (rAddA K) (tOp (rAddA K) (tOp (rAddA K) (tVar 3) (tC (.str " 1/"))) (tOp (rMulX K) (tC (.str "1")) (tC (.int 61)))) (tC (.str ": "))) (tVar 4)) (tCons (tC (.int 0)) tNil)))) (tCons (tTup (tCons (tC (.int 1)) (tCons (tOp (rAddA K) (tOp (rAddA K) (tOp (rAddA K) (tVar 3) (tC (.str " -"))) (tVar 5)) (tVar 4)) (tCons (tC (.int 0)) tNil)))) tNil)))) (gName 6))
  (tSeq (tAsg (tOp (rAddA K) (tVar 6) (tLst (tCons (tTup (tCons (tC (.int 1)) (tCons (tOp (rAddA K) (tOp (rAddA K) (tOp (rAddA K) (tVar 3) (tC (.str " +"))) (tVar 5)) (tVar 4)) (tCons (tC (.int 0)) tNil)))) (tCons (tTup (tCons (tC (.int 1)) (tCons (tOp (rAddA K) (tOp (rAddA K) (tVar 3) (tC (.str " 1: "))) (tVar 4)) (tCons (tC (.int 0)) tNil)))) tNil)))) (gName 6))
  (tSeq (tAsg (tOp (rAddA K) (tVar 6) (tLst (tCons (tTup (tCons (tC (.int 1)) (tCons (tOp (rAddA K) (tOp (rAddA K) (tVar 3) (tC (.str " 1/2/3: "))) (tVar 4)) (tCons (tC (.int 0)) tNil)))) (tCons (tTup (tCons (tC (.int 1)) (tCons (tOp (rAddA K) (tOp (rAddA K) (tOp (rAddA K) (tOp (rAddA K) (tVar 3) (tC (.str " "))) (tVar 5)) (tOp (rMulX K) (tOp (rAddA K) (tVar 4) (tC (.str " "))) (tC (.int 4)))) (tVar 4)) (tCons (tC (.int 0)) tNil)))) tNil)))) (gName 6))
  (tSeq (tAsg (tOp (rAddA K) (tVar 6) (tLst (tCons (tTup (tCons (tC (.int 1)) (tCons (tOp (rAddA K) (tOp (rAddA K) (tOp (rAddA K) (tOp (rAddA K) (tC (.str " ")) (tVar 3)) (tC (.str " "))) (tVar 5)) (tVar 4)) (tCons (tC (.int 0)) tNil)))) (tCons (tTup (tCons (tC (.int 1)) (tCons (tOp (rAddA K) (tOp (rAddA K) (tVar 3) (tC (.str " 1/1000: "))) (tVar 4)) (tCons (tC (.int 1)) tNil)))) tNil)))) (gName 6))
  (tSeq (tAsg (tOp (rAddA K) (tVar 6) (tLst (tCons (tTup (tCons (tC (.int 0)) (tCons (tOp (rAddA K) (tC (.str "start ")) (tOp (rIx K) (tVar 0) (tC (.int 2)))) (tCons (tC (.int 1)) tNil)))) (tCons (tTup (tCons (tC (.int 2)) (tCons (tC (.str "")) (tCons (tC (.int 2)) tNil)))) tNil)))) (gName 6))
  (tSeq (tAsg (tOp (rAddA K) (tVar 6) (tLst (tCons (tTup (tCons (tC (.int 2)) (tCons (tC (.str "")) (tCons (tC (.int 3)) tNil)))) tNil))) (gName 6))
  (tSeq (tAsg (tOp (rAddA K) (tVar 6) (tLst (tCons (tTup (tCons (tC (.int 1)) (tCons (tOp (rAddA K) (tOp (rAddA K) (tVar 3) (tC (.str " 99/100: "))) (tVar 4)) (tCons (tC (.int 1)) tNil)))) (tCons (tTup (tCons (tC (.int 1)) (tCons (tOp (rAddA K) (tOp (rAddA K) (tVar 3) (tC (.str " 1_0/11: "))) (tVar 4)) (tCons (tC (.int 0)) tNil)))) (tCons (tTup (tCons (tC (.int 1)) (tCons (tOp (rAddA K) (tOp (rAddA K) (tC (.str "a1 ")) (tVar 5)) (tVar 4)) (tCons (tC (.int 0)) tNil)))) tNil))))) (gName 6))
  (tSeq (tAsg (tOp (rAddA K) (tVar 6) (tLst (tCons (tTup (tCons (tC (.int 1)) (tCons (tOp (rAddA K) (tOp (rAddA K) (tOp (rAddA K) (tVar 3) (tC (.str " "))) (tSl (rSlX K) (tVar 5) tNoPart (tPart (tUn (rU fun i => .int (-i)) (tC (.int 1)))))) (tVar 4)) (tCons (tC (.int 0)) tNil)))) (tCons (tTup (tCons (tC (.int 1)) (tCons (tOp (rAddA K) (tOp (rAddA K) (tOp (rAddA K) (tOp (rAddA K) (tVar 3) (tC (.str " 1/"))) (tC (.str "0"))) (tC (.str ": "))) (tVar 4)) (tCons (tC (.int 0)) tNil)))) tNil)))) (gName 6))
  (tSeq (tAsg (tOp (rAddA K) (tVar 6) (tLst (tCons (tTup (tCons (tC (.int 0)) (tCons (tOp (rAddA K) (tC (.str "\nstart ")) (tVar 3)) (tCons (tC (.int 0)) tNil)))) (tCons (tTup (tCons (tC (.int 0)) (tCons (tOp (rAddA K) (tC (.str " start ")) (tVar 3)) (tCons (tC (.int 0)) tNil)))) (tCons (tTup (tCons (tC (.int 2)) (tCons (tC (.str "")) (tCons (tC (.int 4)) tNil)))) (tCons (tTup (tCons (tC (.int 2)) (tCons (tC (.str "")) (tCons (tC (.int 5)) tNil)))) (tCons (tTup (tCons (tC (.int 2)) (tCons (tC (.str "")) (tCons (tC (.int 6)) tNil)))) tNil))))))) (gName 6))
  (tRet (tOp (rIx K) (tVar 6) (tOp rModN (tVar 2) (tCB (rLenC K) (tCons (tVar 6) tNil)))))))))))))))))))))))))
set_option maxHeartbeats 4000000 in
theorem p__law_odd {P : Program} {w : World} {K : PySem.W.Frag} {mg : Str → Option Value} {base : Heap} (T : Tx P K mg) {f : Addr} {cdv : Value} {A : Around} {outer : List Env} {s : Shared} {H : Hp} {E : XK} (hr : Room 0 (A.deeper (envOfC "_law_odd" (defScope s__law_odd) s.heap.objs.size f cdv))) :
    PSs (cxOf (L2.CX P w) P w K mg base ["_law_names", "_law_own", "_law_cell", "_law_head", "_law_word", "_law_told", "_law_some"] "_law_odd" (defScope s__law_odd) f cdv A outer s H E) (defBody s__law_odd) (t__law_odd K E) := by
  have hu1 := hu_of hr
  have hu := hr.units
  have hu65 := hu_65 hr
  exact (pss_cons (ps_set (i := 3) sc__law_odd.nd rfl (by first | exact Or.inl rfl | exact Or.inr rfl) (pe_ix ix_seq (pv 0) pe_int (fun _ _ => rfl)))
  (pss_cons (ps_set (i := 4) sc__law_odd.nd rfl (by first | exact Or.inl rfl | exact Or.inr rfl) (pe_ix ix_seq (pv 0) pe_int (fun _ _ => rfl)))
  (pss_cons (ps_set (i := 5) sc__law_odd.nd rfl (by first | exact Or.inl rfl | exact Or.inr rfl) (pe_op op_addA (pe_op op_addA (pe_op op_addA (pe_callTy call_str_int (by rfl) T.z_str (by decide +kernel) (pa_cons (pe_ix ix_seq (pv 1) pe_int (fun _ _ => rfl)) pa_nil)) pe_str) (pe_callTy call_str_int (by rfl) T.z_str (by decide +kernel) (pa_cons (pe_ix ix_seq (pv 1) pe_int (fun _ _ => rfl)) pa_nil))) pe_str))
  (pss_cons (ps_set (i := 6) sc__law_odd.nd rfl (by first | exact Or.inl rfl | exact Or.inr rfl) (pe_lst (pa_cons (pe_tup (pa_cons pe_int (pa_cons (pe_op op_addA pe_str (pv 3)) (pa_cons pe_int pa_nil)))) (pa_cons (pe_tup (pa_cons pe_int (pa_cons pe_str (pa_cons pe_int pa_nil)))) pa_nil))))
  (pss_cons (ps_set (i := 6) sc__law_odd.nd rfl (by first | exact Or.inl rfl | exact Or.inr rfl) (pe_op op_addA (pv 6) (pe_lst (pa_cons (pe_tup (pa_cons pe_int (pa_cons (pe_op op_addA pe_str (pv 3)) (pa_cons pe_int pa_nil)))) (pa_cons (pe_tup (pa_cons pe_int (pa_cons (pe_op op_addA (pe_op op_addA pe_str (pv 3)) pe_str) (pa_cons pe_int pa_nil)))) pa_nil)))))
  (pss_cons (ps_set (i := 6) sc__law_odd.nd rfl (by first | exact Or.inl rfl | exact Or.inr rfl) (pe_op op_addA (pv 6) (pe_lst (pa_cons (pe_tup (pa_cons pe_int (pa_cons pe_str (pa_cons pe_int pa_nil)))) (pa_cons (pe_tup (pa_cons pe_int (pa_cons (pe_op op_addA pe_str (pv 3)) (pa_cons pe_int pa_nil)))) pa_nil)))))
  (pss_cons (ps_set (i := 6) sc__law_odd.nd rfl (by first | exact Or.inl rfl | exact Or.inr rfl) (pe_op op_addA (pv 6) (pe_lst (pa_cons (pe_tup (pa_cons pe_int (pa_cons (pe_op op_addA (pe_op op_addA (pe_op op_addA (pe_op op_addA (pv 3) pe_str) (pe_slice sl_X (pv 5) po_none (po_some (pe_un un_neg pe_int)))) pe_str) (pv 4)) (pa_cons pe_int pa_nil)))) (pa_cons (pe_tup (pa_cons pe_int (pa_cons (pe_op op_addA (pe_op op_addA (pe_op op_addA (pv 3) pe_str) (pv 5)) (pv 4)) (pa_cons pe_int pa_nil)))) pa_nil)))))
  (pss_cons (ps_set (i := 6) sc__law_odd.nd rfl (by first | exact Or.inl rfl | exact Or.inr rfl) (pe_op op_addA (pv 6) (pe_lst (pa_cons (pe_tup (pa_cons pe_int (pa_cons (pe_op op_addA (pe_op op_addA (pv 3) pe_str) (pv 5)) (pa_cons pe_int pa_nil)))) (pa_cons (pe_tup (pa_cons pe_int (pa_cons (pe_op op_addA (pe_op op_addA (pe_op op_addA (pe_op op_addA (pv 3) pe_str) (pv 5)) (pv 4)) pe_str) (pa_cons pe_int pa_nil)))) pa_nil)))))
  (pss_cons (ps_set (i := 6) sc__law_odd.nd rfl (by first | exact Or.inl rfl | exact Or.inr rfl) (pe_op op_addA (pv 6) (pe_lst (pa_cons (pe_tup (pa_cons pe_int (pa_cons (pe_op op_addA (pe_op op_addA (pe_op op_addA (pe_op op_addA (pv 3) pe_str) (pv 5)) pe_str) (pv 4)) (pa_cons pe_int pa_nil)))) (pa_cons (pe_tup (pa_cons pe_int (pa_cons (pe_op op_addA (pe_op op_addA (pe_op op_addA (pv 3) pe_str) (pv 5)) pe_str) (pa_cons pe_int pa_nil)))) pa_nil)))))
  (pss_cons (ps_set (i := 6) sc__law_odd.nd rfl (by first | exact Or.inl rfl | exact Or.inr rfl) (pe_op op_addA (pv 6) (pe_lst (pa_cons (pe_tup (pa_cons pe_int (pa_cons pe_str (pa_cons pe_int pa_nil)))) (pa_cons (pe_tup (pa_cons pe_int (pa_cons (pe_op op_addA (pe_op op_addA (pe_op op_addA (pv 3) pe_str) (pv 5)) (pv 4)) (pa_cons pe_int pa_nil)))) pa_nil)))))
  (pss_cons (ps_set (i := 6) sc__law_odd.nd rfl (by first | exact Or.inl rfl | exact Or.inr rfl) (pe_op op_addA (pv 6) (pe_lst (pa_cons (pe_tup (pa_cons pe_int (pa_cons (pe_op op_addA (pe_op op_addA (pv 3) pe_str) (pv 4)) (pa_cons pe_int pa_nil)))) (pa_cons (pe_tup (pa_cons pe_int (pa_cons (pe_op op_addA (pe_op op_addA (pv 3) pe_str) (pv 4)) (pa_cons pe_int pa_nil)))) pa_nil)))))
  (pss_cons (ps_set (i := 6) sc__law_odd.nd rfl (by first | exact Or.inl rfl | exact Or.inr rfl) (pe_op op_addA (pv 6) (pe_lst (pa_cons (pe_tup (pa_cons pe_int (pa_cons (pe_op op_addA (pe_op op_addA (pe_op op_addA (pe_op op_addA (pv 3) pe_str) (pe_op op_mulX pe_str pe_int)) pe_str) (pv 4)) (pa_cons pe_int pa_nil)))) (pa_cons (pe_tup (pa_cons pe_int (pa_cons (pe_op op_addA (pe_op op_addA (pe_op op_addA (pv 3) pe_str) (pv 5)) (pv 4)) (pa_cons pe_int pa_nil)))) pa_nil)))))
  (pss_cons (ps_set (i := 6) sc__law_odd.nd rfl (by first | exact Or.inl rfl | exact Or.inr rfl) (pe_op op_addA (pv 6) (pe_lst (pa_cons (pe_tup (pa_cons pe_int (pa_cons (pe_op op_addA (pe_op op_addA (pe_op op_addA (pv 3) pe_str) (pv 5)) (pv 4)) (pa_cons pe_int pa_nil)))) (pa_cons (pe_tup (pa_cons pe_int (pa_cons (pe_op op_addA (pe_op op_addA (pv 3) pe_str) (pv 4)) (pa_cons pe_int pa_nil)))) pa_nil)))))
  (pss_cons (ps_set (i := 6) sc__law_odd.nd rfl (by first | exact Or.inl rfl | exact Or.inr rfl) (pe_op op_addA (pv 6) (pe_lst (pa_cons (pe_tup (pa_cons pe_int (pa_cons (pe_op op_addA (pe_op op_addA (pv 3) pe_str) (pv 4)) (pa_cons pe_int pa_nil)))) (pa_cons (pe_tup (pa_cons pe_int (pa_cons (pe_op op_addA (pe_op op_addA (pe_op op_addA (pe_op op_addA (pv 3) pe_str) (pv 5)) (pe_op op_mulX (pe_op op_addA (pv 4) pe_str) pe_int)) (pv 4)) (pa_cons pe_int pa_nil)))) pa_nil)))))
  (pss_cons (ps_set (i := 6) sc__law_odd.nd rfl (by first | exact Or.inl rfl | exact Or.inr rfl) (pe_op op_addA (pv 6) (pe_lst (pa_cons (pe_tup (pa_cons pe_int (pa_cons (pe_op op_addA (pe_op op_addA (pe_op op_addA (pe_op op_addA pe_str (pv 3)) pe_str) (pv 5)) (pv 4)) (pa_cons pe_int pa_nil)))) (pa_cons (pe_tup (pa_cons pe_int (pa_cons (pe_op op_addA (pe_op op_addA (pv 3) pe_str) (pv 4)) (pa_cons pe_int pa_nil)))) pa_nil)))))
  (pss_cons (ps_set (i := 6) sc__law_odd.nd rfl (by first | exact Or.inl rfl | exact Or.inr rfl) (pe_op op_addA (pv 6) (pe_lst (pa_cons (pe_tup (pa_cons pe_int (pa_cons (pe_op op_addA pe_str (pe_ix ix_seq (pv 0) pe_int (fun _ _ => rfl))) (pa_cons pe_int pa_nil)))) (pa_cons (pe_tup (pa_cons pe_int (pa_cons pe_str (pa_cons pe_int pa_nil)))) pa_nil)))))
  (pss_cons (ps_set (i := 6) sc__law_odd.nd rfl (by first | exact Or.inl rfl | exact Or.inr rfl) (pe_op op_addA (pv 6) (pe_lst (pa_cons (pe_tup (pa_cons pe_int (pa_cons pe_str (pa_cons pe_int pa_nil)))) pa_nil))))
  (pss_cons (ps_set (i := 6) sc__law_odd.nd rfl (by first | exact Or.inl rfl | exact Or.inr rfl) (pe_op op_addA (pv 6) (pe_lst (pa_cons (pe_tup (pa_cons pe_int (pa_cons (pe_op op_addA (pe_op op_addA (pv 3) pe_str) (pv 4)) (pa_cons pe_int pa_nil)))) (pa_cons (pe_tup (pa_cons pe_int (pa_cons (pe_op op_addA (pe_op op_addA (pv 3) pe_str) (pv 4)) (pa_cons pe_int pa_nil)))) (pa_cons (pe_tup (pa_cons pe_int (pa_cons (pe_op op_addA (pe_op op_addA pe_str (pv 5)) (pv 4)) (pa_cons pe_int pa_nil)))) pa_nil))))))
  (pss_cons (ps_set (i := 6) sc__law_odd.nd rfl (by first | exact Or.inl rfl | exact Or.inr rfl) (pe_op op_addA (pv 6) (pe_lst (pa_cons (pe_tup (pa_cons pe_int (pa_cons (pe_op op_addA (pe_op op_addA (pe_op op_addA (pv 3) pe_str) (pe_slice sl_X (pv 5) po_none (po_some (pe_un un_neg pe_int)))) (pv 4)) (pa_cons pe_int pa_nil)))) (pa_cons (pe_tup (pa_cons pe_int (pa_cons (pe_op op_addA (pe_op op_addA (pe_op op_addA (pe_op op_addA (pv 3) pe_str) pe_str) pe_str) (pv 4)) (pa_cons pe_int pa_nil)))) pa_nil)))))
  (pss_cons (ps_set (i := 6) sc__law_odd.nd rfl (by first | exact Or.inl rfl | exact Or.inr rfl) (pe_op op_addA (pv 6) (pe_lst (pa_cons (pe_tup (pa_cons pe_int (pa_cons (pe_op op_addA pe_str (pv 3)) (pa_cons pe_int pa_nil)))) (pa_cons (pe_tup (pa_cons pe_int (pa_cons (pe_op op_addA pe_str (pv 3)) (pa_cons pe_int pa_nil)))) (pa_cons (pe_tup (pa_cons pe_int (pa_cons pe_str (pa_cons pe_int pa_nil)))) (pa_cons (pe_tup (pa_cons pe_int (pa_cons pe_str (pa_cons pe_int pa_nil)))) (pa_cons (pe_tup (pa_cons pe_int (pa_cons pe_str (pa_cons pe_int pa_nil)))) pa_nil))))))))
  (pss_one (ps_ret (pe_ix ix_seq (pv 6) (pe_op op_modN (pv 2) (pe_callB call_len (by rfl) T.z_len (by decide +kernel) (pa_cons (pv 6) pa_nil))) (fun _ _ => rfl))))))))))))))))))))))))
theorem ini__law_odd {K : PySem.W.Frag} {sp : SpD} (h : ∀ as M k e, sp as M k e → ∃ a0 a1 a2, as = [a0, a1, a2] ∧ ∀ P0 E, XL K P0 E e → WS K P0 (t__law_odd K E) [some a0, some a1, some a2, none, none, none, none] M (fun _ M' => k (.va .none) M') k (fun _ _ => False) (fun _ _ => False)) : Keeps K ["_law_names", "_law_own", "_law_cell", "_law_head", "_law_word", "_law_told", "_law_some"] ["_law_names", "_law_own", "_law_cell"] (t__law_odd K) sp := fun as M k e hs => by
  obtain ⟨a0, a1, a2, rfl, h⟩ := h as M k e hs
  exact ⟨rfl, fun P0 E hE => h P0 E hE⟩
theorem mk__law_odd {P : Program} {w : World} {K : PySem.W.Frag} {mg : Str → Option Value} {base : Heap} (T : Tx P K mg) (hv : Keeps K ["_law_names", "_law_own", "_law_cell", "_law_head", "_law_word", "_law_told", "_law_some"] ["_law_names", "_law_own", "_law_cell"] (t__law_odd K) (sp__law_odd K)) : Cal P w K mg base "_law_odd" 1 (lift K (sp__law_odd K)) :=
  cal_mk T.d__law_odd T.f__law_odd sc__law_odd bt__law_odd (by decide) (fun cdv A outer s H E hr => p__law_odd T  hr) hv

set_option maxHeartbeats 4000000 in
theorem v__law_odd {K : PySem.W.Frag} : Keeps K ["_law_names", "_law_own", "_law_cell", "_law_head", "_law_word", "_law_told", "_law_some"] ["_law_names", "_law_own", "_law_cell"] (t__law_odd K) (sp__law_odd K) := by
  refine ini__law_odd ?_
  rintro as M k e ⟨A, w, n, q, c, rfl, q0, qn, qd, hA, hw, hn, hk⟩
  refine ⟨_, _, _, rfl, fun P0 E hE => ?_⟩
  unfold t__law_odd
  walk_at "run"
  refine r2_ixL (RL.sh _) (i := ((0 : Nat) : Int)) (atI_nat rfl) ?_
  walk_at "run"
  refine r2_ixL (RL.sh _) (i := ((1 : Nat) : Int)) (atI_nat rfl) ?_
  walk_at "run"
  obtain ⟨nn, hnn⟩ := Int.eq_ofNat_of_zero_le (Rat.num_nonneg.mpr q0)
  have etold : toldS q = numS q.num ++ "/" ++ numS (q.den : Int) ++ ": " := rfl
  have log2 : ∀ m : Nat, m < 10 ^ 60 → m.log2 < 1920 := fun m hm => by
    by_cases q : m = 0
    · subst q; decide
    · refine (Nat.log2_lt q).mpr (Nat.lt_of_lt_of_le hm ?_)
      exact Nat.le_trans (show 10 ^ 60 ≤ 2 ^ 200 by decide) (Nat.pow_le_pow_right (by decide) (by decide))
  have l0 : (Str.ofString "/").length ≤ 70 := by decide +kernel
  have l1 : (Str.ofString ": ").length ≤ 70 := by decide +kernel
  have l2 : (Str.ofString "begin ").length ≤ 70 := by decide +kernel
  have l3 : (Str.ofString "start").length ≤ 70 := by decide +kernel
  have l4 : (Str.ofString "start  ").length ≤ 70 := by decide +kernel
  have l5 : (Str.ofString "start ").length ≤ 70 := by decide +kernel
  have l6 : (Str.ofString " ").length ≤ 70 := by decide +kernel
  have l7 : (Str.ofString "start a1").length ≤ 70 := by decide +kernel
  have l8 : (Str.ofString "Start ").length ≤ 70 := by decide +kernel
  have l9 : (Str.ofString "  ").length ≤ 70 := by decide +kernel
  have l10 : (Str.ofString "a1").length ≤ 70 := by decide +kernel
  have l11 : (Str.ofString "").length ≤ 70 := by decide +kernel
  have l12 : (Str.ofString " 0").length ≤ 70 := by decide +kernel
  have l13 : (Str.ofString " 0/1: ").length ≤ 70 := by decide +kernel
  have l14 : (Str.ofString " 2/4: ").length ≤ 70 := by decide +kernel
  have l15 : (Str.ofString " 1/").length ≤ 70 := by decide +kernel
  have l16 : (Str.ofString " -").length ≤ 70 := by decide +kernel
  have l17 : (Str.ofString " +").length ≤ 70 := by decide +kernel
  have l18 : (Str.ofString " 1: ").length ≤ 70 := by decide +kernel
  have l19 : (Str.ofString " 1/2/3: ").length ≤ 70 := by decide +kernel
  have l20 : (Str.ofString " 1/1000: ").length ≤ 70 := by decide +kernel
  have l21 : (Str.ofString " 99/100: ").length ≤ 70 := by decide +kernel
  have l22 : (Str.ofString " 1_0/11: ").length ≤ 70 := by decide +kernel
  have l23 : (Str.ofString "a1 ").length ≤ 70 := by decide +kernel
  have l24 : (Str.ofString "0").length ≤ 70 := by decide +kernel
  have l25 : (Str.ofString "\nstart ").length ≤ 70 := by decide +kernel
  have l26 : (Str.ofString " start ").length ≤ 70 := by decide +kernel
  have l27 : (Str.ofString "1").length ≤ 70 := by decide +kernel
  have lnum : (numS q.num).length ≤ 60 := by
    rw [hnn, TL.len_tl, tl_numS]
    exact TL.numL_len (by decide) (by omega)
  have lden : (numS (q.den : Int)).length ≤ 60 := by
    rw [TL.len_tl, tl_numS]
    exact TL.numL_len (by decide) (by omega)
  refine rc_str (by rw [hnn]; exact log2 nn (by omega)) ?_
  have e1 : (toString q.num : Str) = numS q.num := rfl
  rw [e1]
  walk_at "run"
  refine r2_addS (by (try simp only [len_app]); omega) ?_
  walk_at "run"
  refine rc_str (log2 _ qd) ?_
  have e2 : (toString (q.den : Int) : Str) = numS (q.den : Int) := rfl
  rw [e2]
  refine r2_addS (by (try simp only [len_app]); omega) ?_
  walk_at "run"
  refine r2_addS (by (try simp only [len_app]); omega) ?_
  have ltold : (toldS q).length ≤ 300 := by
    rw [etold]
    simp only [len_app]
    omega
  rw [← etold]
  clear etold e1 e2 lnum lden hnn
  generalize toldS q = told at hk ltold ⊢
  have lc1 : (cutS told none (some (-1))).length ≤ 300 := Nat.le_trans cutS_len ltold
  have lc2 : (cutS told none (some (-2))).length ≤ 300 := Nat.le_trans cutS_len ltold
  have ht : told.length ≤ 300 := ltold
  have hA : A.length ≤ 300 := by omega
  have hw : w.length ≤ 300 := by omega
  clear l0 l1 l2 l3 l4 l5 l6 l7 l8 l9 l10 l11 l12 l13 l14 l15 l16 l17 l18 l19 l20 l21 l22 l23 l24 l25 l26
  refine ws_g (G' := [some (.va (strsD [A, w, n])), some (.va (shD q)), some (.va (.int c)), some (.va (.str A)), some (.va (.str w)), some (.va (.str told)), none]) rfl ?_
  have hx : ∀ (k : Nat) (z : Option Sv), SB K P0 k (tOp (rIx K) (tVar 0) (tC (.int 2))) [some (.va (strsD [A, w, n])), some (.va (shD q)), some (.va (.int c)), some (.va (.str A)), some (.va (.str w)), some (.va (.str told)), z] M n := fun k z => sb_leaf (we_op (we_var rfl (we_int (r2_ixL (RL.sh _) (i := ((2 : Nat) : Int)) (atI_nat rfl) ⟨rfl, rfl⟩)))) (by omega)
  have hc1 : ∀ (k : Nat) (z : Option Sv), SB K P0 k (tSl (rSlX K) (tVar 5) tNoPart (tPart (tUn (rU fun i => .int (-i)) (tC (.int 2))))) [some (.va (strsD [A, w, n])), some (.va (shD q)), some (.va (.int c)), some (.va (.str A)), some (.va (.str w)), some (.va (.str told)), z] M (cutS told none (some (-2))) := fun k z => sb_leaf (we_sl (we_var rfl (wo_none (wo_part (by walk_at "run"; exact r1_neg ⟨_, rfl, cut_ok (by omega)⟩))))) lc2
  have hc2 : ∀ (k : Nat) (z : Option Sv), SB K P0 k (tSl (rSlX K) (tVar 5) tNoPart (tPart (tUn (rU fun i => .int (-i)) (tC (.int 1))))) [some (.va (strsD [A, w, n])), some (.va (shD q)), some (.va (.int c)), some (.va (.str A)), some (.va (.str w)), some (.va (.str told)), z] M (cutS told none (some (-1))) := fun k z => sb_leaf (we_sl (we_var rfl (wo_none (wo_part (by walk_at "run"; exact r1_neg ⟨_, rfl, cut_ok (by omega)⟩))))) lc1
  have lm1 : (Txt.mul ("1" : Str) 61).length ≤ 300 := by decide +kernel
  have hm1 : ∀ (k : Nat) (z : Option Sv), SB K P0 k (tOp (rMulX K) (tC (.str "1")) (tC (.int 61))) [some (.va (strsD [A, w, n])), some (.va (shD q)), some (.va (.int c)), some (.va (.str A)), some (.va (.str w)), some (.va (.str told)), z] M (Txt.mul ("1" : Str) 61) := fun k z => sb_leaf (we_op (we_str (we_int (r2_mulXS ⟨by decide +kernel, by decide +kernel, by decide +kernel⟩ ⟨rfl, rfl⟩)))) lm1
  have hwl : (w ++ (" " : Str)).length ≤ 9 := by rw [len_app]; have : (" " : Str).length = 1 := by decide +kernel
                                                 omega
  have lm4 : (Txt.mul (w ++ (" " : Str)) 4).length ≤ 300 := by
    have e := congrArg List.length (mul_tl (x := w ++ (" " : Str)) (n := 4) (by decide))
    rw [TL.len_tl] at hwl ⊢
    have e : (TL.tl (Txt.mul (w ++ (" " : Str)) 4)).length = _ := e
    rw [e]
    simp only [List.replicate, List.flatten_cons, List.length_append, List.flatten_nil, List.length_nil]
    omega
  have mok4 : MulOk (w ++ (" " : Str)) 4 := by
    refine ⟨by decide, fun _ _ => ?_, fun _ _ => ?_⟩
    · have : ((2 : Int) ^ 63 - 1) / 4 = 2305843009213693951 := by decide
      omega
    · unfold Builtin.Str.tooLong
      rw [decide_eq_false_iff_not]
      show ¬ (w ++ (" " : Str)).length * (4 : Int).toNat > 16777216
      have : (4 : Int).toNat = 4 := rfl
      rw [this]
      omega
  have hm4 : ∀ (k : Nat) (z : Option Sv), SB K P0 k (tOp (rMulX K) (tOp (rAddA K) (tVar 4) (tC (.str " "))) (tC (.int 4))) [some (.va (strsD [A, w, n])), some (.va (shD q)), some (.va (.int c)), some (.va (.str A)), some (.va (.str w)), some (.va (.str told)), z] M (Txt.mul (w ++ (" " : Str)) 4) := fun k z => sb_leaf (we_op (we_op (we_var rfl (we_str (r2_addS (by rw [← len_app]; omega) (we_int (r2_mulXS mok4 ⟨rfl, rfl⟩))))))) lm4
  refine ws_seq (odd_first (l := [(0, ("begin " : Str) ++ A, 0), (0, ("start" : Str), 0)]) (tq_cons (sb_add (sb_lit (by decide +kernel)) (sb_var rfl hA) (by decide)) (tq_cons (sb_lit (by decide +kernel)) (tq_nil))) (by simp) ?_)
  refine ws_seq (odd_more (l2 := [(0, ("start  " : Str) ++ A, 0), (0, ("start " : Str) ++ A ++ (" " : Str), 0)]) (tq_cons (sb_add (sb_lit (by decide +kernel)) (sb_var rfl hA) (by decide)) (tq_cons (sb_add (sb_add (sb_lit (by decide +kernel)) (sb_var rfl hA) (by decide)) (sb_lit (by decide +kernel)) (by decide)) (tq_nil))) (by simp) (by simp) ?_)
  refine ws_seq (odd_more (l2 := [(0, ("start a1" : Str), 0), (0, ("Start " : Str) ++ A, 0)]) (tq_cons (sb_lit (by decide +kernel)) (tq_cons (sb_add (sb_lit (by decide +kernel)) (sb_var rfl hA) (by decide)) (tq_nil))) (by simp) (by simp) ?_)
  refine ws_seq (odd_more (l2 := [(1, A ++ (" " : Str) ++ cutS told none (some (-2)) ++ (" " : Str) ++ w, 0), (1, A ++ ("  " : Str) ++ told ++ w, 0)]) (tq_cons (sb_add (sb_add (sb_add (sb_add (sb_var rfl hA) (sb_lit (by decide +kernel)) (by decide)) (hc1 _ _) (by decide)) (sb_lit (by decide +kernel)) (by decide)) (sb_var rfl hw) (by decide)) (tq_cons (sb_add (sb_add (sb_add (sb_var rfl hA) (sb_lit (by decide +kernel)) (by decide)) (sb_var rfl ht) (by decide)) (sb_var rfl hw) (by decide)) (tq_nil))) (by simp) (by simp) ?_)
  refine ws_seq (odd_more (l2 := [(1, A ++ (" " : Str) ++ told, 0), (1, A ++ (" " : Str) ++ told ++ w ++ (" " : Str), 0)]) (tq_cons (sb_add (sb_add (sb_var rfl hA) (sb_lit (by decide +kernel)) (by decide)) (sb_var rfl ht) (by decide)) (tq_cons (sb_add (sb_add (sb_add (sb_add (sb_var rfl hA) (sb_lit (by decide +kernel)) (by decide)) (sb_var rfl ht) (by decide)) (sb_var rfl hw) (by decide)) (sb_lit (by decide +kernel)) (by decide)) (tq_nil))) (by simp) (by simp) ?_)
  refine ws_seq (odd_more (l2 := [(1, A ++ (" " : Str) ++ told ++ (" " : Str) ++ w, 0), (1, A ++ (" " : Str) ++ told ++ ("a1" : Str), 0)]) (tq_cons (sb_add (sb_add (sb_add (sb_add (sb_var rfl hA) (sb_lit (by decide +kernel)) (by decide)) (sb_var rfl ht) (by decide)) (sb_lit (by decide +kernel)) (by decide)) (sb_var rfl hw) (by decide)) (tq_cons (sb_add (sb_add (sb_add (sb_var rfl hA) (sb_lit (by decide +kernel)) (by decide)) (sb_var rfl ht) (by decide)) (sb_lit (by decide +kernel)) (by decide)) (tq_nil))) (by simp) (by simp) ?_)
  refine ws_seq (odd_more (l2 := [(1, ("" : Str), 0), (1, A ++ (" 0" : Str) ++ told ++ w, 0)]) (tq_cons (sb_lit (by decide +kernel)) (tq_cons (sb_add (sb_add (sb_add (sb_var rfl hA) (sb_lit (by decide +kernel)) (by decide)) (sb_var rfl ht) (by decide)) (sb_var rfl hw) (by decide)) (tq_nil))) (by simp) (by simp) ?_)
  refine ws_seq (odd_more (l2 := [(1, A ++ (" 0/1: " : Str) ++ w, 0), (1, A ++ (" 2/4: " : Str) ++ w, 0)]) (tq_cons (sb_add (sb_add (sb_var rfl hA) (sb_lit (by decide +kernel)) (by decide)) (sb_var rfl hw) (by decide)) (tq_cons (sb_add (sb_add (sb_var rfl hA) (sb_lit (by decide +kernel)) (by decide)) (sb_var rfl hw) (by decide)) (tq_nil))) (by simp) (by simp) ?_)
  refine ws_seq (odd_more (l2 := [(1, A ++ (" 1/" : Str) ++ Txt.mul (("1" : Str)) 61 ++ (": " : Str) ++ w, 0), (1, A ++ (" -" : Str) ++ told ++ w, 0)]) (tq_cons (sb_add (sb_add (sb_add (sb_add (sb_var rfl hA) (sb_lit (by decide +kernel)) (by decide)) (hm1 _ _) (by decide)) (sb_lit (by decide +kernel)) (by decide)) (sb_var rfl hw) (by decide)) (tq_cons (sb_add (sb_add (sb_add (sb_var rfl hA) (sb_lit (by decide +kernel)) (by decide)) (sb_var rfl ht) (by decide)) (sb_var rfl hw) (by decide)) (tq_nil))) (by simp) (by simp) ?_)
  refine ws_seq (odd_more (l2 := [(1, A ++ (" +" : Str) ++ told ++ w, 0), (1, A ++ (" 1: " : Str) ++ w, 0)]) (tq_cons (sb_add (sb_add (sb_add (sb_var rfl hA) (sb_lit (by decide +kernel)) (by decide)) (sb_var rfl ht) (by decide)) (sb_var rfl hw) (by decide)) (tq_cons (sb_add (sb_add (sb_var rfl hA) (sb_lit (by decide +kernel)) (by decide)) (sb_var rfl hw) (by decide)) (tq_nil))) (by simp) (by simp) ?_)
  refine ws_seq (odd_more (l2 := [(1, A ++ (" 1/2/3: " : Str) ++ w, 0), (1, A ++ (" " : Str) ++ told ++ Txt.mul (w ++ (" " : Str)) 4 ++ w, 0)]) (tq_cons (sb_add (sb_add (sb_var rfl hA) (sb_lit (by decide +kernel)) (by decide)) (sb_var rfl hw) (by decide)) (tq_cons (sb_add (sb_add (sb_add (sb_add (sb_var rfl hA) (sb_lit (by decide +kernel)) (by decide)) (sb_var rfl ht) (by decide)) (hm4 _ _) (by decide)) (sb_var rfl hw) (by decide)) (tq_nil))) (by simp) (by simp) ?_)
  refine ws_seq (odd_more (l2 := [(1, (" " : Str) ++ A ++ (" " : Str) ++ told ++ w, 0), (1, A ++ (" 1/1000: " : Str) ++ w, 1)]) (tq_cons (sb_add (sb_add (sb_add (sb_add (sb_lit (by decide +kernel)) (sb_var rfl hA) (by decide)) (sb_lit (by decide +kernel)) (by decide)) (sb_var rfl ht) (by decide)) (sb_var rfl hw) (by decide)) (tq_cons (sb_add (sb_add (sb_var rfl hA) (sb_lit (by decide +kernel)) (by decide)) (sb_var rfl hw) (by decide)) (tq_nil))) (by simp) (by simp) ?_)
  refine ws_seq (odd_more (l2 := [(0, ("start " : Str) ++ n, 1), (2, ("" : Str), 2)]) (tq_cons (sb_add (sb_lit (by decide +kernel)) (hx _ _) (by decide)) (tq_cons (sb_lit (by decide +kernel)) (tq_nil))) (by simp) (by simp) ?_)
  refine ws_seq (odd_more (l2 := [(2, ("" : Str), 3)]) (tq_cons (sb_lit (by decide +kernel)) (tq_nil)) (by simp) (by simp) ?_)
  refine ws_seq (odd_more (l2 := [(1, A ++ (" 99/100: " : Str) ++ w, 1), (1, A ++ (" 1_0/11: " : Str) ++ w, 0), (1, ("a1 " : Str) ++ told ++ w, 0)]) (tq_cons (sb_add (sb_add (sb_var rfl hA) (sb_lit (by decide +kernel)) (by decide)) (sb_var rfl hw) (by decide)) (tq_cons (sb_add (sb_add (sb_var rfl hA) (sb_lit (by decide +kernel)) (by decide)) (sb_var rfl hw) (by decide)) (tq_cons (sb_add (sb_add (sb_lit (by decide +kernel)) (sb_var rfl ht) (by decide)) (sb_var rfl hw) (by decide)) (tq_nil)))) (by simp) (by simp) ?_)
  refine ws_seq (odd_more (l2 := [(1, A ++ (" " : Str) ++ cutS told none (some (-1)) ++ w, 0), (1, A ++ (" 1/" : Str) ++ ("0" : Str) ++ (": " : Str) ++ w, 0)]) (tq_cons (sb_add (sb_add (sb_add (sb_var rfl hA) (sb_lit (by decide +kernel)) (by decide)) (hc2 _ _) (by decide)) (sb_var rfl hw) (by decide)) (tq_cons (sb_add (sb_add (sb_add (sb_add (sb_var rfl hA) (sb_lit (by decide +kernel)) (by decide)) (sb_lit (by decide +kernel)) (by decide)) (sb_lit (by decide +kernel)) (by decide)) (sb_var rfl hw) (by decide)) (tq_nil))) (by simp) (by simp) ?_)
  refine ws_seq (odd_more (l2 := [(0, ("\nstart " : Str) ++ A, 0), (0, (" start " : Str) ++ A, 0), (2, ("" : Str), 4), (2, ("" : Str), 5), (2, ("" : Str), 6)]) (tq_cons (sb_add (sb_lit (by decide +kernel)) (sb_var rfl hA) (by decide)) (tq_cons (sb_add (sb_lit (by decide +kernel)) (sb_var rfl hA) (by decide)) (tq_cons (sb_lit (by decide +kernel)) (tq_cons (sb_lit (by decide +kernel)) (tq_cons (sb_lit (by decide +kernel)) (tq_nil)))))) (by simp) (by simp) ?_)
  rw [show ∀ l : List (Int × Str × Int), l = oddL A w n told → (Sv.va (PyData.list (l.map triD))) = Sv.va (PyData.list ((oddL A w n told).map triD)) from fun l h => by rw [h]]
  rotate_left
  · rfl
  have hlen : (oddL A w n told).length = 37 := rfl
  refine ws_ret ?_
  walk_at "run"
  rw [List.length_map, List.length_map, hlen]
  refine r2_mod (b := ((37 : Nat) : Int)) (by decide) ?_
  have a0 := Int.emod_nonneg c (show ((37 : Nat) : Int) ≠ 0 by decide)
  have a1 := Int.emod_lt_of_pos c (show (0 : Int) < ((37 : Nat) : Int) by decide)
  obtain ⟨j, hj⟩ := Int.eq_ofNat_of_zero_le a0
  rw [hj] at a1 ⊢
  have hjl : j < (oddL A w n told).length := by rw [hlen]; omega
  refine r2_ixL (RL.sh _) (t := .va (triD (oddL A w n told)[j])) (atI_nat (by rw [List.getElem?_map, List.getElem?_map, List.getElem?_eq_getElem hjl]; rfl)) ?_
  exact hk _ (List.getElem_mem hjl)

/-! the script's cells -/
def sp__law_cell_at (_ : PySem.W.Frag) : SpD := fun as M k _ => ∃ (ns : List Int) (i : Int), as = [.va (scD ns), .va (.int i)] ∧ 0 ≤ i ∧ k (.va (.int (cell ns i))) M
/-! _law_cell_at -/
def t__law_cell_at (K : PySem.W.Frag) (E : XK) : TS :=
  (tSeq (tIfS (tTest (tOp rLtI (tVar 1) (tCB (rLenC K) (tCons (tVar 0) tNil))))
  (tRet (tOp (rIx K) (tVar 0) (tVar 1)))
  tNext)
  (tRet (tC (.int 0))))
set_option maxHeartbeats 4000000 in
theorem p__law_cell_at {P : Program} {w : World} {K : PySem.W.Frag} {mg : Str → Option Value} {base : Heap} (T : Tx P K mg) {f : Addr} {cdv : Value} {A : Around} {outer : List Env} {s : Shared} {H : Hp} {E : XK} (hr : Room 0 (A.deeper (envOfC "_law_cell_at" (defScope s__law_cell_at) s.heap.objs.size f cdv))) :
    PSs (cxOf (L2.CX P w) P w K mg base ["_law_script", "_law_k"] "_law_cell_at" (defScope s__law_cell_at) f cdv A outer s H E) (defBody s__law_cell_at) (t__law_cell_at K E) := by
  have hu1 := hu_of hr
  have hu := hr.units
  have hu65 := hu_65 hr
  exact (pss_cons (ps_if (pt_cmpR op_lt (pv 1) (pe_callB call_len (by rfl) T.z_len (by decide +kernel) (pa_cons (pv 0) pa_nil)) (nomark _))
  (pss_one (ps_ret (pe_ix ix_seq (pv 0) (pv 1) (fun _ _ => rfl))))
  pss_nil)
  (pss_one (ps_ret pe_int)))
theorem ini__law_cell_at {K : PySem.W.Frag} {sp : SpD} (h : ∀ as M k e, sp as M k e → ∃ a0 a1, as = [a0, a1] ∧ ∀ P0 E, XL K P0 E e → WS K P0 (t__law_cell_at K E) [some a0, some a1] M (fun _ M' => k (.va .none) M') k (fun _ _ => False) (fun _ _ => False)) : Keeps K ["_law_script", "_law_k"] ["_law_script", "_law_k"] (t__law_cell_at K) sp := fun as M k e hs => by
  obtain ⟨a0, a1, rfl, h⟩ := h as M k e hs
  exact ⟨rfl, fun P0 E hE => h P0 E hE⟩
theorem mk__law_cell_at {P : Program} {w : World} {K : PySem.W.Frag} {mg : Str → Option Value} {base : Heap} (T : Tx P K mg) (hv : Keeps K ["_law_script", "_law_k"] ["_law_script", "_law_k"] (t__law_cell_at K) (sp__law_cell_at K)) : Cal P w K mg base "_law_cell_at" 1 (lift K (sp__law_cell_at K)) :=
  cal_mk T.d__law_cell_at T.f__law_cell_at sc__law_cell_at bt__law_cell_at (by decide) (fun cdv A outer s H E hr => p__law_cell_at T  hr) hv

theorem v__law_cell_at {K : PySem.W.Frag} : Keeps K ["_law_script", "_law_k"] ["_law_script", "_law_k"] (t__law_cell_at K) (sp__law_cell_at K) := by
  refine ini__law_cell_at ?_
  rintro as M k e ⟨ns, i, rfl, hi, hk⟩
  refine ⟨_, _, rfl, fun P0 E hE => ?_⟩
  unfold t__law_cell_at
  walk_at "run"
  refine' ws_ifP (by walk_at "tp") (fun h => ?_) (fun h => ?_)
  · have h : i < (ns.length : Int) := of_decide_eq_true h
    walk_at "run"
    exact r2_ixCell hi h hk
  · have h : ¬ i < (ns.length : Int) := of_decide_eq_false h
    walk_at "run"
    have e : cell ns i = 0 := by
      unfold cell
      rw [List.getD_eq_getElem?_getD, List.getElem?_eq_none (by omega)] <;> rfl
    rw [e] at hk
    exact hk
theorem cl_cell {K : PySem.W.Frag} {ns : List Int} {i : Int} {M : Mm} {k : Sv → Mm → Prop} {e : Value → Mm → Prop} (hi : 0 ≤ i) (hk : k (.va (.int (cell ns i))) M) : sp__law_cell_at K [.va (scD ns), .va (.int i)] M k e := ⟨ns, i, rfl, hi, hk⟩
local macro_rules | `(tactic| walk_at "st") => `(tactic| with_reducible refine cl_cell (by walk_at "num") ?_)

/-! the law's own shares -/
def sp__law_share (_ : PySem.W.Frag) : SpD := fun as M k _ => ∃ t b : Int, as = [.va (.int t), .va (.int b)] ∧ 0 ≤ t ∧ 1 ≤ b ∧ k (.va (shD (shr t b))) M
/-! _law_share -/
def t__law_share (K : PySem.W.Frag) (E : XK) : TS :=
  (tSeq (tAsg (tVar 0) (gName 2))
  (tSeq (tAsg (tVar 1) (gName 3))
  (tSeq (tWhile (tTest (tOp rGtI (tVar 3) (tC (.int 0))))
  (tSeq (tAsg (tOp rModN (tVar 2) (tVar 3)) (gName 4))
  (tSeq (tAsg (tVar 3) (gName 2))
  (tAsg (tVar 4) (gName 3)))))
  (tRet (tTup (tCons (tOp rDivR (tVar 0) (tVar 2)) (tCons (tOp rDivR (tVar 1) (tVar 2)) tNil)))))))
set_option maxHeartbeats 4000000 in
theorem p__law_share {P : Program} {w : World} {K : PySem.W.Frag} {mg : Str → Option Value} {base : Heap} (T : Tx P K mg) {f : Addr} {cdv : Value} {A : Around} {outer : List Env} {s : Shared} {H : Hp} {E : XK} (hr : Room 33 (A.deeper (envOfC "_law_share" (defScope s__law_share) s.heap.objs.size f cdv))) :
    PSs (cxOf (L2.CX P w) P w K mg base ["_law_top", "_law_bottom", "_law_one", "_law_other", "_law_rest"] "_law_share" (defScope s__law_share) f cdv A outer s H E) (defBody s__law_share) (t__law_share K E) := by
  have hu1 := hu_of hr
  have hu := hr.units
  have hu65 := hu_65 hr
  exact (pss_cons (ps_set (i := 2) sc__law_share.nd rfl (by first | exact Or.inl rfl | exact Or.inr rfl) (pv 0))
  (pss_cons (ps_set (i := 3) sc__law_share.nd rfl (by first | exact Or.inl rfl | exact Or.inr rfl) (pv 1))
  (pss_cons (ps_while (passes_of rfl) (pt_cmpR op_gt (pv 3) pe_int (nomark _))
  (pss_cons (ps_set (i := 4) sc__law_share.nd rfl (by first | exact Or.inl rfl | exact Or.inr rfl) (pe_op op_modN (pv 2) (pv 3)))
  (pss_cons (ps_set (i := 2) sc__law_share.nd rfl (by first | exact Or.inl rfl | exact Or.inr rfl) (pv 3))
  (pss_one (ps_set (i := 3) sc__law_share.nd rfl (by first | exact Or.inl rfl | exact Or.inr rfl) (pv 4))))))
  (pss_one (ps_ret (pe_tup (pa_cons (pe_op (op_fdivR T.sys (hr.mono (by decide)) rfl rfl rfl) (pv 0) (pv 2)) (pa_cons (pe_op (op_fdivR T.sys (hr.mono (by decide)) rfl rfl rfl) (pv 1) (pv 2)) pa_nil))))))))
theorem ini__law_share {K : PySem.W.Frag} {sp : SpD} (h : ∀ as M k e, sp as M k e → ∃ a0 a1, as = [a0, a1] ∧ ∀ P0 E, XL K P0 E e → WS K P0 (t__law_share K E) [some a0, some a1, none, none, none] M (fun _ M' => k (.va .none) M') k (fun _ _ => False) (fun _ _ => False)) : Keeps K ["_law_top", "_law_bottom", "_law_one", "_law_other", "_law_rest"] ["_law_top", "_law_bottom"] (t__law_share K) sp := fun as M k e hs => by
  obtain ⟨a0, a1, rfl, h⟩ := h as M k e hs
  exact ⟨rfl, fun P0 E hE => h P0 E hE⟩
theorem mk__law_share {P : Program} {w : World} {K : PySem.W.Frag} {mg : Str → Option Value} {base : Heap} (T : Tx P K mg) (hv : Keeps K ["_law_top", "_law_bottom", "_law_one", "_law_other", "_law_rest"] ["_law_top", "_law_bottom"] (t__law_share K) (sp__law_share K)) : Cal P w K mg base "_law_share" 34 (lift K (sp__law_share K)) :=
  cal_mk T.d__law_share T.f__law_share sc__law_share bt__law_share (by decide) (fun cdv A outer s H E hr => p__law_share T  hr) hv

theorem v__law_share {K : PySem.W.Frag} : Keeps K ["_law_top", "_law_bottom", "_law_one", "_law_other", "_law_rest"] ["_law_top", "_law_bottom"] (t__law_share K) (sp__law_share K) := by
  refine ini__law_share ?_
  rintro as M k e ⟨a, b, rfl, ha, hb, hk⟩
  refine ⟨_, _, rfl, fun P0 E hE => ?_⟩
  unfold t__law_share
  walk_at "run"
  refine ws_while (fun m G' M' => ∃ (x y : Int) (z : Option Sv), G' = [some (.va (.int a)), some (.va (.int b)), some (.va (.int x)), some (.va (.int y)), z] ∧ M' = M ∧ 0 ≤ x ∧ 0 ≤ y ∧ Int.gcd x y = Int.gcd a b ∧ m = y.toNat) b.toNat ⟨a, b, none, rfl, rfl, ha, by omega, rfl, rfl⟩ ?_
  rintro m G' M' ⟨x, y, z, rfl, rfl, hx, hy, hg, rfl⟩
  refine' wt_P (by walk_at "tp") ⟨fun h => ?_, fun h => ?_⟩
  · have h : 0 < y := of_decide_eq_true h
    walk_at "run"
    have h1 := Int.emod_nonneg x (show y ≠ 0 by omega)
    have h2 := Int.emod_lt_of_pos x h
    exact ⟨(x % y).toNat, by omega, y, x % y, _, rfl, rfl, hy, h1, (gcd_step hx h).trans hg, rfl⟩
  · have h : ¬ 0 < y := of_decide_eq_false h
    have e : y = 0 := by omega
    subst e
    have ex : x = Int.gcd a b := by rw [← hg, gcd_zero_r hx]
    have hp : (0 : Int) < (Int.gcd a b : Int) := by
      have : Int.gcd a b ≠ 0 := fun z => by rw [Int.gcd_eq_zero_iff] at z; omega
      omega
    subst ex
    refine ws_ret (we_tup ?_)
    walk_at "run"
    refine r2_divR hp ?_
    walk_at "run"
    refine r2_divR hp ?_
    walk_at "run"
    refine ⟨[_, _], rfl, by simp, ?_⟩
    rw [← shD_shr (show 0 < b by omega)]
    exact hk
theorem cl_lshare {K : PySem.W.Frag} {t b : Int} {M : Mm} {k : Sv → Mm → Prop} {e : Value → Mm → Prop} (h1 : 0 ≤ t) (h2 : 1 ≤ b) (hk : k (.va (shD (shr t b))) M) : sp__law_share K [.va (.int t), .va (.int b)] M k e := ⟨t, b, rfl, h1, h2, hk⟩

/-! the law's symbols -/
def sp__law_symbols (_ : PySem.W.Frag) : SpD := fun as M k _ => ∃ (c : Int) (n : Nat), as = [.va (.int c), .va (.int (n : Int))] ∧ n ≤ 50 ∧ ∀ ss : List Str, ss.length = n → ss.Nodup → (∀ s ∈ ss, isSym s = true ∧ TxtOk s) → k (.va (strsD ss)) M
/-! _law_symbols -/
def t__law_symbols (K : PySem.W.Frag) (E : XK) : TS :=
  (tSeq (tAsg (tC (.str "abcdefghijklmnopqrstuvwxyzABCDEFGHIJKLMNOPQRSTUVWXYZ")) (gName 2))
  (tSeq (tAsg (tOp (rAddA K) (tC (.int 1)) (tOp rModN (tVar 0) (tC (.int 8)))) (gName 3))
  (tSeq (tAsg (tOp rModN (tOp rDivN (tVar 0) (tC (.int 8))) (tVar 3)) (gName 4))
  (tSeq (tAsg (tLst tNil) (gName 5))
  (tSeq (tFor (iRng1 (tCons (tVar 1) tNil)) (gName 6)
  (tSeq (tAsg (tC (.str "")) (gName 7))
  (tSeq (tFor (iRng1 (tCons (tVar 3) tNil)) (gName 8)
  (tSeq (tAsg (tOp (rAddA K) (tOp rModN (tOp rDivN (tVar 0) (tC (.int 64))) (tC (.int 52))) (tOp (rMulA K) (tC (.int 7)) (tVar 8))) (gName 9))
  (tSeq (tIfS (tTest (tOp (rEqD K) (tVar 8) (tVar 4)))
  (tAsg (tOp (rAddA K) (tVar 9) (tVar 6)) (gName 9))
  tNext)
  (tAsg (tOp (rAddA K) (tVar 7) (tOp (rIx K) (tVar 2) (tOp rModN (tVar 9) (tC (.int 52))))) (gName 7)))))
  (tDrop (tBM K "list" rAppend (tVar 5) (tCons (tVar 7) tNil))))))
  (tRet (tVar 5)))))))
set_option maxHeartbeats 4000000 in
theorem p__law_symbols {P : Program} {w : World} {K : PySem.W.Frag} {mg : Str → Option Value} {base : Heap} (T : Tx P K mg) {f : Addr} {cdv : Value} {A : Around} {outer : List Env} {s : Shared} {H : Hp} {E : XK} (hr : Room 0 (A.deeper (envOfC "_law_symbols" (defScope s__law_symbols) s.heap.objs.size f cdv))) :
    PSs (cxOf (L2.CX P w) P w K mg base ["_law_cell", "_law_many", "_law_letters", "_law_size", "_law_at", "_law_out", "_law_k", "_law_name", "_law_place", "_law_step"] "_law_symbols" (defScope s__law_symbols) f cdv A outer s H E) (defBody s__law_symbols) (t__law_symbols K E) := by
  have hu1 := hu_of hr
  have hu := hr.units
  have hu65 := hu_65 hr
  exact (pss_cons (ps_set (i := 2) sc__law_symbols.nd rfl (by first | exact Or.inl rfl | exact Or.inr rfl) pe_str)
  (pss_cons (ps_set (i := 3) sc__law_symbols.nd rfl (by first | exact Or.inl rfl | exact Or.inr rfl) (pe_op op_addA pe_int (pe_op op_modN (pv 0) pe_int)))
  (pss_cons (ps_set (i := 4) sc__law_symbols.nd rfl (by first | exact Or.inl rfl | exact Or.inr rfl) (pe_op op_modN (pe_op op_fdivN (pv 0) pe_int) (pv 3)))
  (pss_cons (ps_set (i := 5) sc__law_symbols.nd rfl (by first | exact Or.inl rfl | exact Or.inr rfl) (pe_lst pa_nil))
  (pss_cons (ps_for (passes_of rfl) rfl (pi_range1 rfl T.z_range (pa_cons (pv 1) pa_nil)) (pg_name (i := 6) sc__law_symbols.nd rfl (by first | exact Or.inl rfl | exact Or.inr rfl))
  (pss_cons (ps_set (i := 7) sc__law_symbols.nd rfl (by first | exact Or.inl rfl | exact Or.inr rfl) pe_str)
  (pss_cons (ps_for (passes_of rfl) rfl (pi_range1 rfl T.z_range (pa_cons (pv 3) pa_nil)) (pg_name (i := 8) sc__law_symbols.nd rfl (by first | exact Or.inl rfl | exact Or.inr rfl))
  (pss_cons (ps_set (i := 9) sc__law_symbols.nd rfl (by first | exact Or.inl rfl | exact Or.inr rfl) (pe_op op_addA (pe_op op_modN (pe_op op_fdivN (pv 0) pe_int) pe_int) (pe_op op_mulA pe_int (pv 8))))
  (pss_cons (ps_if (pt_cmpR (op_eqD hu) (pv 8) (pv 4) (nomark _))
  (pss_one (ps_set (i := 9) sc__law_symbols.nd rfl (by first | exact Or.inl rfl | exact Or.inr rfl) (pe_op op_addA (pv 9) (pv 6))))
  pss_nil)
  (pss_one (ps_set (i := 7) sc__law_symbols.nd rfl (by first | exact Or.inl rfl | exact Or.inr rfl) (pe_op op_addA (pv 7) (pe_ix ix_seq (pv 2) (pe_op op_modN (pv 9) pe_int) (fun _ _ => rfl))))))))
  (pss_one (ps_expr (pe_bm PySem.F.plainAttrs_list PySem.F.slot_list_append PySem.F.type_list_append mt_append (pv 5) (pa_cons (pv 7) pa_nil)))))))
  (pss_one (ps_ret (pv 5))))))))
theorem ini__law_symbols {K : PySem.W.Frag} {sp : SpD} (h : ∀ as M k e, sp as M k e → ∃ a0 a1, as = [a0, a1] ∧ ∀ P0 E, XL K P0 E e → WS K P0 (t__law_symbols K E) [some a0, some a1, none, none, none, none, none, none, none, none] M (fun _ M' => k (.va .none) M') k (fun _ _ => False) (fun _ _ => False)) : Keeps K ["_law_cell", "_law_many", "_law_letters", "_law_size", "_law_at", "_law_out", "_law_k", "_law_name", "_law_place", "_law_step"] ["_law_cell", "_law_many"] (t__law_symbols K) sp := fun as M k e hs => by
  obtain ⟨a0, a1, rfl, h⟩ := h as M k e hs
  exact ⟨rfl, fun P0 E hE => h P0 E hE⟩
theorem mk__law_symbols {P : Program} {w : World} {K : PySem.W.Frag} {mg : Str → Option Value} {base : Heap} (T : Tx P K mg) (hv : Keeps K ["_law_cell", "_law_many", "_law_letters", "_law_size", "_law_at", "_law_out", "_law_k", "_law_name", "_law_place", "_law_step"] ["_law_cell", "_law_many"] (t__law_symbols K) (sp__law_symbols K)) : Cal P w K mg base "_law_symbols" 1 (lift K (sp__law_symbols K)) :=
  cal_mk T.d__law_symbols T.f__law_symbols sc__law_symbols bt__law_symbols (by decide) (fun cdv A outer s H E hr => p__law_symbols T  hr) hv

theorem v__law_symbols {K : PySem.W.Frag} : Keeps K ["_law_cell", "_law_many", "_law_letters", "_law_size", "_law_at", "_law_out", "_law_k", "_law_name", "_law_place", "_law_step"] ["_law_cell", "_law_many"] (t__law_symbols K) (sp__law_symbols K) := by
  refine ini__law_symbols ?_
  rintro as M k e ⟨c, n, rfl, hn, hk⟩
  refine ⟨_, _, rfl, fun P0 E hE => ?_⟩
  unfold t__law_symbols
  walk_at "run"
  have z1 := Int.emod_nonneg c (show (8 : Int) ≠ 0 by decide)
  have z2 := Int.emod_lt_of_pos c (show (0 : Int) < 8 by decide)
  generalize hsz : 1 + c % 8 = sz
  have hs1 : 1 ≤ sz ∧ sz ≤ 8 := by omega
  obtain ⟨size, rfl⟩ := Int.eq_ofNat_of_zero_le (show 0 ≤ sz by omega)
  walk_at "run"
  refine r2_divN (by decide) (by decide) ?_
  walk_at "run"
  have a1 := Int.emod_nonneg (c / 8) (show (size : Int) ≠ 0 by omega)
  have a2 := Int.emod_lt_of_pos (c / 8) (show (0 : Int) < size by omega)
  generalize c / 8 % (size : Int) = at_ at a1 a2
  walk_at "run"
  refine we_lst (wa_nil ⟨by simp, fun p hp => ?_⟩)
  walk_at "run"
  refine ws_for (wi_rng1 ?_)
  walk_at "run"
  refine ⟨_, rfl, by omega, by omega, ?_⟩
  rw [Int.toNat_natCast]
  have hb0 := Int.emod_nonneg (c / 64) (show (52 : Int) ≠ 0 by decide)
  have hb1 := Int.emod_lt_of_pos (c / 64) (show (0 : Int) < 52 by decide)
  generalize hbase : c / 64 % 52 = base at hb0 hb1
  refine ⟨fun i G' M' => (∃ z6 z7 z8 z9, G' = [some (.va (.int c)), some (.va (.int (n : Int))), some (.va (.str letters)), some (.va (.int (size : Int))), some (.va (.int at_)), some (.rf (.ref p)), z6, z7, z8, z9]) ∧
    M' = mup M p (.lst (((List.range i).map fun (j : Nat) => PyData.str (symS base at_ j size)).map Sv.va)), ⟨⟨_, _, _, _, rfl⟩, rfl⟩, fun _ _ _ _ _ => trivial, ?_, ?_⟩
  · rintro i G' M' hi ⟨⟨z6, z7, z8, z9, rfl⟩, rfl⟩
    refine wg_name ?_
    walk_at "run"
    refine ws_for (wi_rng1 ?_)
    walk_at "run"
    refine ⟨_, rfl, by omega, by omega, ?_⟩
    rw [Int.toNat_natCast]
    refine ⟨fun j G' M2 => (∃ z8 z9, G' = [some (.va (.int c)), some (.va (.int (n : Int))), some (.va (.str letters)), some (.va (.int (size : Int))), some (.va (.int at_)), some (.rf (.ref p)), some (.va (.int (i : Int))), some (.va (.str (symS base at_ i j))), z8, z9]) ∧
      M2 = mup M p (.lst (((List.range i).map fun (j : Nat) => PyData.str (symS base at_ j size)).map Sv.va)), ⟨⟨_, _, rfl⟩, rfl⟩, fun _ _ _ _ _ => trivial, ?_, ?_⟩
    · rintro j G' M2 hj ⟨⟨z8, z9, rfl⟩, rfl⟩
      refine wg_name ?_
      walk_at "run"
      refine r2_divN (by decide) (by decide) ?_
      walk_at "run"
      rw [hbase]
      refine r2_mulI (mul_l (by decide)) ?_
      walk_at "run"
      refine ws_mid (fun G' M2 => (∃ z8, G' = [some (.va (.int c)), some (.va (.int (n : Int))), some (.va (.str letters)), some (.va (.int (size : Int))), some (.va (.int at_)), some (.rf (.ref p)), some (.va (.int (i : Int))), some (.va (.str (symS base at_ i j))), z8, some (.va (.int (base + 7 * (j : Int) + if (j : Int) = at_ then (i : Int) else 0)))]) ∧
        M2 = mup M p (.lst (((List.range i).map fun (j : Nat) => PyData.str (symS base at_ j size)).map Sv.va))) ?_ ?_
      · refine' ws_ifP (by walk_at "tp") (fun h => ?_) (fun h => ?_)
        · rw [eqv_int2] at h
          have h := of_decide_eq_true h
          walk_at "run"
          refine ⟨⟨some (.va (.int (j : Int))), ?_⟩, rfl⟩
          rw [if_pos h]
          rfl
        · rw [eqv_int2] at h
          have h := of_decide_eq_false h
          walk_at "run"
          refine ⟨⟨some (.va (.int (j : Int))), ?_⟩, rfl⟩
          rw [if_neg h, Int.add_zero]
          rfl
      rintro G' M2 ⟨⟨z8, rfl⟩, rfl⟩
      walk_at "run"
      refine r2_ixS (by decide +kernel) (letter_at _) ?_
      walk_at "run"
      refine r2_addS ?_ ?_
      · have : (symS base at_ i j).length = j := by
          show (symL base at_ i j).toArray.size = j
          rw [List.size_toArray, symL_len]
        rw [this]
        show j + 1 ≤ 100000
        omega
      walk_at "run"
      refine ⟨⟨z8, some (.va (.int (base + 7 * (j : Int) + if (j : Int) = at_ then (i : Int) else 0))), ?_⟩, rfl⟩
      have e : symS base at_ i j ++ ⟨#[letter (base + 7 * (j : Int) + if (j : Int) = at_ then (i : Int) else 0)]⟩ = symS base at_ i (j + 1) := by
        unfold symS
        rw [symL_succ]
        show (Str.mk ((symL base at_ i j).toArray ++ #[letter (base + 7 * (j : Int) + if (j : Int) = at_ then (i : Int) else 0)]) : Str) = _
        congr 1
        simp
      rw [e]
      rfl
    · rintro G' M2 ⟨⟨z8, z9, rfl⟩, rfl⟩
      refine ws_drop (we_append ?_)
      walk_at "run"
      refine ⟨p, rfl, ⟨_, mup_same⟩, ?_⟩
      walk_at "run"
      refine ⟨_, _, rfl, mup_same, by simp; omega, ?_⟩
      refine ⟨⟨_, _, _, _, rfl⟩, ?_⟩
      rw [mup_mup, List.range_succ, List.map_append, List.map_append]
      rfl
  · rintro G' M' ⟨⟨z6, z7, z8, z9, rfl⟩, rfl⟩
    refine ws_ret (we_freeze (ds := (List.range n).map fun (j : Nat) => PyData.str (symS base at_ j size)) ?_)
    walk_at "run"
    refine ⟨p, rfl, mup_same, ?_⟩
    rw [mdel_mup hp]
    have e : PyData.list ((List.range n).map fun (j : Nat) => PyData.str (symS base at_ j size)) = strsD ((List.range n).map fun (j : Nat) => symS base at_ j size) := by
      unfold strsD
      rw [List.map_map]
      rfl
    rw [e]
    refine hk _ (by simp) ?_ ?_
    · rw [List.nodup_iff_pairwise_ne, List.pairwise_map]
      refine List.Pairwise.imp_of_mem ?_ (List.nodup_iff_pairwise_ne.mp List.nodup_range)
      intro x y hx hy hxy z
      have hx := List.mem_range.mp hx
      have hy := List.mem_range.mp hy
      have := symS_inj a1 a2 ⟨by omega, by omega⟩ ⟨by omega, by omega⟩ z
      omega
    · intro s hs
      obtain ⟨j, _, rfl⟩ := List.mem_map.mp hs
      exact ⟨symS_sym (by omega) (by omega), symS_txt (by omega)⟩

/-! the law k23 -/
theorem cl_kind {K : PySem.W.Frag} {text s : Str} {M : Mm} {k : Sv → Mm → Prop} {e : Value → Mm → Prop} (h : KindIs text s) (hk : k (.va (.str s)) M) : sp__law_kind K [.va (.str text)] M k e := by
  obtain ⟨h1, h2, h3, h4⟩ := h
  refine ⟨text, rfl, Nat.le_trans h1 (by decide), h2, h3, fun q => ?_, fun st rs q => ⟨fun q2 => ?_, fun q2 => ?_⟩⟩
  · rcases h4 with ⟨_, e⟩ | ⟨st, rs, e, _⟩
    · rw [← e]; exact hk
    · rw [q] at e; cases e
  · rcases h4 with ⟨e, _⟩ | ⟨st', rs', e, z⟩
    · rw [q] at e; cases e
    · rw [q] at e
      cases e
      rcases z with ⟨_, z⟩ | ⟨z, _⟩
      · rw [← z]; exact hk
      · exact absurd z q2
  · rcases h4 with ⟨e, _⟩ | ⟨st', rs', e, z⟩
    · rw [q] at e; cases e
    · rw [q] at e
      cases e
      rcases z with ⟨z, _⟩ | ⟨_, z⟩
      · exact absurd q2 z
      · rw [← z]; exact hk
/-! law -/
def t_law (K : PySem.W.Frag) (E : XK) : TS :=
  (tSeq (tAsg (tCall (lift K (sp__law_symbols K)) [] E0 (tCons (tCall (lift K (sp__law_cell_at K)) [] E0 (tCons (tVar 0) (tCons (tC (.int 0)) tNil))) (tCons (tC (.int 3)) tNil))) (gName 1))
  (tSeq (tAsg (tLst (tCons (tOp (rAddA K) (tC (.int 1)) (tOp rModN (tCall (lift K (sp__law_cell_at K)) [] E0 (tCons (tVar 0) (tCons (tC (.int 1)) tNil))) (tC (.int 9)))) (tCons (tOp (rAddA K) (tC (.int 1)) (tOp rModN (tCall (lift K (sp__law_cell_at K)) [] E0 (tCons (tVar 0) (tCons (tC (.int 2)) tNil))) (tC (.int 9)))) tNil))) (gName 2))
  (tSeq (tAsg (tLc (iSeq K (tVar 2)) (gName 4) tYes (tCall (lift K (sp__law_share K)) [] E0 (tCons (tVar 4) (tCons (tCB (rSum K) (tCons (tVar 2) tNil)) tNil))) [4]) (gName 3))
  (tSeq (tAsg (tLst (tCons (tOp (rAddA K) (tC (.str "start ")) (tOp (rIx K) (tVar 1) (tC (.int 0)))) tNil)) (gName 5))
  (tSeq (tAsg (tLst (tCons (tOp (rIx K) (tVar 1) (tC (.int 1))) (tCons (tOp (rAddA K) (tOp (rAddA K) (tOp (rIx K) (tVar 1) (tC (.int 0))) (tC (.str " "))) (tOp (rIx K) (tVar 1) (tC (.int 2)))) tNil))) (gName 6))
  (tSeq (tFor (iRng1 (tCons (tC (.int 2)) tNil)) (gName 7)
  (tSeq (tAsg (tOp (rAddA K) (tOp (rAddA K) (tOp (rAddA K) (tCB rStrC (tCons (tOp (rIx K) (tOp (rIx K) (tVar 3) (tVar 7)) (tC (.int 0))) tNil)) (tC (.str "/"))) (tCB rStrC (tCons (tOp (rIx K) (tOp (rIx K) (tVar 3) (tVar 7)) (tC (.int 1))) tNil))) (tC (.str ": "))) (gName 8))
  (tDrop (tBM K "list" rAppend (tVar 5) (tCons (tOp (rAddA K) (tOp (rAddA K) (tOp (rAddA K) (tOp (rIx K) (tVar 1) (tC (.int 0))) (tC (.str " "))) (tVar 8)) (tOp (rIx K) (tVar 6) (tVar 7))) tNil)))))
  (tSeq (tIfS (tTest (tOp (rNeD K) (tCall (lift K (sp__law_kind K)) [] E0 (tCons (tM1 (rJoin K) (tC (.str "\n")) (tVar 5)) tNil)) (tC (.str "read"))))
  (tRet (tC (.bl false)))
  tNext)
  (tSeq (tAsg (tCall (lift K (sp__law_odd K)) [] E0 (tCons (tVar 1) (tCons (tOp (rIx K) (tVar 3) (tC (.int 0))) (tCons (tCall (lift K (sp__law_cell_at K)) [] E0 (tCons (tVar 0) (tCons (tC (.int 3)) tNil))) tNil)))) (gTup K 3 (gCons (gName 9) (gCons (gName 10) (gCons (gName 11) gNil)))))
  (tSeq (tIfS (tTest (tOp (rEqD K) (tVar 11) (tC (.int 3))))
  (tRet (tOp (rEqD K) (tCall (lift K (sp__law_kind K)) [] E0 (tCons (tOp (rIx K) (tVar 5) (tC (.int 0))) tNil)) (tC (.str "no grammar"))))
  tNext)
  (tSeq (tIfS (tTest (tOp rGtI (tVar 11) (tC (.int 3))))
  (tSeq (tAsg (tOp (rIx K) (tLst (tCons (tOp (rAddA K) (tM1 (rJoin K) (tC (.str "\n")) (tVar 5)) (tC (.str "\n"))) (tCons (tC (.str "")) (tCons (tOp (rAddA K) (tM1 (rJoin K) (tC (.str "\n")) (tVar 5)) (tC (.str " "))) tNil)))) (tOp rSubI (tVar 11) (tC (.int 4)))) (gName 12))
  (tRet (tOp (rEqD K) (tCall (lift K (sp__law_kind K)) [] E0 (tCons (tVar 12) tNil)) (tC (.str "no text")))))
  tNext)
  (tSeq (tIfS (tTest (tOp (rEqD K) (tVar 11) (tC (.int 2))))
  (tAsg (tOp (rIx K) (tVar 5) (tC (.int 1))) (gName 10))
  tNext)
  (tSeq (tAsg (tVar 10) (gSub (tVar 5) (tVar 9) rSetL))
  (tRet (tOp (rEqD K) (tCall (lift K (sp__law_kind K)) [] E0 (tCons (tM1 (rJoin K) (tC (.str "\n")) (tVar 5)) tNil)) (tOp (rIx K) (tLst (tCons (tC (.str "no text")) (tCons (tC (.str "no grammar")) tNil))) (tCB rIntC (tCons (tOp rGtI (tVar 11) (tC (.int 0))) tNil)))))))))))))))))
set_option maxHeartbeats 4000000 in
theorem p_law {P : Program} {w : World} {K : PySem.W.Frag} {mg : Str → Option Value} {base : Heap} (T : Tx P K mg) (c__law_kind : Cal P w K mg base "_law_kind" 39 (lift K (sp__law_kind K))) (c__law_odd : Cal P w K mg base "_law_odd" 1 (lift K (sp__law_odd K))) (c__law_cell_at : Cal P w K mg base "_law_cell_at" 1 (lift K (sp__law_cell_at K))) (c__law_share : Cal P w K mg base "_law_share" 34 (lift K (sp__law_share K))) (c__law_symbols : Cal P w K mg base "_law_symbols" 1 (lift K (sp__law_symbols K))) {f : Addr} {cdv : Value} {A : Around} {outer : List Env} {s : Shared} {H : Hp} {E : XK} (hr : Room 39 (A.deeper (envOfC "law" (defScope s_law) s.heap.objs.size f cdv))) :
    PSs (cxOf (L2.CX P w) P w K mg base ["_law_script", "_law_names", "_law_parts", "_law_shares", "_law_part", "_law_rows", "_law_bodies", "_law_k", "_law_told", "_law_at", "_law_row", "_law_why", "_law_text"] "law" (defScope s_law) f cdv A outer s H E) (defBody s_law) (t_law K E) := by
  have hu1 := hu_of hr
  have hu := hr.units
  have hu65 := hu_65 hr
  exact (pss_cons (ps_set (i := 1) sc_law.nd rfl (by first | exact Or.inl rfl | exact Or.inr rfl) (pcall c__law_symbols hr (by decide) (by rfl) passL (pa_cons (pcall c__law_cell_at hr (by decide) (by rfl) passL (pa_cons (pv 0) (pa_cons pe_int pa_nil))) (pa_cons pe_int pa_nil))))
  (pss_cons (ps_set (i := 2) sc_law.nd rfl (by first | exact Or.inl rfl | exact Or.inr rfl) (pe_lst (pa_cons (pe_op op_addA pe_int (pe_op op_modN (pcall c__law_cell_at hr (by decide) (by rfl) passL (pa_cons (pv 0) (pa_cons pe_int pa_nil))) pe_int)) (pa_cons (pe_op op_addA pe_int (pe_op op_modN (pcall c__law_cell_at hr (by decide) (by rfl) passL (pa_cons (pv 0) (pa_cons pe_int pa_nil))) pe_int)) pa_nil))))
  (pss_cons (ps_setLc (i := 3) (own := [("_law_part", 4)]) (g := (gName 4)) (tt := tYes) (te := (tCall (lift K (sp__law_share K)) [] E0 (tCons (tVar 4) (tCons (tCB (rSum K) (tCons (tVar 2) tNil)) tNil)))) rfl sc_law.nd rfl rfl (sw_true rfl rfl rfl (by decide +kernel)) (pi_seq (pv 2)) (blkOk_by (by first | decide +kernel | rfl)) (fun _ _ _ _ _ => (pg_name (i := 4) sc_law.nd rfl (by first | exact Or.inl rfl | exact Or.inr rfl))) (fun _ _ _ _ _ => pts_nil) (fun _ _ _ _ _ => (pcall c__law_share hr (by decide) (by rfl) passL (pa_cons (pv 4) (pa_cons (pe_callB (cr_sum rfl) (by rfl) T.z_sum (by decide +kernel) (pa_cons (pv 2) pa_nil)) pa_nil)))))
  (pss_cons (ps_set (i := 5) sc_law.nd rfl (by first | exact Or.inl rfl | exact Or.inr rfl) (pe_lst (pa_cons (pe_op op_addA pe_str (pe_ix ix_seq (pv 1) pe_int (fun _ _ => rfl))) pa_nil)))
  (pss_cons (ps_set (i := 6) sc_law.nd rfl (by first | exact Or.inl rfl | exact Or.inr rfl) (pe_lst (pa_cons (pe_ix ix_seq (pv 1) pe_int (fun _ _ => rfl)) (pa_cons (pe_op op_addA (pe_op op_addA (pe_ix ix_seq (pv 1) pe_int (fun _ _ => rfl)) pe_str) (pe_ix ix_seq (pv 1) pe_int (fun _ _ => rfl))) pa_nil))))
  (pss_cons (ps_for (passes_of rfl) rfl (pi_range1 rfl T.z_range (pa_cons pe_int pa_nil)) (pg_name (i := 7) sc_law.nd rfl (by first | exact Or.inl rfl | exact Or.inr rfl))
  (pss_cons (ps_set (i := 8) sc_law.nd rfl (by first | exact Or.inl rfl | exact Or.inr rfl) (pe_op op_addA (pe_op op_addA (pe_op op_addA (pe_callTy call_str_int (by rfl) T.z_str (by decide +kernel) (pa_cons (pe_ix ix_seq (pe_ix ix_seq (pv 3) (pv 7) (fun _ _ => rfl)) pe_int (fun _ _ => rfl)) pa_nil)) pe_str) (pe_callTy call_str_int (by rfl) T.z_str (by decide +kernel) (pa_cons (pe_ix ix_seq (pe_ix ix_seq (pv 3) (pv 7) (fun _ _ => rfl)) pe_int (fun _ _ => rfl)) pa_nil))) pe_str))
  (pss_one (ps_expr (pe_bm PySem.F.plainAttrs_list PySem.F.slot_list_append PySem.F.type_list_append mt_append (pv 5) (pa_cons (pe_op op_addA (pe_op op_addA (pe_op op_addA (pe_ix ix_seq (pv 1) pe_int (fun _ _ => rfl)) pe_str) (pv 8)) (pe_ix ix_seq (pv 6) (pv 7) (fun _ _ => rfl))) pa_nil))))))
  (pss_cons (ps_if (pt_cmpR (op_neD hu) (pcall c__law_kind hr (by decide) (by rfl) passL (pa_cons (pe_join pe_str (pv 5)) pa_nil)) pe_str (nomark _))
  (pss_one (ps_ret pe_bl))
  pss_nil)
  (pss_cons (ps_asg (pcall c__law_odd hr (by decide) (by rfl) passL (pa_cons (pv 1) (pa_cons (pe_ix ix_seq (pv 3) pe_int (fun _ _ => rfl)) (pa_cons (pcall c__law_cell_at hr (by decide) (by rfl) passL (pa_cons (pv 0) (pa_cons pe_int pa_nil))) pa_nil)))) (pg_tup (by rfl) (pgs_cons (pg_name (i := 9) sc_law.nd rfl (by first | exact Or.inl rfl | exact Or.inr rfl)) (pgs_cons (pg_name (i := 10) sc_law.nd rfl (by first | exact Or.inl rfl | exact Or.inr rfl)) (pgs_cons (pg_name (i := 11) sc_law.nd rfl (by first | exact Or.inl rfl | exact Or.inr rfl)) pgs_nil)))))
  (pss_cons (ps_if (pt_cmpR (op_eqD hu) (pv 11) pe_int (nomark _))
  (pss_one (ps_ret (pe_cmpR (op_eqD hu) (pcall c__law_kind hr (by decide) (by rfl) passL (pa_cons (pe_ix ix_seq (pv 5) pe_int (fun _ _ => rfl)) pa_nil)) pe_str (nomark _))))
  pss_nil)
  (pss_cons (ps_if (pt_cmpR op_gt (pv 11) pe_int (nomark _))
  (pss_cons (ps_set (i := 12) sc_law.nd rfl (by first | exact Or.inl rfl | exact Or.inr rfl) (pe_ix ix_seq (pe_lst (pa_cons (pe_op op_addA (pe_join pe_str (pv 5)) pe_str) (pa_cons pe_str (pa_cons (pe_op op_addA (pe_join pe_str (pv 5)) pe_str) pa_nil)))) (pe_op op_sub (pv 11) pe_int) (fun _ _ => rfl)))
  (pss_one (ps_ret (pe_cmpR (op_eqD hu) (pcall c__law_kind hr (by decide) (by rfl) passL (pa_cons (pv 12) pa_nil)) pe_str (nomark _)))))
  pss_nil)
  (pss_cons (ps_if (pt_cmpR (op_eqD hu) (pv 11) pe_int (nomark _))
  (pss_one (ps_set (i := 10) sc_law.nd rfl (by first | exact Or.inl rfl | exact Or.inr rfl) (pe_ix ix_seq (pv 5) pe_int (fun _ _ => rfl))))
  pss_nil)
  (pss_cons (ps_asg (pv 10) (pg_sub (pv 5) (pv 9) set_list))
  (pss_one (ps_ret (pe_cmpR (op_eqD hu) (pcall c__law_kind hr (by decide) (by rfl) passL (pa_cons (pe_join pe_str (pv 5)) pa_nil)) (pe_ix ix_seq (pe_lst (pa_cons pe_str (pa_cons pe_str pa_nil))) (pe_callTy call_intA (by rfl) T.z_int (by decide +kernel) (pa_cons (pe_cmpR op_gt (pv 11) pe_int (nomark _)) pa_nil)) (fun _ _ => rfl)) (nomark _))))))))))))))))
theorem ini_law {K : PySem.W.Frag} {sp : SpD} (h : ∀ as M k e, sp as M k e → ∃ a0, as = [a0] ∧ ∀ P0 E, XL K P0 E e → WS K P0 (t_law K E) [some a0, none, none, none, none, none, none, none, none, none, none, none, none] M (fun _ M' => k (.va .none) M') k (fun _ _ => False) (fun _ _ => False)) : Keeps K ["_law_script", "_law_names", "_law_parts", "_law_shares", "_law_part", "_law_rows", "_law_bodies", "_law_k", "_law_told", "_law_at", "_law_row", "_law_why", "_law_text"] ["_law_script"] (t_law K) sp := fun as M k e hs => by
  obtain ⟨a0, rfl, h⟩ := h as M k e hs
  exact ⟨rfl, fun P0 E hE => h P0 E hE⟩

set_option maxHeartbeats 4000000 in
theorem v_law {K : PySem.W.Frag} : Keeps K ["_law_script", "_law_names", "_law_parts", "_law_shares", "_law_part", "_law_rows", "_law_bodies", "_law_k", "_law_told", "_law_at", "_law_row", "_law_why", "_law_text"] ["_law_script"] (t_law K) (spLaw 63) := by
  refine ini_law ?_
  rintro as M k e ⟨ns, rfl, hns, hM0, hk⟩
  refine ⟨_, rfl, fun P0 E hE => ?_⟩
  unfold t_law
  walk_at "run"
  refine ⟨_, 3, rfl, by decide, fun ss hss hnd hsy => ?_⟩
  obtain ⟨A, w, n, rfl⟩ : ∃ A w n, ss = [A, w, n] := by
    match ss, hss with
    | [A, w, n], _ => exact ⟨A, w, n, rfl⟩
  walk_at "run"
  refine we_lstV ?_
  walk_at "run"
  have a0 := Int.emod_nonneg (cell ns 1) (show (9 : Int) ≠ 0 by decide)
  have a1 := Int.emod_lt_of_pos (cell ns 1) (show (0 : Int) < 9 by decide)
  have b0 := Int.emod_nonneg (cell ns 2) (show (9 : Int) ≠ 0 by decide)
  have b1 := Int.emod_lt_of_pos (cell ns 2) (show (0 : Int) < 9 by decide)
  generalize hA : 1 + cell ns 1 % 9 = a
  generalize hB : 1 + cell ns 2 % 9 = b
  have ha1 : 1 ≤ a ∧ a ≤ 9 := by omega
  have hb1 : 1 ≤ b ∧ b ≤ 9 := by omega
  refine ⟨[.int a, .int b], rfl, by simp, ?_⟩
  walk_at "run"
  refine we_lcP (gon_name (by decide)) (wi_seqL ?_)
  walk_at "run"
  refine ⟨_, RL.sh _, fun i => some (shD (shr ([a, b].getD i 0) (a + b))), by simp, fun M' _ => RL.sh _, ?_, ?_⟩
  · intro i M' hi hM'
    have hi : i < 2 := hi
    have es : ([a, b] : List Int).sum = a + b := by simp
    have key : ∀ x : Int, 1 ≤ x → x ≤ 9 → shr ([a, b].getD i 0) (a + b) = shr x (a + b) → True := fun _ _ _ _ => trivial
    obtain rfl | rfl : i = 0 ∨ i = 1 := by omega
    · refine wg_name ⟨rfl, wt_yes ⟨rfl, fun _ => ?_, fun z => by cases z⟩⟩
      walk_at "run"
      refine rc_sum (ns := [a, b]) (RL.sh _) ?_
      rw [es]
      walk_at "run"
      refine cl_lshare (by omega) (by omega) ?_
      exact ⟨rfl, _, rfl, rfl⟩
    · refine wg_name ⟨rfl, wt_yes ⟨rfl, fun _ => ?_, fun z => by cases z⟩⟩
      walk_at "run"
      refine rc_sum (ns := [a, b]) (RL.sh _) ?_
      rw [es]
      walk_at "run"
      refine cl_lshare (by omega) (by omega) ?_
      exact ⟨rfl, _, rfl, rfl⟩
  refine ws_g (G' := [some (.va (scD ns)), some (.va (strsD [A, w, n])), some (.va (.list [.int a, .int b])), some (.va (.list [shD (shr a (a + b)), shD (shr b (a + b))])), none, none, none, none, none, none, none, none, none]) rfl ?_
  have k60 : (18 : Int) < 10 ^ 60 := by decide
  have k18 : a + b < 10 ^ 60 := by omega
  obtain ⟨p1, p2, p3, p4, p5⟩ := shr_wr (a := a) (b := a + b) ha1.1 (by omega) k18
  obtain ⟨r1, r2, r3, r4, r5⟩ := shr_wr (a := b) (b := a + b) hb1.1 (by omega) k18
  have dens : ∀ x : Int, 1 ≤ x → x ≤ 9 → (shr x (a + b)).den ≤ 18 := fun x h1 h2 => by
    have e2 := shr_den (t := x) (b := a + b) (by omega)
    have : (a + b) / (Int.gcd x (a + b) : Int) ≤ a + b := Int.ediv_le_self _ (by omega)
    omega
  have hsum : shr a (a + b) + shr b (a + b) = 1 := by
    have := shr_two ha1.1 hb1.1
    grind
  have dn1 := dens a ha1.1 ha1.2
  have dn2 := dens b hb1.1 hb1.2
  generalize shr a (a + b) = q1 at *
  generalize shr b (a + b) = q2 at *
  have hA := hsy A (by simp)
  have hw := hsy w (by simp)
  have hn := hsy n (by simp)
  have g : Gk A w n q1 q2 := ⟨hA.1, hw.1, hn.1, fun z => by subst z; simp at hnd, hsum, ⟨p5, p1, p2, dn1⟩, ⟨r5, r1, r2, dn2⟩⟩
  have lsym : ∀ x : Str, isSym x = true → x.length ≤ 8 := fun x hx => by rw [TL.len_tl]; exact (sym_signs hx).1
  have lA := lsym A hA.1
  have lw := lsym w hw.1
  have ln := lsym n hn.1
  have l0 : (Str.ofString "start ").length ≤ 70 := by decide +kernel
  have l1 : (Str.ofString " ").length ≤ 70 := by decide +kernel
  have l2 : (Str.ofString "/").length ≤ 70 := by decide +kernel
  have l3 : (Str.ofString ": ").length ≤ 70 := by decide +kernel
  walk_at "run"
  refine we_lst ?_
  walk_at "run"
  refine r2_ixL (RL.sh _) (i := ((0 : Nat) : Int)) (atI_nat rfl) ?_
  walk_at "run"
  refine r2_addS (by (try simp only [len_app]); omega) ?_
  walk_at "run"
  refine ⟨by simp, fun p hp => ?_⟩
  walk_at "run"
  refine we_lstV ?_
  walk_at "run"
  refine r2_ixL (RL.sh _) (i := ((1 : Nat) : Int)) (atI_nat rfl) ?_
  walk_at "run"
  refine r2_ixL (RL.sh _) (i := ((0 : Nat) : Int)) (atI_nat rfl) ?_
  walk_at "run"
  refine r2_addS (by (try simp only [len_app]); omega) ?_
  walk_at "run"
  refine r2_ixL (RL.sh _) (i := ((2 : Nat) : Int)) (atI_nat rfl) ?_
  walk_at "run"
  refine r2_addS (by (try simp only [len_app]); omega) ?_
  walk_at "run"
  refine ⟨[.str w, .str (A ++ " " ++ n)], rfl, by simp, ?_⟩
  walk_at "run"
  have lK : (rowsK A w n q1 q2).length = 3 := rfl
  refine ws_seq (ws_mid (fun G' M' => (∃ z7 z8, G' = [some (.va (scD ns)), some (.va (strsD [A, w, n])), some (.va (.list [.int a, .int b])), some (.va (.list [shD q1, shD q2])), none, some (.rf (.ref p)), some (.va (.list [.str w, .str (A ++ " " ++ n)])), z7, z8, none, none, none, none]) ∧ M' = mup M p (.lst (((rowsK A w n q1 q2).map PyData.str).map Sv.va))) (ws_for (wi_rng1 ?_)) ?_)
  · walk_at "run"
    refine ⟨_, rfl, by decide, by decide, ?_⟩
    refine ⟨fun i G' M' => (∃ z7 z8, G' = [some (.va (scD ns)), some (.va (strsD [A, w, n])), some (.va (.list [.int a, .int b])), some (.va (.list [shD q1, shD q2])), none, some (.rf (.ref p)), some (.va (.list [.str w, .str (A ++ " " ++ n)])), z7, z8, none, none, none, none]) ∧ M' = mup M p (.lst ((((rowsK A w n q1 q2).take (i + 1)).map PyData.str).map Sv.va)),
      ⟨⟨_, _, rfl⟩, rfl⟩, fun _ _ _ _ _ => trivial, ?_, ?_⟩
    · rintro i G' M' hi ⟨⟨z7, z8, rfl⟩, rfl⟩
      have hi : i < 2 := hi
      obtain ⟨q, bd, row, e1, e2, e3, e4, q0, qn, qd, lb⟩ : ∃ (q : Rat) (bd row : Str), atI (([shD q1, shD q2] : List PyData).map Sv.va) (i : Int) = some (.va (shD q)) ∧ atI (([.str w, .str (A ++ " " ++ n)] : List PyData).map Sv.va) (i : Int) = some (.va (.str bd)) ∧ (rowsK A w n q1 q2)[i + 1]? = some row ∧ A ++ " " ++ toldS q ++ bd = row ∧ 0 ≤ q ∧ q.num < 10 ^ 60 ∧ q.den < 10 ^ 60 ∧ bd.length ≤ 200 := by
        obtain rfl | rfl : i = 0 ∨ i = 1 := by omega
        · exact ⟨q1, w, _, atI_nat rfl, atI_nat rfl, rfl, row1_put, p5, p2, p3, by omega⟩
        · exact ⟨q2, A ++ " " ++ n, _, atI_nat rfl, atI_nat rfl, rfl, row2_put, r5, r2, r3, by rw [len_app, len_app]; omega⟩
      obtain ⟨nn, hnn⟩ := Int.eq_ofNat_of_zero_le (Rat.num_nonneg.mpr q0)
      have etold : toldS q = numS q.num ++ "/" ++ numS (q.den : Int) ++ ": " := rfl
      have log2 : ∀ m : Nat, m < 10 ^ 60 → m.log2 < 1920 := fun m hm => by
        by_cases q : m = 0
        · subst q; decide
        · refine (Nat.log2_lt q).mpr (Nat.lt_of_lt_of_le hm ?_)
          exact Nat.le_trans (show 10 ^ 60 ≤ 2 ^ 200 by decide) (Nat.pow_le_pow_right (by decide) (by decide))
      have lnum : (numS q.num).length ≤ 60 := by
        rw [hnn, TL.len_tl, tl_numS]
        exact TL.numL_len (by decide) (by omega)
      have lden : (numS (q.den : Int)).length ≤ 60 := by
        rw [TL.len_tl, tl_numS]
        exact TL.numL_len (by decide) (by omega)
      refine wg_name ?_
      walk_at "run"
      refine r2_ixL (RL.sh _) e1 ?_
      walk_at "run"
      refine rc_str (by rw [hnn]; exact log2 nn (by omega)) ?_
      have t1 : (toString q.num : Str) = numS q.num := rfl
      rw [t1]
      walk_at "run"
      refine r2_addS (by (try simp only [len_app]); omega) ?_
      walk_at "run"
      refine r2_ixL (RL.sh _) e1 ?_
      walk_at "run"
      refine rc_str (log2 _ qd) ?_
      have t2 : (toString (q.den : Int) : Str) = numS (q.den : Int) := rfl
      rw [t2]
      refine r2_addS (by (try simp only [len_app]); omega) ?_
      walk_at "run"
      refine r2_addS (by (try simp only [len_app]); omega) ?_
      have ltold : (toldS q).length ≤ 300 := by
        rw [etold]
        simp only [len_app]
        omega
      rw [← etold]
      walk_at "run"
      refine we_append ?_
      walk_at "run"
      refine ⟨p, rfl, ⟨_, mup_same⟩, ?_⟩
      walk_at "run"
      refine r2_ixL (RL.sh _) (i := ((0 : Nat) : Int)) (atI_nat rfl) ?_
      walk_at "run"
      refine r2_addS (by (try simp only [len_app]); omega) ?_
      walk_at "run"
      refine r2_addS (by (try simp only [len_app]); omega) ?_
      walk_at "run"
      refine r2_ixL (RL.sh _) e2 ?_
      refine r2_addS (by (try simp only [len_app]); omega) ?_
      rw [e4]
      walk_at "run"
      have et : (rowsK A w n q1 q2).take (i + 1 + 1) = (rowsK A w n q1 q2).take (i + 1) ++ [row] := by
        rw [List.take_succ (i := i + 1), e3]
        rfl
      refine ⟨_, _, rfl, mup_same, by simp only [List.length_map, List.length_take]; omega, ⟨_, _, rfl⟩, ?_⟩
      rw [mup_mup, et, List.map_append, List.map_append]
      rfl
    · rintro G' M' ⟨h, rfl⟩
      exact ⟨h, rfl⟩
  rintro G' M' ⟨⟨z7, z8, rfl⟩, rfl⟩
  have hkK := kind_K g
  have sh1 : ∀ x : Str, PyData.strOk x = true → SeqAt.shaped (.str x) = true := fun x hx => by
    show (PyData.canLay0 (.str x) && decide (PyData.depth (.str x) ≤ 64)) = true
    rw [show PyData.canLay0 (.str x) = PyData.strOk x from rfl, hx]
    rfl
  refine ws_next (ws_seq (ws_ifP (b := false) (tp_test ?_) (fun z => by cases z) (fun _ => ?_)))
  · unfold EP1
    refine we_op (we_call0 (wa_cons (we_join (we_str ⟨"\n", rfl, we_var rfl ⟨rowsK A w n q1 q2, RL.ow mup_same, kind_fit hkK (by simp [rowsK]), ?_⟩⟩))))
    walk_at "run"
    refine cl_kind hkK ?_
    refine we_str (r2_neD (DR.sh _) (DR.sh _) (by decide +kernel) (by decide +kernel) ?_)
    rw [eqv_str, decide_eq_true rfl]
    exact ⟨rfl, rfl⟩
  refine ws_next ?_
  refine ws_seq (ws_asgG ?_)
  walk_at "run"
  refine r2_ixL (RL.sh _) (i := ((0 : Nat) : Int)) (atI_nat rfl) ?_
  walk_at "run"
  refine ⟨A, w, n, q1, cell ns 3, rfl, p5, p2, p3, lA, lw, ln, fun t ht => ?_⟩
  have ho := odd_all g t ht
  obtain ⟨at_, row, why⟩ := t
  refine wg_tup (ds := [.int at_, .str row, .int why]) rfl (wgs_cons (wg_name (wgs_cons (wg_name (wgs_cons (wg_name (wgs_nil ?_)))))))
  have hne : ∀ (j : Nat) (r : Str), (rowsK A w n q1 q2).set j r ≠ [] := fun j r z => by
    have := congrArg List.length z
    rw [List.length_set] at this
    simp [rowsK] at this
  have hD : why = 3 ∨ why = 4 ∨ why = 5 ∨ why = 6 ∨ (why < 3 ∧ ∃ (row' : Str) (j : Nat) (s : Str), at_ = (j : Int) ∧ j < 3 ∧ KindIs (Txt.join "\n" ((rowsK A w n q1 q2).set j row')) s ∧ ((¬ 0 < why ∧ s = "no text") ∨ (0 < why ∧ s = "no grammar")) ∧ (why = 2 → (rowsK A w n q1 q2)[1]? = some row') ∧ (why ≠ 2 → row' = row)) := by
    rcases ho with ⟨s, h1, h2⟩ | h | h | h | h | h
    · refine .inr (.inr (.inr (.inr ?_)))
      have h1 : (why = 0 ∧ s = "no text") ∨ (why = 1 ∧ s = "no grammar") := h1
      have h2 : (at_ = 0 ∧ KindIs (Txt.join "\n" [row, rowOf (R1 A w q1), rowOf (R2' A n q2)]) s) ∨ (at_ = 1 ∧ KindIs (Txt.join "\n" ["start " ++ A, row, rowOf (R2' A n q2)]) s) := h2
      have h3 : (¬ 0 < why ∧ s = "no text") ∨ (0 < why ∧ s = "no grammar") := by
        rcases h1 with ⟨a, b⟩ | ⟨a, b⟩
        · exact .inl ⟨by omega, b⟩
        · exact .inr ⟨by omega, b⟩
      refine ⟨by rcases h1 with ⟨a, _⟩ | ⟨a, _⟩ <;> omega, row, ?_⟩
      rcases h2 with ⟨a, b⟩ | ⟨a, b⟩
      · exact ⟨0, s, a, by decide, b, h3, fun z => by rcases h1 with ⟨a, _⟩ | ⟨a, _⟩ <;> omega, fun _ => rfl⟩
      · exact ⟨1, s, a, by decide, b, h3, fun z => by rcases h1 with ⟨a, _⟩ | ⟨a, _⟩ <;> omega, fun _ => rfl⟩
    · cases h
      exact .inr (.inr (.inr (.inr ⟨by decide, _, 2, _, rfl, by decide, kind_twice g, .inr ⟨by decide, rfl⟩, fun _ => rfl, fun z => absurd rfl z⟩)))
    · cases h; exact .inl rfl
    · cases h; exact .inr (.inl rfl)
    · cases h; exact .inr (.inr (.inl rfl))
    · cases h; exact .inr (.inr (.inr (.inl rfl)))
  clear ho ht
  have hmany : why = 4 ∨ why = 5 ∨ why = 6 → True := fun _ => trivial
  by_cases q3 : why = 3
  · subst q3
    refine ws_seq (ws_ifP (by walk_at "tp") (fun _ => ?_) (fun h => absurd h (by rw [eqv_int2]; decide)))
    refine ws_ret (we_op (we_call0 (wa_cons ?_)))
    walk_at "run"
    refine r2_ixL (RL.ow mup_same) (i := ((0 : Nat) : Int)) (atI_nat rfl) ?_
    walk_at "run"
    refine cl_kind (kind_alone g) ?_
    refine we_str (r2_eqD (DR.sh _) (DR.sh _) (by decide +kernel) (by decide +kernel) ?_)
    rw [eqv_str, decide_eq_true rfl]
    exact hk _
  refine ws_seq (ws_ifP (by walk_at "tp") (fun h => absurd h (by rw [eqv_int2, decide_eq_true_iff]; exact q3)) (fun _ => ws_next ?_))
  by_cases q4 : 3 < why
  · refine ws_seq (ws_ifP (by walk_at "tp") (fun _ => ?_) (fun h => absurd (of_decide_eq_false h) (by omega)))
    have hl := hkK.1
    have l4 : (Str.ofString "\n").length ≤ 70 := by decide +kernel
    obtain ⟨txt, htx, hkt⟩ : ∃ txt : Str, atI (([.str (Txt.join "\n" (rowsK A w n q1 q2) ++ "\n"), .str "", .str (Txt.join "\n" (rowsK A w n q1 q2) ++ " ")] : List PyData).map Sv.va) (why - 4) = some (.va (.str txt)) ∧ KindIs txt "no text" := by
      rcases hD with h | h | h | h | h
      · omega
      · subst h; exact ⟨_, atI_nat (j := 0) rfl, kind_feed g⟩
      · subst h; exact ⟨_, atI_nat (j := 1) rfl, kind_empty⟩
      · subst h; exact ⟨_, atI_nat (j := 2) rfl, kind_blank g⟩
      · omega
    refine ws_seq (ws_asg ?_)
    refine we_op (we_lstV (wa_cons (we_op (we_join (we_str ⟨"\n", rfl, we_var rfl ⟨rowsK A w n q1 q2, RL.ow mup_same, kind_fit hkK (by simp [rowsK]), ?_⟩⟩)))))
    refine we_str (r2_addS (by omega) (wa_cons (we_str (wa_cons (we_op (we_join (we_str ⟨"\n", rfl, we_var rfl ⟨rowsK A w n q1 q2, RL.ow mup_same, kind_fit hkK (by simp [rowsK]), ?_⟩⟩)))))))
    refine we_str (r2_addS (by omega) (wa_nil ⟨[.str (Txt.join "\n" (rowsK A w n q1 q2) ++ "\n"), .str "", .str (Txt.join "\n" (rowsK A w n q1 q2) ++ " ")], rfl, by simp, ?_⟩))
    walk_at "run"
    refine r2_ixL (RL.sh _) htx ?_
    refine ws_ret (we_op (we_call0 (wa_cons (we_var rfl (wa_nil (cl_kind hkt ?_))))))
    refine we_str (r2_eqD (DR.sh _) (DR.sh _) (by decide +kernel) (by decide +kernel) ?_)
    rw [eqv_str, decide_eq_true rfl]
    exact hk _
  refine ws_seq (ws_ifP (by walk_at "tp") (fun h => absurd (of_decide_eq_true h) q4) (fun _ => ws_next ?_))
  obtain ⟨hw3, row', j, s, hj, hj3, hkd, hs, hr2, hr⟩ : (why < 3 ∧ ∃ (row' : Str) (j : Nat) (s : Str), at_ = (j : Int) ∧ j < 3 ∧ KindIs (Txt.join "\n" ((rowsK A w n q1 q2).set j row')) s ∧ ((¬ 0 < why ∧ s = "no text") ∨ (0 < why ∧ s = "no grammar")) ∧ (why = 2 → (rowsK A w n q1 q2)[1]? = some row') ∧ (why ≠ 2 → row' = row)) := by
    rcases hD with h | h | h | h | h
    · omega
    · omega
    · omega
    · omega
    · exact h
  subst hj
  refine ws_seq (ws_mid (fun G' M' => G' = [some (.va (scD ns)), some (.va (strsD [A, w, n])), some (.va (.list [.int a, .int b])), some (.va (.list [shD q1, shD q2])), none, some (.rf (.ref p)), some (.va (.list [.str w, .str (A ++ " " ++ n)])), z7, z8, some (.va (.int (j : Int))), some (.va (.str row')), some (.va (.int why)), none] ∧ M' = mup M p (.lst (((rowsK A w n q1 q2).map PyData.str).map Sv.va))) ?_ ?_)
  · refine ws_ifP (by walk_at "tp") (fun h => ?_) (fun h => ?_)
    · rw [eqv_int2] at h
      have h := of_decide_eq_true h
      have e1 := hr2 h
      walk_at "run"
      refine r2_ixL (RL.ow mup_same) (i := ((1 : Nat) : Int)) (t := .va (.str row')) (atI_nat (by rw [List.getElem?_map, List.getElem?_map, e1]; rfl)) ?_
      walk_at "run"
      exact ⟨rfl, rfl⟩
    · rw [eqv_int2] at h
      have h := of_decide_eq_false h
      have e1 := hr h
      subst e1
      walk_at "run"
      exact ⟨rfl, rfl⟩
  rintro G' M' ⟨rfl, rfl⟩
  refine ws_seq (ws_asgG (we_var rfl (wg_subL (we_var rfl (we_var rfl ⟨p, _, _, j, rfl, rfl, mup_same, ?_, ?_⟩)))))
  · have e : ((((rowsK A w n q1 q2).map PyData.str).map Sv.va)).length = 3 := rfl
    rw [e]
    obtain rfl | rfl | rfl : j = 0 ∨ j = 1 ∨ j = 2 := by omega
    · rfl
    · rfl
    · rfl
  rw [mup_mup]
  have eset : (((rowsK A w n q1 q2).map PyData.str).map Sv.va).set j (.va (.str row')) = (((rowsK A w n q1 q2).set j row').map PyData.str).map Sv.va := by
    rw [List.map_set, List.map_set]
  rw [eset]
  refine ws_ret (we_op (we_call0 (wa_cons (we_join (we_str ⟨"\n", rfl, we_var rfl ⟨(rowsK A w n q1 q2).set j row', RL.ow mup_same, kind_fit hkd (hne _ _), wa_nil (cl_kind hkd ?_)⟩⟩)))))
  refine we_op (we_lstV ?_)
  walk_at "run"
  refine ⟨[.str "no text", .str "no grammar"], rfl, by simp, ?_⟩
  walk_at "run"
  refine rc_intB ?_
  rcases hs with ⟨h1, rfl⟩ | ⟨h1, rfl⟩
  · rw [decide_eq_false h1]
    refine r2_ixL (RL.sh _) (i := ((0 : Nat) : Int)) (t := .va (.str "no text")) (atI_nat rfl) ?_
    refine r2_eqD (DR.sh _) (DR.sh _) (by decide +kernel) (by decide +kernel) ?_
    rw [eqv_str, decide_eq_true rfl]
    exact hk _
  · rw [decide_eq_true h1]
    refine r2_ixL (RL.sh _) (i := ((1 : Nat) : Int)) (t := .va (.str "no grammar")) (atI_nat rfl) ?_
    refine r2_eqD (DR.sh _) (DR.sh _) (by decide +kernel) (by decide +kernel) ?_
    rw [eqv_str, decide_eq_true rfl]
    exact hk _

def fa : List He.Fa := [.free "len",
  .free "list",
  .free "int",
  .free "tuple",
  .free "ValueError",
  .free "isinstance",
  .free "str",
  .free "range",
  .free "sum",
  .exc "NoShare",
  .glo "NoShare",
  .exc "NoGrammar",
  .glo "NoGrammar",
  .exc "NoText",
  .glo "NoText",
  .exc "NoEnd",
  .glo "NoEnd",
  .exc "NoTree",
  .glo "NoTree",
  .exc "ScoreError",
  .glo "ScoreError",
  .exm "NoShare" "ScoreError" true,
  .exm "NoGrammar" "ScoreError" true,
  .exm "NoText" "ScoreError" true,
  .str "LETTERS" "abcdefghijklmnopqrstuvwxyzABCDEFGHIJKLMNOPQRSTUVWXYZ",
  .int "LONGEST" 8,
  .int "MOST_BODY" 4,
  .glo "ALL",
  .int "MOST_RULES" 30,
  .glo "NONE",
  .str "FIGURES" "0123456789",
  .int "MOST_FIGURES" 60,
  .glo "Grammar",
  .cls "Grammar",
  .noat "Grammar" "begun",
  .noat "Grammar" "listed",
  .noat "Grammar" "headed",
  .noat "Grammar" "living",
  .glo "divisor",
  .glo "share",
  .glo "added",
  .glo "is_symbol",
  .glo "need_rule",
  .meth "Grammar" "found_live",
  .mkr "Grammar",
  .meth "Grammar" "rules",
  .meth "Grammar" "start",
  .glo "number_of",
  .glo "need_symbol",
  .glo "rule_of",
  .glo "read",
  .glo "_law_kind",
  .glo "_law_odd",
  .glo "_law_cell_at",
  .glo "_law_share",
  .glo "_law_symbols",
  .glo "law"]
def fn : List He.DefD := [⟨("divisor", none), "divisor", "divisor", defArgs s_divisor, defBody s_divisor, defScope s_divisor, [], []⟩,
  ⟨("share", none), "share", "share", defArgs s_share, defBody s_share, defScope s_share, [], []⟩,
  ⟨("added", none), "added", "added", defArgs s_added, defBody s_added, defScope s_added, [], []⟩,
  ⟨("is_symbol", none), "is_symbol", "is_symbol", defArgs s_is_symbol, defBody s_is_symbol, defScope s_is_symbol, [], []⟩,
  ⟨("need_rule", none), "need_rule", "need_rule", defArgs s_need_rule, defBody s_need_rule, defScope s_need_rule, [], []⟩,
  ⟨("Grammar", some "found_live"), "found_live", "Grammar.found_live", defArgs s_Grammar_found_live, defBody s_Grammar_found_live, defScope s_Grammar_found_live, [], []⟩,
  ⟨("Grammar", some "__init__"), "__init__", "Grammar.__init__", defArgs s_Grammar___init__, defBody s_Grammar___init__, defScope s_Grammar___init__, [], []⟩,
  ⟨("Grammar", some "rules"), "rules", "Grammar.rules", defArgs s_Grammar_rules, defBody s_Grammar_rules, defScope s_Grammar_rules, [], []⟩,
  ⟨("Grammar", some "start"), "start", "Grammar.start", defArgs s_Grammar_start, defBody s_Grammar_start, defScope s_Grammar_start, [], []⟩,
  ⟨("number_of", none), "number_of", "number_of", defArgs s_number_of, defBody s_number_of, defScope s_number_of, [], []⟩,
  ⟨("need_symbol", none), "need_symbol", "need_symbol", defArgs s_need_symbol, defBody s_need_symbol, defScope s_need_symbol, [], []⟩,
  ⟨("rule_of", none), "rule_of", "rule_of", defArgs s_rule_of, defBody s_rule_of, defScope s_rule_of, [], []⟩,
  ⟨("read", none), "read", "read", defArgs s_read, defBody s_read, defScope s_read, [], []⟩,
  ⟨("_law_kind", none), "_law_kind", "_law_kind", defArgs s__law_kind, defBody s__law_kind, defScope s__law_kind, [], []⟩,
  ⟨("_law_odd", none), "_law_odd", "_law_odd", defArgs s__law_odd, defBody s__law_odd, defScope s__law_odd, [], []⟩,
  ⟨("_law_cell_at", none), "_law_cell_at", "_law_cell_at", defArgs s__law_cell_at, defBody s__law_cell_at, defScope s__law_cell_at, [], []⟩,
  ⟨("_law_share", none), "_law_share", "_law_share", defArgs s__law_share, defBody s__law_share, defScope s__law_share, [], []⟩,
  ⟨("_law_symbols", none), "_law_symbols", "_law_symbols", defArgs s__law_symbols, defBody s__law_symbols, defScope s__law_symbols, [], []⟩,
  ⟨("law", none), "law", "law", defArgs s_law, defBody s_law, defScope s_law, [], []⟩]
def exB (K : PySem.W.Frag) : Bool := [sysB K,
  excCB K "NoShare",
  kitXB K "NoShare" "NoEnd" false,
  kitXB K "NoShare" "NoGrammar" false,
  kitXB K "NoShare" "NoShare" true,
  kitXB K "NoShare" "NoText" false,
  kitXB K "NoShare" "NoTree" false,
  kitXT K "NoShare" "ValueError" true,
  excCB K "NoGrammar",
  kitXB K "NoGrammar" "NoEnd" false,
  kitXB K "NoGrammar" "NoGrammar" true,
  kitXB K "NoGrammar" "NoShare" false,
  kitXB K "NoGrammar" "NoText" false,
  kitXB K "NoGrammar" "NoTree" false,
  kitXT K "NoGrammar" "ValueError" true,
  excCB K "NoText",
  kitXB K "NoText" "NoEnd" false,
  kitXB K "NoText" "NoGrammar" false,
  kitXB K "NoText" "NoShare" false,
  kitXB K "NoText" "NoText" true,
  kitXB K "NoText" "NoTree" false,
  kitXT K "NoText" "ValueError" true,
  He.tupB K "ALL" [.int 1, .int 1],
  He.tupB K "NONE" [.int 0, .int 1]].all id
theorem tx_of {P : Program} {K : PySem.W.Frag} {h : Heap} {mg : Str → Option Value} (ht : P.given.tree = none) (X : K.In h) (G : h.Ns mainGlobals mg) (c : SaysY fa fn exB K) : Tx P K mg where
  sys := sysB_ok ht (all_at c.more 0 rfl)
  z_len := He.free_ok X G (c.d.fact 0 (f := .free "len") rfl)
  z_list := He.free_ok X G (c.d.fact 1 (f := .free "list") rfl)
  z_int := He.free_ok X G (c.d.fact 2 (f := .free "int") rfl)
  z_tuple := He.free_ok X G (c.d.fact 3 (f := .free "tuple") rfl)
  z_ValueError := He.free_ok X G (c.d.fact 4 (f := .free "ValueError") rfl)
  z_isinstance := He.free_ok X G (c.d.fact 5 (f := .free "isinstance") rfl)
  z_str := He.free_ok X G (c.d.fact 6 (f := .free "str") rfl)
  z_range := He.free_ok X G (c.d.fact 7 (f := .free "range") rfl)
  z_sum := He.free_ok X G (c.d.fact 8 (f := .free "sum") rfl)
  e_NoShare := excX_ok X G (c.d.fact 9 (f := .exc "NoShare") rfl) (c.d.fact 10 (f := .glo "NoShare") rfl)
  e_NoGrammar := excX_ok X G (c.d.fact 11 (f := .exc "NoGrammar") rfl) (c.d.fact 12 (f := .glo "NoGrammar") rfl)
  e_NoText := excX_ok X G (c.d.fact 13 (f := .exc "NoText") rfl) (c.d.fact 14 (f := .glo "NoText") rfl)
  e_NoEnd := excX_ok X G (c.d.fact 15 (f := .exc "NoEnd") rfl) (c.d.fact 16 (f := .glo "NoEnd") rfl)
  e_NoTree := excX_ok X G (c.d.fact 17 (f := .exc "NoTree") rfl) (c.d.fact 18 (f := .glo "NoTree") rfl)
  e_ScoreError := excX_ok X G (c.d.fact 19 (f := .exc "ScoreError") rfl) (c.d.fact 20 (f := .glo "ScoreError") rfl)
  km_NoShare_ScoreError := He.exm_ok (c.d.fact 21 (f := .exm "NoShare" "ScoreError" true) rfl)
  xc_NoShare := excCB_ok (all_at c.more 1 rfl)
  ki_NoShare_NoEnd := kitXB_ok (all_at c.more 2 rfl)
  ki_NoShare_NoGrammar := kitXB_ok (all_at c.more 3 rfl)
  ki_NoShare_NoShare := kitXB_ok (all_at c.more 4 rfl)
  ki_NoShare_NoText := kitXB_ok (all_at c.more 5 rfl)
  ki_NoShare_NoTree := kitXB_ok (all_at c.more 6 rfl)
  ki_NoShare_ValueError := kitXT_ok (all_at c.more 7 rfl)
  km_NoGrammar_ScoreError := He.exm_ok (c.d.fact 22 (f := .exm "NoGrammar" "ScoreError" true) rfl)
  xc_NoGrammar := excCB_ok (all_at c.more 8 rfl)
  ki_NoGrammar_NoEnd := kitXB_ok (all_at c.more 9 rfl)
  ki_NoGrammar_NoGrammar := kitXB_ok (all_at c.more 10 rfl)
  ki_NoGrammar_NoShare := kitXB_ok (all_at c.more 11 rfl)
  ki_NoGrammar_NoText := kitXB_ok (all_at c.more 12 rfl)
  ki_NoGrammar_NoTree := kitXB_ok (all_at c.more 13 rfl)
  ki_NoGrammar_ValueError := kitXT_ok (all_at c.more 14 rfl)
  km_NoText_ScoreError := He.exm_ok (c.d.fact 23 (f := .exm "NoText" "ScoreError" true) rfl)
  xc_NoText := excCB_ok (all_at c.more 15 rfl)
  ki_NoText_NoEnd := kitXB_ok (all_at c.more 16 rfl)
  ki_NoText_NoGrammar := kitXB_ok (all_at c.more 17 rfl)
  ki_NoText_NoShare := kitXB_ok (all_at c.more 18 rfl)
  ki_NoText_NoText := kitXB_ok (all_at c.more 19 rfl)
  ki_NoText_NoTree := kitXB_ok (all_at c.more 20 rfl)
  ki_NoText_ValueError := kitXT_ok (all_at c.more 21 rfl)
  c_LETTERS := He.str_ok X G (c.d.fact 24 (f := .str "LETTERS" "abcdefghijklmnopqrstuvwxyzABCDEFGHIJKLMNOPQRSTUVWXYZ") rfl)
  c_LONGEST := He.int_ok X G (c.d.fact 25 (f := .int "LONGEST" 8) rfl)
  c_MOST_BODY := He.int_ok X G (c.d.fact 26 (f := .int "MOST_BODY" 4) rfl)
  c_ALL := He.glo_ok X G (c.d.fact 27 (f := .glo "ALL") rfl)
  v_ALL := He.tupB_ok (all_at c.more 22 rfl)
  c_MOST_RULES := He.int_ok X G (c.d.fact 28 (f := .int "MOST_RULES" 30) rfl)
  c_NONE := He.glo_ok X G (c.d.fact 29 (f := .glo "NONE") rfl)
  v_NONE := He.tupB_ok (all_at c.more 23 rfl)
  c_FIGURES := He.str_ok X G (c.d.fact 30 (f := .str "FIGURES" "0123456789") rfl)
  c_MOST_FIGURES := He.int_ok X G (c.d.fact 31 (f := .int "MOST_FIGURES" 60) rfl)
  g_Grammar := He.glo_ok X G (c.d.fact 32 (f := .glo "Grammar") rfl)
  cl_Grammar := He.cls_ok (c.d.fact 33 (f := .cls "Grammar") rfl)
  na_Grammar_begun := He.noat_ok (c.d.fact 34 (f := .noat "Grammar" "begun") rfl)
  na_Grammar_listed := He.noat_ok (c.d.fact 35 (f := .noat "Grammar" "listed") rfl)
  na_Grammar_headed := He.noat_ok (c.d.fact 36 (f := .noat "Grammar" "headed") rfl)
  na_Grammar_living := He.noat_ok (c.d.fact 37 (f := .noat "Grammar" "living") rfl)
  f_divisor := He.glo_ok X G (c.d.fact 38 (f := .glo "divisor") rfl)
  d_divisor := df_ok c.d 0 rfl
  f_share := He.glo_ok X G (c.d.fact 39 (f := .glo "share") rfl)
  d_share := df_ok c.d 1 rfl
  f_added := He.glo_ok X G (c.d.fact 40 (f := .glo "added") rfl)
  d_added := df_ok c.d 2 rfl
  f_is_symbol := He.glo_ok X G (c.d.fact 41 (f := .glo "is_symbol") rfl)
  d_is_symbol := df_ok c.d 3 rfl
  f_need_rule := He.glo_ok X G (c.d.fact 42 (f := .glo "need_rule") rfl)
  d_need_rule := df_ok c.d 4 rfl
  me_Grammar_found_live := He.meth_ok (c.d.fact 43 (f := .meth "Grammar" "found_live") rfl)
  d_Grammar_found_live := df_ok c.d 5 rfl
  mk_Grammar := He.mkr_ok (c.d.fact 44 (f := .mkr "Grammar") rfl)
  d_Grammar___init__ := df_ok c.d 6 rfl
  me_Grammar_rules := He.meth_ok (c.d.fact 45 (f := .meth "Grammar" "rules") rfl)
  d_Grammar_rules := df_ok c.d 7 rfl
  me_Grammar_start := He.meth_ok (c.d.fact 46 (f := .meth "Grammar" "start") rfl)
  d_Grammar_start := df_ok c.d 8 rfl
  f_number_of := He.glo_ok X G (c.d.fact 47 (f := .glo "number_of") rfl)
  d_number_of := df_ok c.d 9 rfl
  f_need_symbol := He.glo_ok X G (c.d.fact 48 (f := .glo "need_symbol") rfl)
  d_need_symbol := df_ok c.d 10 rfl
  f_rule_of := He.glo_ok X G (c.d.fact 49 (f := .glo "rule_of") rfl)
  d_rule_of := df_ok c.d 11 rfl
  f_read := He.glo_ok X G (c.d.fact 50 (f := .glo "read") rfl)
  d_read := df_ok c.d 12 rfl
  f__law_kind := He.glo_ok X G (c.d.fact 51 (f := .glo "_law_kind") rfl)
  d__law_kind := df_ok c.d 13 rfl
  f__law_odd := He.glo_ok X G (c.d.fact 52 (f := .glo "_law_odd") rfl)
  d__law_odd := df_ok c.d 14 rfl
  f__law_cell_at := He.glo_ok X G (c.d.fact 53 (f := .glo "_law_cell_at") rfl)
  d__law_cell_at := df_ok c.d 15 rfl
  f__law_share := He.glo_ok X G (c.d.fact 54 (f := .glo "_law_share") rfl)
  d__law_share := df_ok c.d 16 rfl
  f__law_symbols := He.glo_ok X G (c.d.fact 55 (f := .glo "_law_symbols") rfl)
  d__law_symbols := df_ok c.d 17 rfl
  f_law := He.glo_ok X G (c.d.fact 56 (f := .glo "law") rfl)
  d_law := df_ok c.d 18 rfl
abbrev R : PySem.W.OpenRow := PySem.W.OpenLaw.row PySem.Challenge.rw_scoreflow_k23_texts_refused
abbrev hk : PySem.W.Hook := hookY 5 fa fn exB
def ob (s : PySem.W.SharedT) : AlY := obsY 5 fa fn exB (HandSHeadRun.getT s)
theorem ob_eq (s : PySem.W.SharedT) : ob s = hk.obs s.abs := obsY_eq (HandSHeadRun.getT_eq s)
abbrev looseN : List Str := [("_wall" : Str), ("ScoreError" : Str), ("NoShare" : Str), ("NoEnd" : Str), ("NoGrammar" : Str), ("NoTree" : Str), ("NoText" : Str), ("NONE" : Str), ("ALL" : Str), ("divisor" : Str), ("share" : Str), ("added" : Str), ("LETTERS" : Str), ("LONGEST" : Str), ("MOST_RULES" : Str), ("MOST_BODY" : Str), ("is_symbol" : Str), ("need_rule" : Str), ("Grammar" : Str), ("FIGURES" : Str), ("MOST_FIGURES" : Str), ("number_of" : Str), ("need_symbol" : Str), ("rule_of" : Str), ("read" : Str), ("_law_cell_at" : Str), ("_law_symbols" : Str), ("_law_share" : Str), ("_law_added" : Str), ("_law_timed" : Str), ("_law_kind" : Str), ("_law_odd" : Str)]
set_option maxHeartbeats 0 in
theorem run (w : World) : HandSHeadRun.RunEq R (PySem.W.view R.prog [37]) hk ob 4000 looseN w := by
  intro os
  kernel_rfl
theorem facts {w : World} {K : PySem.W.Frag} {h : Heap} {mg : Str → Option Value} {f : Addr} (X : K.In h) (G : h.Ns mainGlobals mg) (hfa : mg ("law" : Str) = some (.ref f)) (c : SaysY fa fn exB K) :
    ∃ fd : FuncData, (∀ (s : Shared) (u : Value), BindsTo s fd ⟨[u], []⟩ [("_law_script", u)]) ∧ ∀ base : Heap, FnOk PySem.Challenge.rw_scoreflow_k23_texts_refused.prog w K mg base (L2.CX PySem.Challenge.rw_scoreflow_k23_texts_refused.prog w) 40 f fd ["_law_script"] (lift K (spLaw 63)) := by
  have T := tx_of (P := PySem.Challenge.rw_scoreflow_k23_texts_refused.prog) rfl X G c
  obtain ⟨fd, F⟩ := T.d_law.ex
  have e := hfa.symm.trans T.f_law
  cases e
  have k_divisor := fun base : Heap => mk_divisor (w := w) (base := base) T  v_divisor
  have k_share := fun base : Heap => mk_share (w := w) (base := base) T (k_divisor base) v_share
  have k_added := fun base : Heap => mk_added (w := w) (base := base) T (k_share base) v_added
  have k_is_symbol := fun base : Heap => mk_is_symbol (w := w) (base := base) T  v_is_symbol
  have k_need_rule := fun base : Heap => mk_need_rule (w := w) (base := base) T (k_is_symbol base) v_need_rule
  have k_Grammar_found_live := fun base : Heap => mk_Grammar_found_live (w := w) (base := base) T  (v_Grammar_found_live T)
  have k_Grammar___init__ := fun base : Heap => mk_Grammar___init__ (w := w) (base := base) T (k_Grammar_found_live base) (k_added base) (k_need_rule base) (k_is_symbol base) (v_Grammar___init__ T)
  have k_Grammar_rules := fun base : Heap => mk_Grammar_rules (w := w) (base := base) T  (v_Grammar_rules T)
  have k_Grammar_start := fun base : Heap => mk_Grammar_start (w := w) (base := base) T  (v_Grammar_start T)
  have k_number_of := fun base : Heap => mk_number_of (w := w) (base := base) T  v_number_of
  have k_need_symbol := fun base : Heap => mk_need_symbol (w := w) (base := base) T (k_is_symbol base) v_need_symbol
  have k_rule_of := fun base : Heap => mk_rule_of (w := w) (base := base) T (k_need_symbol base) (k_divisor base) (k_number_of base) v_rule_of
  have k_read := fun base : Heap => mk_read (w := w) (base := base) T (k_Grammar___init__ base) (k_rule_of base) (k_need_symbol base) v_read
  have k__law_kind := fun base : Heap => mk__law_kind (w := w) (base := base) T (k_read base) (v__law_kind T)
  have k__law_odd := fun base : Heap => mk__law_odd (w := w) (base := base) T  v__law_odd
  have k__law_cell_at := fun base : Heap => mk__law_cell_at (w := w) (base := base) T  v__law_cell_at
  have k__law_share := fun base : Heap => mk__law_share (w := w) (base := base) T  v__law_share
  have k__law_symbols := fun base : Heap => mk__law_symbols (w := w) (base := base) T  v__law_symbols
  have b := FunD.bindsA (ps := ["_law_script"]) F fun _ _ _ _ _ _ us hl => match us, hl with | [_], _ => rfl
  exact ⟨fd, fun s v => b s [v] rfl, fun base => fn_end F sc_law (by decide) (fun cdv A outer s H E hr => p_law T (k__law_kind base) (k__law_odd base) (k__law_cell_at base) (k__law_share base) (k__law_symbols base) hr) v_law⟩
end G91
open PySem PySem.W PySem.Calls PyProof.Rows
theorem PySem.Challenge.cw_scoreflow_k23_texts_refused_holds : PySem.Challenge.rw_scoreflow_k23_texts_refused.Holds := by
  w_on; o_law
  refine HandSHeadRun.head_any (r := PySem.W.OpenLaw.row PySem.Challenge.rw_scoreflow_k23_texts_refused) (q := PySem.W.view (PySem.W.OpenLaw.row PySem.Challenge.rw_scoreflow_k23_texts_refused).prog [37]) (H := G91.hk) (ob := G91.ob) (M := 4000) (loose := G91.looseN) (d := HandSHeadRun.topDef (PySem.W.OpenLaw.row PySem.Challenge.rw_scoreflow_k23_texts_refused).prog 37) (kwd := []) G91.ob_eq
    (by kernel_rfl) (fun s => by kernel_rfl) G91.run (by kernel_rfl) (by kernel_rfl) (by kernel_rfl) (by rfl) (by first | assumption | decide +kernel) (by decide +kernel) ⟨rfl, rfl, rfl, rfl, rfl, by decide +kernel⟩ ?hw ?hc
  case hw => w_witness2
  case hc =>
    refine G91.walkE2 (l := PySem.Challenge.rw_scoreflow_k23_texts_refused) (n := 63) (k := 40) (x := "_law_script") rfl (by decide) (by kernel_rfl) ⟨rfl, by decide, by decide⟩ ?F
    intro w mg fa h Y G hmg0
    obtain ⟨K, KX, c⟩ := Y
    have hmg : mg ("law" : PySem.Str) = some (.ref fa) := by
      have e : (HandSHeadRun.topDef (PySem.W.OpenLaw.row PySem.Challenge.rw_scoreflow_k23_texts_refused).prog 37).name = ("law" : PySem.Str) := by kernel_rfl
      rw [← e]
      exact hmg0
    obtain ⟨fd, hb, hF⟩ := G91.facts (w := w) KX G hmg c
    exact ⟨K, fd, G91.lift K (G91.spLaw 63), KX, hb, fun H a ns hl _ hS => G91.lift_law hl hS, fun base _ _ => hF base⟩
