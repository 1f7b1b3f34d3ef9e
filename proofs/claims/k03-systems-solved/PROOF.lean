import PyProof.Rows.All
import Wide.All
import OpenK.AllK
import Wide.FinOn
import HandS.ForMost
import HandS.ForExc
import HandS.Wide
import HandS.IsInst
import HandS.ExcIs
import HandS.Evl
import HandS.Deep
import HandS.TupAny
import HandS.TupMul
import HandS.Defaults
import HandS.HeadHook1
import HandS.HeadHook2
import HandS.HeadHook3
import HandS.HeadHook4
import HandS.HeadEnd
import HandS.Head0
import HandS.Head1
import HandS.Head2
import KE.IntBitsLaws
import PySem.Challenge.RW_scoreflow_k03_systems_solved
set_option Elab.async false
set_option linter.all false
set_option maxRecDepth 100000
set_option maxHeartbeats 1000000
/-! Fw1: a layer over HandS: expressions and statements read at plain data (slots, a store of changing objects), the tuples and texts hidden. -/
namespace G91
open PySem PySem.Spec PyProof.Rows L2
open Evl (Ex)

/-- a slot's or attribute's content: data (tuples, texts, numbers; lists that nobody changes), or a value as it is -/
inductive Sv where
  | va (d : PyData)
  | rf (v : V)
/-- what stands at an address that may be changed -/
inductive Ob where
  | lst (xs : List Sv)
  | dK (kvs : List (Key × Sv))
  | dT (kvs : List (List Key × Sv))
  | ins (C : Addr) (fs : List (Str × Sv))
  | tup (xs : List Sv)
abbrev Mm := Addr → Option Ob
abbrev Gm := List (Option Sv)
def mup (M : Mm) (a : Addr) (o : Ob) : Mm := fun b => if b = a then some o else M b
def mdel (M : Mm) (a : Addr) : Mm := fun b => if b = a then none else M b
theorem mup_same {M : Mm} {a : Addr} {o : Ob} : mup M a o a = some o := by unfold mup; rw [if_pos rfl]
theorem mup_ne {M : Mm} {a b : Addr} {o : Ob} (h : b ≠ a) : mup M a o b = M b := by unfold mup; rw [if_neg h]
theorem mdel_same {M : Mm} {a : Addr} : mdel M a a = none := by unfold mdel; rw [if_pos rfl]
theorem mdel_ne {M : Mm} {a b : Addr} (h : b ≠ a) : mdel M a b = M b := by unfold mdel; rw [if_neg h]
theorem mup_mup {M : Mm} {a : Addr} {o u : Ob} : mup (mup M a o) a u = mup M a u := by
  funext b; unfold mup; split <;> rfl
theorem mup_id {M : Mm} {a : Addr} {o : Ob} (h : M a = some o) : mup M a o = M := by
  funext b; unfold mup; split
  · rename_i e; rw [e, h]
  · rfl
theorem mdel_mup {M : Mm} {a : Addr} {o : Ob} (h : M a = none) : mdel (mup M a o) a = M := by
  funext b; unfold mdel mup; split
  · rename_i e; rw [e, h]
  · rfl
theorem mdel_id {M : Mm} {a : Addr} (h : M a = none) : mdel M a = M := by
  funext b; unfold mdel; split
  · rename_i e; rw [e, h]
  · rfl
theorem mup_comm {M : Mm} {a b : Addr} {o u : Ob} (h : a ≠ b) : mup (mup M a o) b u = mup (mup M b u) a o := by
  funext c; unfold mup; split
  · rename_i e; subst e; rw [if_neg (Ne.symm h)]
  · rfl
theorem mdel_mup_ne {M : Mm} {a b : Addr} {o : Ob} (h : a ≠ b) : mdel (mup M a o) b = mup (mdel M b) a o := by
  funext c; unfold mup mdel; split
  · rename_i e; subst e; rw [if_neg (Ne.symm h)]
  · rfl
theorem mne {M : Mm} {a b : Addr} {o : Ob} (h : M a = some o) (h' : M b = none) : a ≠ b := by
  intro e; rw [e, h'] at h; cases h

mutual
/-- a value that is data: None, bools, numbers, texts, lists that stand tracked, tuples; the script (a list of numbers, read only) -/
inductive Dq (K : PySem.W.Frag) (H : Hp) : V → PyData → Prop
  | non : Dq K H .non .none
  | bl (b : Bool) : Dq K H (.bl b) (.bool b)
  | int (i : Int) : Dq K H (.int i) (.int i)
  | str (x : Str) : Dq K H (.str x) (.str x)
  | lst {a : Addr} {xs : List V} {ds : List PyData} : H a = some (.lst xs) → DqAll K H xs ds → Dq K H (.ref a) (.list ds)
  | tup {a : Addr} {xs : List V} {ds : List PyData} : SqT K H a xs → DqAll K H xs ds → Dq K H (.ref a) (.tuple ds)
  | scr {a : Addr} {ns : List Int} : SqL K H a (ns.map V.int) → Dq K H (.ref a) (.dict [(.list (ns.map PyData.int), .none)])
inductive DqAll (K : PySem.W.Frag) (H : Hp) : List V → List PyData → Prop
  | nil : DqAll K H [] []
  | cons {v : V} {vs : List V} {d : PyData} {ds : List PyData} : Dq K H v d → DqAll K H vs ds → DqAll K H (v :: vs) (d :: ds)
end
def scD (ns : List Int) : PyData := .dict [(.list (ns.map PyData.int), .none)]
mutual
theorem dq_dp {K : PySem.W.Frag} {H : Hp} : ∀ {v : V} {d : PyData}, Dq K H v d → d.canLay0 = true → Dp K H v d
  | _, _, .non, _ => .non
  | _, _, .bl b, _ => .bl b
  | _, _, .int i, _ => .int i
  | _, _, .str x, _ => .str x
  | _, _, .lst h a, c => .lst (.inl (.inl h)) (dqAll_dp a c)
  | _, _, .tup h a, c => .tup h (dqAll_dp a c)
  | _, _, .scr h, c => Bool.noConfusion (show false = true from c)
theorem dqAll_dp {K : PySem.W.Frag} {H : Hp} : ∀ {vs : List V} {ds : List PyData}, DqAll K H vs ds → PyData.canLayAll0 ds = true → DpAll K H vs ds
  | _, _, .nil, _ => .nil
  | _, _, .cons h t, c => .cons (dq_dp h (Bool.and_eq_true_iff.mp c).1) (dqAll_dp t (Bool.and_eq_true_iff.mp c).2)
end

section
variable (K : PySem.W.Frag)
def Rep (Hs : Hp) (v : V) : Sv → Prop
  | .va d => Dq K Hs v d
  | .rf w => v = w
abbrev Reps (Hs : Hp) : List V → List Sv → Prop := Paired (Rep K Hs)
def ObIs (Hs H : Hp) (a : Addr) : Ob → Prop
  | .lst ss => ∃ xs, H a = some (.lst xs) ∧ Reps K Hs xs ss
  | .dK kvs => ∃ ks, H a = some (.dK ks) ∧ Paired (fun (p : Key × V) (q : Key × Sv) => p.1 = q.1 ∧ Rep K Hs p.2 q.2) ks kvs
  | .dT kvs => ∃ ks, H a = some (.dT ks) ∧ Paired (fun (p : List Key × V) (q : List Key × Sv) => p.1 = q.1 ∧ Rep K Hs p.2 q.2) ks kvs
  | .ins C fs => ∃ dx gs, H a = some (.ins C dx gs) ∧ Paired (fun (p : Str × V) (q : Str × Sv) => p.1 = q.1 ∧ Rep K Hs p.2 q.2) gs fs
  | .tup ss => ∃ xs, H a = some (.tup xs) ∧ Reps K Hs xs ss
structure Own (Hs : Hp) (M : Mm) (H : Hp) : Prop where
  ex : Ex Hs H
  sep : ∀ a ob, M a = some ob → Hs a = none
  ob : ∀ a o, M a = some o → ObIs K Hs H a o
structure Gr (M M' : Mm) (Hs H Hs' H' : Hp) : Prop where
  sh : Ex Hs Hs'
  fr : ∀ a, Hs a = none → Hs' a ≠ none → H a = none ∨ M a ≠ none
  ke : ∀ a o, H a = some o → M a = none → H' a = some o
  nw : ∀ a, M' a ≠ none → M a ≠ none ∨ H a = none
structure Ent where
  M : Mm
  Hs : Hp
  H : Hp
structure St0 (P0 : Ent) (M : Mm) (Hs H : Hp) : Prop where
  gr : Gr P0.M M P0.Hs P0.H Hs H
  own : Own K Hs M H
def Slots (Hs : Hp) (σ : L2.St) (G : Gm) : Prop := σ.length = G.length ∧ ∀ (i : Nat) (s : Sv), G[i]? = some (some s) → ∃ v, σ[i]? = some (some v) ∧ Rep K Hs v s
end

theorem Gr.refl (M : Mm) (Hs H : Hp) : Gr M M Hs H Hs H := ⟨Ex.refl _, fun _ h n => absurd h n, fun _ _ h _ => h, fun _ h => .inl h⟩
theorem Gr.trans {M M1 M2 : Mm} {Hs H Hs1 H1 Hs2 H2 : Hp} (a : Gr M M1 Hs H Hs1 H1) (b : Gr M1 M2 Hs1 H1 Hs2 H2) : Gr M M2 Hs H Hs2 H2 where
  sh := a.sh.trans b.sh
  fr := fun x h n => by
    cases e : Hs1 x with
    | some o => exact a.fr x h (by rw [e]; intro z; cases z)
    | none =>
      rcases b.fr x e n with q | q
      · cases eh : H x with
        | none => exact .inl rfl
        | some o =>
          cases em : M x with
          | none => rw [a.ke x o eh em] at q; cases q
          | some ob => exact .inr (by intro z; cases z)
      · rcases a.nw x q with r | r
        · exact .inr r
        · exact .inl r
  ke := fun x o h n => by
    refine b.ke x o (a.ke x o h n) ?_
    cases e : M1 x with
    | none => rfl
    | some ob =>
      rcases a.nw x (by rw [e]; intro z; cases z) with r | r
      · exact absurd n r
      · rw [h] at r; cases r
  nw := fun x n => by
    rcases b.nw x n with q | q
    · exact a.nw x q
    · cases eh : H x with
      | none => exact .inr rfl
      | some o =>
        cases em : M x with
        | none => rw [a.ke x o eh em] at q; cases q
        | some ob => exact .inl (by intro z; cases z)

section
variable {K : PySem.W.Frag} {P0 : Ent} {M : Mm} {Hs Hs' H H' : Hp}
mutual
theorem dp_mono (e : Ex Hs Hs') : ∀ {v : V} {d : PyData}, Dq K Hs v d → Dq K Hs' v d
  | _, _, .non => .non
  | _, _, .bl b => .bl b
  | _, _, .int i => .int i
  | _, _, .str x => .str x
  | _, _, .lst h a => .lst (e _ _ h) (dpAll_mono e a)
  | _, _, .tup h a => .tup (Evl.ex_t e h) (dpAll_mono e a)
  | _, _, .scr h => .scr (Evl.ex_l e h)
theorem dpAll_mono (e : Ex Hs Hs') : ∀ {vs : List V} {ds : List PyData}, DqAll K Hs vs ds → DqAll K Hs' vs ds
  | _, _, .nil => .nil
  | _, _, .cons h t => .cons (dp_mono e h) (dpAll_mono e t)
end
theorem rep_mono (e : Ex Hs Hs') {v : V} {s : Sv} (h : Rep K Hs v s) : Rep K Hs' v s := by
  cases s with
  | va d => exact dp_mono e h
  | rf w => exact h
theorem reps_mono (e : Ex Hs Hs') {vs : List V} {ss : List Sv} (h : Reps K Hs vs ss) : Reps K Hs' vs ss := Paired.mapP h fun _ _ => rep_mono e
theorem dpAll_of_reps : ∀ {vs : List V} {ds : List PyData}, Reps K Hs vs (ds.map Sv.va) → DqAll K Hs vs ds
  | _, [], .nil => .nil
  | _, _ :: _, .cons a b => .cons a (dpAll_of_reps b)
theorem reps_of_dpAll : ∀ {vs : List V} {ds : List PyData}, DqAll K Hs vs ds → Reps K Hs vs (ds.map Sv.va)
  | _, _, .nil => .nil
  | _, _, .cons a b => .cons a (reps_of_dpAll b)
theorem reps_get {vs : List V} {ss : List Sv} (h : Reps K Hs vs ss) {i : Nat} {s : Sv} (e : ss[i]? = some s) : ∃ v, vs[i]? = some v ∧ Rep K Hs v s := by
  induction h generalizing i with
  | nil => simp at e
  | cons r t ih =>
    cases i with
    | zero =>
      simp at e; subst e
      exact ⟨_, by simp, r⟩
    | succ j =>
      obtain ⟨v, h1, h2⟩ := ih (i := j) (by simpa using e)
      exact ⟨v, by simpa using h1, h2⟩
theorem reps_set {v : V} {s : Sv} (r : Rep K Hs v s) : ∀ {vs : List V} {ss : List Sv} (i : Nat), Reps K Hs vs ss → Reps K Hs (vs.set i v) (ss.set i s)
  | _, _, _, .nil => .nil
  | _, _, 0, .cons _ t => .cons r t
  | _, _, i + 1, .cons q t => .cons q (reps_set r i t)
theorem reps_append : ∀ {vs ws : List V} {ss ts : List Sv}, Reps K Hs vs ss → Reps K Hs ws ts → Reps K Hs (vs ++ ws) (ss ++ ts)
  | _, _, _, _, .nil, s => s
  | _, _, _, _, .cons r t, s => .cons r (reps_append t s)
theorem obIs_mono (e : Ex Hs Hs') {a : Addr} (k : ∀ o, H a = some o → H' a = some o) {ob : Ob} (h : ObIs K Hs H a ob) : ObIs K Hs' H' a ob := by
  cases ob with
  | lst ss => obtain ⟨xs, h1, h2⟩ := h; exact ⟨xs, k _ h1, reps_mono e h2⟩
  | dK kvs => obtain ⟨xs, h1, h2⟩ := h; exact ⟨xs, k _ h1, Paired.mapP h2 fun _ _ q => ⟨q.1, rep_mono e q.2⟩⟩
  | dT kvs => obtain ⟨xs, h1, h2⟩ := h; exact ⟨xs, k _ h1, Paired.mapP h2 fun _ _ q => ⟨q.1, rep_mono e q.2⟩⟩
  | ins C fs => obtain ⟨dx, xs, h1, h2⟩ := h; exact ⟨dx, xs, k _ h1, Paired.mapP h2 fun _ _ q => ⟨q.1, rep_mono e q.2⟩⟩
  | tup ss => obtain ⟨xs, h1, h2⟩ := h; exact ⟨xs, k _ h1, reps_mono e h2⟩
theorem obIs_some {a : Addr} {ob : Ob} (h : ObIs K Hs H a ob) : ∃ o, H a = some o := by
  cases ob with
  | lst ss => obtain ⟨xs, h1, _⟩ := h; exact ⟨_, h1⟩
  | dK kvs => obtain ⟨xs, h1, _⟩ := h; exact ⟨_, h1⟩
  | dT kvs => obtain ⟨xs, h1, _⟩ := h; exact ⟨_, h1⟩
  | ins C fs => obtain ⟨dx, xs, h1, _⟩ := h; exact ⟨_, h1⟩
  | tup ss => obtain ⟨xs, h1, _⟩ := h; exact ⟨_, h1⟩
theorem Own.free (o : Own K Hs M H) {p : Addr} (h : H p = none) : M p = none ∧ Hs p = none := by
  constructor
  · cases e : M p with
    | none => rfl
    | some ob =>
      obtain ⟨u, q⟩ := obIs_some (o.ob p ob e)
      rw [h] at q; cases q
  · cases e : Hs p with
    | none => rfl
    | some ob => rw [o.ex p ob e] at h; cases h
theorem slots_mono {σ : L2.St} {G : Gm} (e : Ex Hs Hs') (h : Slots K Hs σ G) : Slots K Hs' σ G :=
  ⟨h.1, fun i s g => let ⟨v, a, b⟩ := h.2 i s g; ⟨v, a, rep_mono e b⟩⟩
theorem slots_set {σ : L2.St} {G : Gm} {v : V} {s : Sv} (h : Slots K Hs σ G) (r : Rep K Hs v s) (i : Nat) : Slots K Hs (σ.set i (some v)) (G.set i (some s)) := by
  refine ⟨by rw [List.length_set, List.length_set]; exact h.1, fun j t g => ?_⟩
  by_cases e : i = j
  · subst e
    by_cases l : i < G.length
    · rw [List.getElem?_set_self l] at g
      cases g
      exact ⟨v, List.getElem?_set_self (by rw [h.1]; exact l), r⟩
    · rw [List.getElem?_eq_none (by rw [List.length_set]; omega)] at g; cases g
  · rw [List.getElem?_set_ne e] at g
    obtain ⟨w, a, b⟩ := h.2 j t g
    exact ⟨w, by rw [List.getElem?_set_ne e]; exact a, b⟩

/-! ### steps of the store -/
/-- a new object, shared -/
theorem St0.share (S : St0 K P0 M Hs H) {p : Addr} (hp : H p = none) (o : HO) : St0 K P0 M (upd Hs p o) (upd H p o) ∧ Ex Hs (upd Hs p o) := by
  obtain ⟨m0, s0⟩ := S.own.free hp
  have e1 : Ex Hs (upd Hs p o) := Ex.new s0
  refine ⟨⟨S.gr.trans ⟨e1, fun a h n => ?_, fun a u h _ => ?_, fun a n => .inl n⟩, ⟨fun a u h => ?_, fun a ob h => ?_, fun a ob h => ?_⟩⟩, e1⟩
  · by_cases e : a = p
    · subst e; exact .inl hp
    · rw [upd_ne e] at n; exact absurd h n
  · rw [upd_ne (ne_of_none h hp)]; exact h
  · by_cases e : a = p
    · subst e; rw [upd_same] at h ⊢; exact h
    · rw [upd_ne e] at h ⊢; exact S.own.ex a u h
  · have e : a ≠ p := mne h m0
    rw [upd_ne e]; exact S.own.sep a ob h
  · have e : a ≠ p := mne h m0
    exact obIs_mono e1 (fun u q => by rw [upd_ne e]; exact q) (S.own.ob a ob h)
/-- a new object, owned -/
theorem St0.make (S : St0 K P0 M Hs H) {p : Addr} (hp : H p = none) {o : HO} {ob : Ob} (h : ObIs K Hs (upd H p o) p ob) : St0 K P0 (mup M p ob) Hs (upd H p o) := by
  obtain ⟨m0, s0⟩ := S.own.free hp
  refine ⟨S.gr.trans ⟨Ex.refl _, fun a h n => absurd h n, fun a u h _ => ?_, fun a n => ?_⟩, ⟨fun a u q => ?_, fun a b q => ?_, fun a b q => ?_⟩⟩
  · rw [upd_ne (ne_of_none h hp)]; exact h
  · by_cases e : a = p
    · subst e; exact .inr hp
    · rw [mup_ne e] at n; exact .inl n
  · rw [upd_ne (ne_of_none q s0)]; exact S.own.ex a u q
  · by_cases e : a = p
    · subst e; exact s0
    · rw [mup_ne e] at q; exact S.own.sep a b q
  · by_cases e : a = p
    · subst e; rw [mup_same] at q; cases q; exact h
    · rw [mup_ne e] at q
      exact obIs_mono (Ex.refl _) (fun u z => by rw [upd_ne e]; exact z) (S.own.ob a b q)
/-- an owned object changed -/
theorem St0.write (S : St0 K P0 M Hs H) {a : Addr} {o0 : Ob} (hm : M a = some o0) {o : HO} {ob : Ob} (h : ObIs K Hs (upd H a o) a ob) : St0 K P0 (mup M a ob) Hs (upd H a o) := by
  have s0 := S.own.sep a o0 hm
  refine ⟨S.gr.trans ⟨Ex.refl _, fun a h n => absurd h n, fun b u q n => ?_, fun b n => ?_⟩, ⟨fun b u q => ?_, fun b c q => ?_, fun b c q => ?_⟩⟩
  · have e : b ≠ a := fun z => by rw [z, hm] at n; cases n
    rw [upd_ne e]; exact q
  · by_cases e : b = a
    · subst e; exact .inl (by rw [hm]; intro z; cases z)
    · rw [mup_ne e] at n; exact .inl n
  · rw [upd_ne (ne_of_none q s0)]; exact S.own.ex b u q
  · by_cases e : b = a
    · subst e; exact s0
    · rw [mup_ne e] at q; exact S.own.sep b c q
  · by_cases e : b = a
    · subst e; rw [mup_same] at q; cases q; exact h
    · rw [mup_ne e] at q
      exact obIs_mono (Ex.refl _) (fun u z => by rw [upd_ne e]; exact z) (S.own.ob b c q)
/-- an owned list is given up: nobody changes it any more -/
theorem St0.freeze (S : St0 K P0 M Hs H) {a : Addr} {ds : List PyData} (hm : M a = some (.lst (ds.map Sv.va))) :
    ∃ Hs', St0 K P0 (mdel M a) Hs' H ∧ Ex Hs Hs' ∧ Dq K Hs' (.ref a) (.list ds) := by
  obtain ⟨xs, h1, h2⟩ := S.own.ob a _ hm
  have s0 := S.own.sep a _ hm
  have e1 : Ex Hs (upd Hs a (.lst xs)) := Ex.new s0
  refine ⟨upd Hs a (.lst xs), ⟨S.gr.trans ⟨e1, fun b h n => ?_, fun b u h _ => h, fun b n => ?_⟩, ⟨fun b u h => ?_, fun b c h => ?_, fun b c h => ?_⟩⟩, e1, .lst upd_same (dpAll_of_reps (reps_mono e1 h2))⟩
  · by_cases e : b = a
    · subst e; exact .inr (by rw [hm]; intro z; cases z)
    · rw [upd_ne e] at n; exact absurd h n
  · by_cases e : b = a
    · subst e; rw [mdel_same] at n; exact absurd rfl n
    · rw [mdel_ne e] at n; exact .inl n
  · by_cases e : b = a
    · subst e; rw [upd_same] at h; cases h; exact h1
    · rw [upd_ne e] at h; exact S.own.ex b u h
  · by_cases e : b = a
    · subst e; rw [mdel_same] at h; cases h
    · rw [mdel_ne e] at h; rw [upd_ne e]; exact S.own.sep b c h
  · by_cases e : b = a
    · subst e; rw [mdel_same] at h; cases h
    · rw [mdel_ne e] at h; exact obIs_mono e1 (fun _ z => z) (S.own.ob b c h)
/-- some owned objects that are never asked again -/
theorem St0.shrink {M0 : Mm} (S : St0 K P0 M Hs H) (h : ∀ a o, M0 a = some o → M a = some o) : St0 K P0 M0 Hs H :=
  ⟨S.gr.trans ⟨Ex.refl _, fun _ h n => absurd h n, fun _ _ h _ => h, fun b n => by
    cases e : M0 b with
    | none => exact absurd e n
    | some o => exact .inl (by rw [h b o e]; intro z; cases z)⟩, ⟨S.own.ex, fun b c q => S.own.sep b c (h b c q), fun b c q => S.own.ob b c (h b c q)⟩⟩
/-- an owned object that is never asked again -/
theorem St0.drop (S : St0 K P0 M Hs H) (a : Addr) : St0 K P0 (mdel M a) Hs H :=
  ⟨S.gr.trans ⟨Ex.refl _, fun _ h n => absurd h n, fun _ _ h _ => h, fun b n => by
    by_cases e : b = a
    · subst e; rw [mdel_same] at n; exact absurd rfl n
    · rw [mdel_ne e] at n; exact .inl n⟩, ⟨S.own.ex, fun b c h => by
    by_cases e : b = a
    · subst e; rw [mdel_same] at h; cases h
    · rw [mdel_ne e] at h; exact S.own.sep b c h, fun b c h => by
    by_cases e : b = a
    · subst e; rw [mdel_same] at h; cases h
    · rw [mdel_ne e] at h; exact S.own.ob b c h⟩⟩
end

/-! ### readings at data -/
section
variable (K : PySem.W.Frag) (P0 : Ent)
def WE (te : TE) (G : Gm) (M : Mm) (k : Sv → Mm → Prop) : Prop := ∀ σ Hs H, St0 K P0 M Hs H → Slots K Hs σ G → ∀ Q : VK,
  (∀ v Hs' H' s M', St0 K P0 M' Hs' H' → Ex Hs Hs' → Rep K Hs' v s → k s M' → Q v H') → te σ H Q
def WT (tt : TT) (G : Gm) (M : Mm) (k : Bool → Mm → Prop) : Prop := ∀ σ Hs H, St0 K P0 M Hs H → Slots K Hs σ G → ∀ Q : Bool → Hp → Prop,
  (∀ b Hs' H' M', St0 K P0 M' Hs' H' → Ex Hs Hs' → k b M' → Q b H') → tt σ H Q
def WA (ta : TA) (G : Gm) (M : Mm) (k : List Sv → Mm → Prop) : Prop := ∀ σ Hs H, St0 K P0 M Hs H → Slots K Hs σ G → ∀ Q : List V → Hp → Prop,
  (∀ vs Hs' H' ss M', St0 K P0 M' Hs' H' → Ex Hs Hs' → Reps K Hs' vs ss → k ss M' → Q vs H') → ta σ H Q
/-- an operation on two values, one value, a list of values -/
def R2D (r : R2) (s s' : Sv) (M : Mm) (k : Sv → Mm → Prop) : Prop := ∀ Hs H x y, St0 K P0 M Hs H → Rep K Hs x s → Rep K Hs y s' → ∀ Q : VK,
  (∀ v Hs' H' t M', St0 K P0 M' Hs' H' → Ex Hs Hs' → Rep K Hs' v t → k t M' → Q v H') → r x y H Q
def R1D (r : V → Hp → VK → Prop) (s : Sv) (M : Mm) (k : Sv → Mm → Prop) : Prop := ∀ Hs H x, St0 K P0 M Hs H → Rep K Hs x s → ∀ Q : VK,
  (∀ v Hs' H' t M', St0 K P0 M' Hs' H' → Ex Hs Hs' → Rep K Hs' v t → k t M' → Q v H') → r x H Q
def RCD (r : List V → Hp → VK → Prop) (ss : List Sv) (M : Mm) (k : Sv → Mm → Prop) : Prop := ∀ Hs H xs, St0 K P0 M Hs H → Reps K Hs xs ss → ∀ Q : VK,
  (∀ v Hs' H' t M', St0 K P0 M' Hs' H' → Ex Hs Hs' → Rep K Hs' v t → k t M' → Q v H') → r xs H Q
def RMD (r : V → List V → Hp → VK → Prop) (s : Sv) (ss : List Sv) (M : Mm) (k : Sv → Mm → Prop) : Prop := ∀ Hs H x xs, St0 K P0 M Hs H → Rep K Hs x s → Reps K Hs xs ss → ∀ Q : VK,
  (∀ v Hs' H' t M', St0 K P0 M' Hs' H' → Ex Hs Hs' → Rep K Hs' v t → k t M' → Q v H') → r x xs H Q
def WG (g : TG) (s : Sv) (G : Gm) (M : Mm) (k : Gm → Mm → Prop) : Prop := ∀ v σ Hs H, St0 K P0 M Hs H → Slots K Hs σ G → Rep K Hs v s → ∀ Q : L2.St → Hp → Prop,
  (∀ σ' Hs' H' G' M', St0 K P0 M' Hs' H' → Ex Hs Hs' → Slots K Hs' σ' G' → k G' M' → Q σ' H') → g v σ H Q
def WGs (g : TGs) (ss : List Sv) (G : Gm) (M : Mm) (k : Gm → Mm → Prop) : Prop := ∀ vs σ Hs H, St0 K P0 M Hs H → Slots K Hs σ G → Reps K Hs vs ss → ∀ Q : L2.St → Hp → Prop,
  (∀ σ' Hs' H' G' M', St0 K P0 M' Hs' H' → Ex Hs Hs' → Slots K Hs' σ' G' → k G' M' → Q σ' H') → g vs σ H Q
def WS (ts : TS) (G : Gm) (M : Mm) (nx : Gm → Mm → Prop) (rt : Sv → Mm → Prop) (bk ct : Gm → Mm → Prop) : Prop := ∀ σ Hs H, St0 K P0 M Hs H → Slots K Hs σ G → ∀ D : Ends,
  (∀ σ' Hs' H' G' M', St0 K P0 M' Hs' H' → Ex Hs Hs' → Slots K Hs' σ' G' → nx G' M' → D.nx σ' H') →
  (∀ v Hs' H' s M', St0 K P0 M' Hs' H' → Ex Hs Hs' → Rep K Hs' v s → rt s M' → D.rt v H') →
  (∀ σ' Hs' H' G' M', St0 K P0 M' Hs' H' → Ex Hs Hs' → Slots K Hs' σ' G' → bk G' M' → D.bk σ' H') →
  (∀ σ' Hs' H' G' M', St0 K P0 M' Hs' H' → Ex Hs Hs' → Slots K Hs' σ' G' → ct G' M' → D.ct σ' H') → ts D σ H
/-- what is wished of an exception -/
def XL (E : XK) (e : Value → Mm → Prop) : Prop := ∀ cls Hs H M, St0 K P0 M Hs H → e cls M → E cls none H
end
abbrev SpD := List Sv → Mm → (Sv → Mm → Prop) → (Value → Mm → Prop) → Prop
def lift (K : PySem.W.Frag) (sp : SpD) : Sp := fun vs H Q E => ∃ Hs M as k e, Own K Hs M H ∧ Reps K Hs vs as ∧ sp as M k e ∧
  (∀ v Hs' H' s M', Gr M M' Hs H Hs' H' → Own K Hs' M' H' → Rep K Hs' v s → k s M' → Q v H') ∧
  (∀ cls Hs' H' M', Gr M M' Hs H Hs' H' → Own K Hs' M' H' → e cls M' → E cls none H')

section
variable {K : PySem.W.Frag} {P0 : Ent} {G : Gm} {M : Mm} {k : Sv → Mm → Prop} {te ta tb : TE} {i : Nat} {s : Sv} {v : V}
theorem we_mono {k' : Sv → Mm → Prop} (h : WE K P0 te G M k) (q : ∀ s M', k s M' → k' s M') : WE K P0 te G M k' := fun σ Hs H S L Q c => h σ Hs H S L Q fun v Hs' H' s M' S' e r z => c v Hs' H' s M' S' e r (q s M' z)
theorem wt_mono {t : TT} {k k' : Bool → Mm → Prop} (h : WT K P0 t G M k) (q : ∀ s M', k s M' → k' s M') : WT K P0 t G M k' := fun σ Hs H S L Q c => h σ Hs H S L Q fun v Hs' H' M' S' e z => c v Hs' H' M' S' e (q v M' z)
theorem we_var (h : G[i]? = some (some s)) (q : k s M) : WE K P0 (tVar i) G M k := fun σ Hs H S L Q c => by
  obtain ⟨v, e, r⟩ := L.2 i s h
  exact ⟨v, e, c v Hs H s M S (Ex.refl _) r q⟩
/-- a constant that is data at every heap -/
theorem we_cd {d : PyData} (h : ∀ Hs, Dq K Hs v d) (q : k (.va d) M) : WE K P0 (tC v) G M k := fun σ Hs H S L Q c => c v Hs H (.va d) M S (Ex.refl _) (h Hs) q
theorem we_int {z : Int} (q : k (.va (.int z)) M) : WE K P0 (tC (.int z)) G M k := we_cd (fun _ => .int z) q
theorem we_str {z : Str} (q : k (.va (.str z)) M) : WE K P0 (tC (.str z)) G M k := we_cd (fun _ => .str z) q
theorem we_bl {z : Bool} (q : k (.va (.bool z)) M) : WE K P0 (tC (.bl z)) G M k := we_cd (fun _ => .bl z) q
theorem we_non (q : k (.va .none) M) : WE K P0 (tC .non) G M k := we_cd (fun _ => .non) q
theorem we_raw (q : k (.rf v) M) : WE K P0 (tC v) G M k := fun σ Hs H S L Q c => c v Hs H (.rf v) M S (Ex.refl _) rfl q
theorem we_op {r : R2} (h : WE K P0 ta G M fun s M1 => WE K P0 tb G M1 fun s' M2 => R2D K P0 r s s' M2 k) : WE K P0 (tOp r ta tb) G M k := fun σ Hs H S L Q c =>
  h σ Hs H S L _ fun x Hs1 H1 s M1 S1 e1 r1 h1 => h1 σ Hs1 H1 S1 (slots_mono e1 L) _ fun y Hs2 H2 s' M2 S2 e2 r2 h2 =>
    h2 Hs2 H2 x y S2 (rep_mono e2 r1) r2 Q fun v Hs3 H3 t M3 S3 e3 r3 q => c v Hs3 H3 t M3 S3 ((e1.trans e2).trans e3) r3 q
theorem we_un {r : V → Hp → VK → Prop} (h : WE K P0 ta G M fun s M1 => R1D K P0 r s M1 k) : WE K P0 (tUn r ta) G M k := fun σ Hs H S L Q c =>
  h σ Hs H S L _ fun x Hs1 H1 s M1 S1 e1 r1 h1 => h1 Hs1 H1 x S1 r1 Q fun v Hs3 H3 t M3 S3 e3 r3 q => c v Hs3 H3 t M3 S3 (e1.trans e3) r3 q
theorem wa_nil {k : List Sv → Mm → Prop} (q : k [] M) : WA K P0 tNil G M k := fun σ Hs H S L Q c => c [] Hs H [] M S (Ex.refl _) .nil q
theorem wa_cons {tr : TA} {k : List Sv → Mm → Prop} (h : WE K P0 ta G M fun s M1 => WA K P0 tr G M1 fun ss M2 => k (s :: ss) M2) : WA K P0 (tCons ta tr) G M k := fun σ Hs H S L Q c =>
  h σ Hs H S L _ fun x Hs1 H1 s M1 S1 e1 r1 h1 => h1 σ Hs1 H1 S1 (slots_mono e1 L) _ fun xs Hs2 H2 ss M2 S2 e2 r2 q => c (x :: xs) Hs2 H2 (s :: ss) M2 S2 (e1.trans e2) (.cons (rep_mono e2 r1) r2) q
/-- a call that lets nothing out -/
theorem we_call {sp : SpD} {tr : TA} {E : XK} {e : Value → Mm → Prop} (hE : XL K P0 E e) (h : WA K P0 tr G M fun as M1 => sp as M1 k e) : WE K P0 (tCall (lift K sp) [] E tr) G M k := fun σ Hs H S L Q c =>
  h σ Hs H S L _ fun xs Hs1 H1 ss M1 S1 e1 r1 h1 => ⟨Hs1, M1, ss, k, e, S1.own, by rw [List.append_nil]; exact r1, h1, fun v Hs' H' s M' g o r z => c v Hs' H' s M' ⟨S1.gr.trans g, o⟩ (e1.trans g.sh) r z,
    fun cls Hs' H' M' g o z => hE cls Hs' H' M' ⟨S1.gr.trans g, o⟩ z⟩
theorem xl0 : XL K P0 E0 fun _ _ => False := fun _ _ _ _ _ h => h
theorem we_call0 {sp : SpD} {tr : TA} (h : WA K P0 tr G M fun as M1 => sp as M1 k fun _ _ => False) : WE K P0 (tCall (lift K sp) [] E0 tr) G M k := we_call xl0 h
/-- a tuple -/
theorem we_tup {tr : TA} (h : WA K P0 tr G M fun ss M1 => ∃ ds : List PyData, ss = ds.map Sv.va ∧ ds.length ≤ 100000 ∧ k (.va (.tuple ds)) M1) : WE K P0 (tTup tr) G M k := fun σ Hs H S L Q c =>
  h σ Hs H S L _ fun xs Hs1 H1 ss M1 S1 e1 r1 ⟨ds, e, l, q⟩ => by
    subst e
    have da := dpAll_of_reps r1
    refine ⟨Evl.sz_of (by have := r1.length; rw [List.length_map] at this; omega), fun p hp => ?_⟩
    obtain ⟨S2, e2⟩ := S1.share hp (.tup xs)
    exact c (.ref p) _ _ (.va (.tuple ds)) M1 S2 (e1.trans e2) (.tup (Evl.st_of upd_same) (dpAll_mono e2 da)) q
/-- a tuple of things of which some may be changed -/
theorem we_tupO {tr : TA} (h : WA K P0 tr G M fun ss M1 => ss.length ≤ 100000 ∧ ∀ p, M1 p = none → k (.rf (.ref p)) (mup M1 p (.tup ss))) : WE K P0 (tTup tr) G M k := fun σ Hs H S L Q c =>
  h σ Hs H S L _ fun xs Hs1 H1 ss M1 S1 e1 r1 ⟨l, q⟩ => by
    refine ⟨Evl.sz_of (by have := r1.length; omega), fun p hp => ?_⟩
    exact c (.ref p) _ _ (.rf (.ref p)) _ (S1.make hp (ob := .tup ss) ⟨xs, upd_same, r1⟩) e1 rfl (q p (S1.own.free hp).1)
/-- a new list, to be changed | that nobody changes -/
theorem we_lst {tr : TA} (h : WA K P0 tr G M fun ss M1 => ss.length ≤ 100000 ∧ ∀ p, M1 p = none → k (.rf (.ref p)) (mup M1 p (.lst ss))) : WE K P0 (tLst tr) G M k := fun σ Hs H S L Q c =>
  h σ Hs H S L _ fun xs Hs1 H1 ss M1 S1 e1 r1 ⟨l, q⟩ => by
    refine ⟨Evl.sz_of (by have := r1.length; omega), fun p hp => ?_⟩
    exact c (.ref p) _ _ (.rf (.ref p)) _ (S1.make hp (ob := .lst ss) ⟨xs, upd_same, r1⟩) e1 rfl (q p (S1.own.free hp).1)
theorem we_lstV {tr : TA} (h : WA K P0 tr G M fun ss M1 => ∃ ds : List PyData, ss = ds.map Sv.va ∧ ds.length ≤ 100000 ∧ k (.va (.list ds)) M1) : WE K P0 (tLst tr) G M k := fun σ Hs H S L Q c =>
  h σ Hs H S L _ fun xs Hs1 H1 ss M1 S1 e1 r1 ⟨ds, e, l, q⟩ => by
    subst e
    have da := dpAll_of_reps r1
    refine ⟨Evl.sz_of (by have := r1.length; rw [List.length_map] at this; omega), fun p hp => ?_⟩
    obtain ⟨S2, e2⟩ := S1.share hp (.lst xs)
    exact c (.ref p) _ _ (.va (.list ds)) M1 S2 (e1.trans e2) (.lst upd_same (dpAll_mono e2 da)) q
/-! tests -/
theorem wt_test {k : Bool → Mm → Prop} (h : WE K P0 te G M fun s M1 => ∃ b, s = .va (.bool b) ∧ k b M1) : WT K P0 (tTest te) G M k := fun σ Hs H S L Q c =>
  h σ Hs H S L _ fun x Hs1 H1 s M1 S1 e1 r1 ⟨b, e, q⟩ => by
    subst e
    cases r1
    exact ⟨b, rfl, c b Hs1 H1 M1 S1 e1 q⟩
theorem wt_B {k : Bool → Mm → Prop} (h : WE K P0 te G M fun s M1 => ∃ b, s = .va (.bool b) ∧ k b M1) : WT K P0 (tB te) G M k := fun σ Hs H S L Q c =>
  h σ Hs H S L _ fun x Hs1 H1 s M1 S1 e1 r1 ⟨b, e, q⟩ => by
    subst e
    cases r1
    exact ⟨b, rfl, c b Hs1 H1 M1 S1 e1 q⟩
theorem wt_not {t : TT} {k : Bool → Mm → Prop} (h : WT K P0 t G M fun b M1 => k (!b) M1) : WT K P0 (tNot t) G M k := fun σ Hs H S L Q c => h σ Hs H S L _ fun b Hs1 H1 M1 S1 e1 q => c (!b) Hs1 H1 M1 S1 e1 q
theorem wt_and {t u : TT} {k : Bool → Mm → Prop} (h : WT K P0 t G M fun b M1 => (b = true → WT K P0 u G M1 k) ∧ (b = false → k false M1)) : WT K P0 (tAnd t u) G M k := fun σ Hs H S L Q c =>
  h σ Hs H S L _ fun b Hs1 H1 M1 S1 e1 q => by
    cases b with
    | true =>
      show u σ H1 Q
      exact q.1 rfl σ Hs1 H1 S1 (slots_mono e1 L) Q fun b Hs2 H2 M2 S2 e2 z => c b Hs2 H2 M2 S2 (e1.trans e2) z
    | false =>
      show Q false H1
      exact c false Hs1 H1 M1 S1 e1 (q.2 rfl)
theorem wt_or {t u : TT} {k : Bool → Mm → Prop} (h : WT K P0 t G M fun b M1 => (b = true → k true M1) ∧ (b = false → WT K P0 u G M1 k)) : WT K P0 (tOr t u) G M k := fun σ Hs H S L Q c =>
  h σ Hs H S L _ fun b Hs1 H1 M1 S1 e1 q => by
    cases b with
    | false =>
      show u σ H1 Q
      exact q.2 rfl σ Hs1 H1 S1 (slots_mono e1 L) Q fun b Hs2 H2 M2 S2 e2 z => c b Hs2 H2 M2 S2 (e1.trans e2) z
    | true =>
      show Q true H1
      exact c true Hs1 H1 M1 S1 e1 (q.1 rfl)
theorem we_andV {tb : TE} (h : WE K P0 ta G M fun s M1 => ∃ b, s = .va (.bool b) ∧ (b = true → WE K P0 tb G M1 k) ∧ (b = false → k (.va (.bool false)) M1)) : WE K P0 (tAndV ta tb) G M k := fun σ Hs H S L Q c =>
  h σ Hs H S L _ fun x Hs1 H1 s M1 S1 e1 r1 ⟨b, e, q⟩ => by
    subst e
    cases r1
    refine ⟨b, rfl, ?_⟩
    cases b with
    | true =>
      show tb σ H1 Q
      exact q.1 rfl σ Hs1 H1 S1 (slots_mono e1 L) Q fun b Hs2 H2 t M2 S2 e2 r2 z => c b Hs2 H2 t M2 S2 (e1.trans e2) r2 z
    | false =>
      show Q (.bl false) H1
      exact c (.bl false) Hs1 H1 (.va (.bool false)) M1 S1 e1 (Dq.bl false) (q.2 rfl)
theorem we_orV {tb : TE} (h : WE K P0 ta G M fun s M1 => ∃ b, s = .va (.bool b) ∧ (b = true → k (.va (.bool true)) M1) ∧ (b = false → WE K P0 tb G M1 k)) : WE K P0 (tOrV ta tb) G M k := fun σ Hs H S L Q c =>
  h σ Hs H S L _ fun x Hs1 H1 s M1 S1 e1 r1 ⟨b, e, q⟩ => by
    subst e
    cases r1
    refine ⟨b, rfl, ?_⟩
    cases b with
    | false =>
      show tb σ H1 Q
      exact q.2 rfl σ Hs1 H1 S1 (slots_mono e1 L) Q fun b Hs2 H2 t M2 S2 e2 r2 z => c b Hs2 H2 t M2 S2 (e1.trans e2) r2 z
    | true =>
      show Q (.bl true) H1
      exact c (.bl true) Hs1 H1 (.va (.bool true)) M1 S1 e1 (Dq.bl true) (q.1 rfl)
theorem we_notV (h : WE K P0 ta G M fun s M1 => ∃ b, s = .va (.bool b) ∧ k (.va (.bool (!b))) M1) : WE K P0 (tNotV ta) G M k := fun σ Hs H S L Q c =>
  h σ Hs H S L _ fun x Hs1 H1 s M1 S1 e1 r1 ⟨b, e, q⟩ => by
    subst e
    cases r1
    exact ⟨b, rfl, c (.bl (!b)) Hs1 H1 (.va (.bool (!b))) M1 S1 e1 (Dq.bl (!b)) q⟩
/-! statements -/
variable {t u : TS} {nx : Gm → Mm → Prop} {rt : Sv → Mm → Prop} {bk ct : Gm → Mm → Prop}
theorem ws_seq (h : WS K P0 t G M (fun G' M' => WS K P0 u G' M' nx rt bk ct) rt bk ct) : WS K P0 (tSeq t u) G M nx rt bk ct := fun σ Hs H S L D dn dr db dc =>
  h σ Hs H S L { D with nx := u D } (fun σ' Hs' H' G' M' S' e' L' q => q σ' Hs' H' S' L' D (fun σ2 Hs2 H2 G2 M2 S2 e2 => dn σ2 Hs2 H2 G2 M2 S2 (e'.trans e2)) (fun v Hs2 H2 s M2 S2 e2 => dr v Hs2 H2 s M2 S2 (e'.trans e2))
    (fun σ2 Hs2 H2 G2 M2 S2 e2 => db σ2 Hs2 H2 G2 M2 S2 (e'.trans e2)) (fun σ2 Hs2 H2 G2 M2 S2 e2 => dc σ2 Hs2 H2 G2 M2 S2 (e'.trans e2))) dr db dc
theorem ws_next (h : nx G M) : WS K P0 tNext G M nx rt bk ct := fun σ Hs H S L D dn _ _ _ => dn σ Hs H G M S (Ex.refl _) L h
theorem ws_brk (h : bk G M) : WS K P0 tBreak G M nx rt bk ct := fun σ Hs H S L D _ _ db _ => db σ Hs H G M S (Ex.refl _) L h
theorem ws_cont (h : ct G M) : WS K P0 tCont G M nx rt bk ct := fun σ Hs H S L D _ _ _ dc => dc σ Hs H G M S (Ex.refl _) L h
theorem ws_asgG {g : TG} (h : WE K P0 te G M fun s M1 => WG K P0 g s G M1 nx) : WS K P0 (tAsg te g) G M nx rt bk ct := fun σ Hs H S L D dn _ _ _ =>
  h σ Hs H S L _ fun x Hs1 H1 s M1 S1 e1 r1 h1 => h1 x σ Hs1 H1 S1 (slots_mono e1 L) r1 _ fun σ' Hs' H' G' M' S' e' L' q => dn σ' Hs' H' G' M' S' (e1.trans e') L' q
theorem wg_name (h : nx (G.set i (some s)) M) : WG K P0 (gName i) s G M nx := fun v σ Hs H S L r Q c => c _ Hs H _ M S (Ex.refl _) (slots_set L r i) h
theorem ws_asg (h : WE K P0 te G M fun s M1 => nx (G.set i (some s)) M1) : WS K P0 (tAsg te (gName i)) G M nx rt bk ct := ws_asgG (we_mono h fun s M' q => wg_name q)
theorem wgs_nil (h : nx G M) : WGs K P0 gNil [] G M nx := fun vs σ Hs H S L r Q c => by
  cases r
  exact ⟨rfl, c σ Hs H G M S (Ex.refl _) L h⟩
theorem wgs_cons {g : TG} {gs : TGs} {ss : List Sv} (h : WG K P0 g s G M fun G' M' => WGs K P0 gs ss G' M' nx) : WGs K P0 (gCons g gs) (s :: ss) G M nx := fun vs σ Hs H S L r Q c => by
  cases r with
  | cons r1 r2 =>
    exact ⟨_, _, rfl, h _ σ Hs H S L r1 _ fun σ' Hs' H' G' M' S' e' L' q => q _ σ' Hs' H' S' L' (reps_mono e' r2) Q fun σ2 Hs2 H2 G2 M2 S2 e2 L2 z => c σ2 Hs2 H2 G2 M2 S2 (e'.trans e2) L2 z⟩
theorem wg_tup {n : Nat} {gs : TGs} {ds : List PyData} (hn : ds.length = n) (h : WGs K P0 gs (ds.map Sv.va) G M nx) : WG K P0 (gTup K n gs) (.va (.tuple ds)) G M nx := fun v σ Hs H S L r Q c => by
  have r : Dq K Hs v (.tuple ds) := r
  cases r with
  | tup hq ha =>
    rename_i a xs
    have rs := reps_of_dpAll ha
    exact ⟨a, xs, rfl, Evl.ex_t S.own.ex hq, by have := rs.length; rw [List.length_map] at this; omega, h xs σ Hs H S L rs Q c⟩
theorem wg_tupO {n : Nat} {gs : TGs} {a : Addr} {ss : List Sv} (hm : M a = some (.tup ss)) (hn : ss.length = n) (h : WGs K P0 gs ss G M nx) : WG K P0 (gTup K n gs) (.rf (.ref a)) G M nx := fun v σ Hs H S L r Q c => by
  have r : v = .ref a := r
  obtain ⟨xs, h1, h2⟩ := S.own.ob _ _ hm
  exact ⟨a, xs, r, Evl.st_of h1, by have := h2.length; omega, h xs σ Hs H S L h2 Q c⟩
theorem ws_if {tc : TT} (h : WT K P0 tc G M fun b M1 => (b = true → WS K P0 t G M1 nx rt bk ct) ∧ (b = false → WS K P0 u G M1 nx rt bk ct)) : WS K P0 (tIfS tc t u) G M nx rt bk ct := fun σ Hs H S L D dn dr db dc =>
  h σ Hs H S L _ fun b Hs1 H1 M1 S1 e1 q => by
    have go : ∀ {t : TS}, WS K P0 t G M1 nx rt bk ct → t D σ H1 := fun {t} z => z σ Hs1 H1 S1 (slots_mono e1 L) D (fun σ2 Hs2 H2 G2 M2 S2 e2 => dn σ2 Hs2 H2 G2 M2 S2 (e1.trans e2)) (fun v Hs2 H2 s M2 S2 e2 => dr v Hs2 H2 s M2 S2 (e1.trans e2))
      (fun σ2 Hs2 H2 G2 M2 S2 e2 => db σ2 Hs2 H2 G2 M2 S2 (e1.trans e2)) (fun σ2 Hs2 H2 G2 M2 S2 e2 => dc σ2 Hs2 H2 G2 M2 S2 (e1.trans e2))
    cases b with
    | true =>
      show t D σ H1
      exact go (q.1 rfl)
    | false =>
      show u D σ H1
      exact go (q.2 rfl)
theorem ws_drop (h : WE K P0 te G M fun _ M1 => nx G M1) : WS K P0 (tDrop te) G M nx rt bk ct := fun σ Hs H S L D dn _ _ _ => h σ Hs H S L _ fun x Hs1 H1 s M1 S1 e1 r1 q => dn σ Hs1 H1 G M1 S1 e1 (slots_mono e1 L) q
theorem ws_ret (h : WE K P0 te G M rt) : WS K P0 (tRet te) G M nx rt bk ct := fun σ Hs H S L D _ dr _ _ => h σ Hs H S L _ fun x Hs1 H1 s M1 S1 e1 r1 q => dr x Hs1 H1 s M1 S1 e1 r1 q
theorem ws_retN (h : rt (.va .none) M) : WS K P0 tRetN G M nx rt bk ct := fun σ Hs H S L D _ dr _ _ => dr .non Hs H (.va .none) M S (Ex.refl _) Dq.non h
theorem ws_mono {nx' : Gm → Mm → Prop} {rt' : Sv → Mm → Prop} {bk' ct' : Gm → Mm → Prop} (h : WS K P0 t G M nx rt bk ct) (h1 : ∀ G M, nx G M → nx' G M) (h2 : ∀ s M, rt s M → rt' s M) (h3 : ∀ G M, bk G M → bk' G M) (h4 : ∀ G M, ct G M → ct' G M) : WS K P0 t G M nx' rt' bk' ct' :=
  fun σ Hs H S L D dn dr db dc => h σ Hs H S L D (fun σ2 Hs2 H2 G2 M2 S2 e2 L2 q => dn σ2 Hs2 H2 G2 M2 S2 e2 L2 (h1 _ _ q)) (fun v Hs2 H2 s M2 S2 e2 r q => dr v Hs2 H2 s M2 S2 e2 r (h2 _ _ q))
    (fun σ2 Hs2 H2 G2 M2 S2 e2 L2 q => db σ2 Hs2 H2 G2 M2 S2 e2 L2 (h3 _ _ q)) (fun σ2 Hs2 H2 G2 M2 S2 e2 L2 q => dc σ2 Hs2 H2 G2 M2 S2 e2 L2 (h4 _ _ q))
/-- raise X('..') -/
theorem ws_raise {E : XK} {e : Value → Mm → Prop} {cls : Value} (hE : XL K P0 E e) (h : e cls M) : WS K P0 (fun _ σ H => (fun (_ : L2.St) (H : Hp) (Q : XK) => Q cls none H) σ H fun cls d H' => (fun cls d (_ : L2.St) H => E cls d H) cls d σ H') G M nx rt bk ct :=
  fun σ Hs H S L D _ _ _ _ => hE cls Hs H M S h
/-- freezing a list between statements -/
theorem ws_freeze {a : Addr} {ds : List PyData} (hm : M a = some (.lst (ds.map Sv.va))) (hi : G[i]? = some (some (.rf (.ref a)))) (h : WS K P0 t (G.set i (some (.va (.list ds)))) (mdel M a) nx rt bk ct) : WS K P0 t G M nx rt bk ct :=
  fun σ Hs H S L D dn dr db dc => by
    obtain ⟨Hs1, S1, e1, d1⟩ := S.freeze hm
    have L1 := slots_mono e1 L
    obtain ⟨v, hv, rv⟩ := L1.2 i _ hi
    have ev : v = .ref a := rv
    have hl : σ.set i (some v) = σ := by
      apply List.ext_getElem?
      intro j
      by_cases e : i = j
      · subst e
        rw [List.getElem?_set_self (List.getElem?_eq_some_iff.mp hv).1, hv]
      · rw [List.getElem?_set_ne e]
    have L2 : Slots K Hs1 σ (G.set i (some (.va (.list ds)))) := by
      have z := slots_set (v := v) (s := .va (.list ds)) L1 (by rw [ev]; exact d1) i
      rw [hl] at z
      exact z
    exact h σ Hs1 H S1 L2 D (fun σ2 Hs2 H2 G2 M2 S2 e2 => dn σ2 Hs2 H2 G2 M2 S2 (e1.trans e2)) (fun v Hs2 H2 s M2 S2 e2 => dr v Hs2 H2 s M2 S2 (e1.trans e2))
      (fun σ2 Hs2 H2 G2 M2 S2 e2 => db σ2 Hs2 H2 G2 M2 S2 (e1.trans e2)) (fun σ2 Hs2 H2 G2 M2 S2 e2 => dc σ2 Hs2 H2 G2 M2 S2 (e1.trans e2))
/-- a value that is handed back is a list that nobody changes from then on -/
theorem we_freeze {ds : List PyData} (h : WE K P0 te G M fun s M1 => ∃ a, s = .rf (.ref a) ∧ M1 a = some (.lst (ds.map Sv.va)) ∧ k (.va (.list ds)) (mdel M1 a)) : WE K P0 te G M k := fun σ Hs H S L Q c =>
  h σ Hs H S L _ fun x Hs1 H1 s M1 S1 e1 r1 ⟨a, es, hm, q⟩ => by
    subst es
    have ex : x = .ref a := r1
    subst ex
    obtain ⟨Hs2, S2, e2, d2⟩ := S1.freeze hm
    exact c (.ref a) Hs2 H1 (.va (.list ds)) _ S2 (e1.trans e2) d2 q
/-- owned objects dropped -/
theorem ws_shrink {M0 : Mm} (hm : ∀ a o, M0 a = some o → M a = some o) (h : WS K P0 t G M0 nx rt bk ct) : WS K P0 t G M nx rt bk ct := fun σ Hs H S L D dn dr db dc => h σ Hs H (S.shrink hm) L D dn dr db dc
theorem we_shrink (h : WE K P0 te G M fun s M1 => ∃ M0 : Mm, (∀ a o, M0 a = some o → M1 a = some o) ∧ k s M0) : WE K P0 te G M k := fun σ Hs H S L Q c =>
  h σ Hs H S L _ fun x Hs1 H1 s M1 S1 e1 r1 ⟨M0, hm, q⟩ => c x Hs1 H1 s M0 (S1.shrink hm) e1 r1 q
/-- an owned object dropped -/
theorem ws_forget (a : Addr) (h : WS K P0 t G (mdel M a) nx rt bk ct) : WS K P0 t G M nx rt bk ct := fun σ Hs H S L D dn dr db dc => h σ Hs H (S.drop a) L D dn dr db dc
/-- while: by an invariant and a measure -/
theorem ws_while {tc : TT} (J : Nat → Gm → Mm → Prop) (m0 : Nat) (h0 : J m0 G M) (hs : ∀ m G' M', J m G' M' → WT K P0 tc G' M' fun b M1 => (b = true → WS K P0 t G' M1 (fun G2 M2 => ∃ m', m' < m ∧ J m' G2 M2) rt nx fun G2 M2 => ∃ m', m' < m ∧ J m' G2 M2) ∧ (b = false → nx G' M1)) :
    WS K P0 (tWhile tc t) G M nx rt bk ct := fun σ Hs H S L D dn dr db dc => by
  refine ⟨fun m σ' H' => ∃ Hs' G' M', St0 K P0 M' Hs' H' ∧ Ex Hs Hs' ∧ Slots K Hs' σ' G' ∧ J m G' M', ⟨m0, Hs, G, M, S, Ex.refl _, L, h0⟩, ?_⟩
  rintro m σ1 H1 ⟨Hs1, G1, M1, S1, e1, L1, j1⟩
  refine hs m G1 M1 j1 σ1 Hs1 H1 S1 L1 _ fun b Hs2 H2 M2 S2 e2 q => ?_
  cases b with
  | true =>
    show ∃ N : L2.St → Hp → Prop, _
    refine ⟨fun σ' H' => ∃ m', m' < m ∧ ∃ Hs' G' M', St0 K P0 M' Hs' H' ∧ Ex Hs Hs' ∧ Slots K Hs' σ' G' ∧ J m' G' M', fun σ' H' z => z, ?_⟩
    exact q.1 rfl σ1 Hs2 H2 S2 (slots_mono e2 L1) _ (fun σ3 Hs3 H3 G3 M3 S3 e3 L3 ⟨m', hm, j3⟩ => ⟨m', hm, Hs3, G3, M3, S3, (e1.trans e2).trans e3, L3, j3⟩) (fun v Hs3 H3 s M3 S3 e3 => dr v Hs3 H3 s M3 S3 ((e1.trans e2).trans e3))
      (fun σ3 Hs3 H3 G3 M3 S3 e3 => dn σ3 Hs3 H3 G3 M3 S3 ((e1.trans e2).trans e3)) (fun σ3 Hs3 H3 G3 M3 S3 e3 L3 ⟨m', hm, j3⟩ => ⟨m', hm, Hs3, G3, M3, S3, (e1.trans e2).trans e3, L3, j3⟩)
  | false =>
    show D.nx σ1 H2
    exact dn σ1 Hs2 H2 G1 M2 S2 (e1.trans e2) (slots_mono e2 L1) (q.2 rfl)
/-- from a promise at data to the body's reading -/
theorem run_abs {vs : List V} {H Hs : Hp} {as : List Sv} {Q : VK} {E : XK} {e : Value → Mm → Prop} {N : List Str} (ho : Own K Hs M H) (hv : Reps K Hs vs as)
    (hk : ∀ v Hs' H' s M', Gr M M' Hs H Hs' H' → Own K Hs' M' H' → Rep K Hs' v s → k s M' → Q v H') (he : ∀ cls Hs' H' M', Gr M M' Hs H Hs' H' → Own K Hs' M' H' → e cls M' → E cls none H')
    (hl : as.length ≤ N.length)
    (h : ∀ P0 : Ent, XL K P0 E e → WS K P0 t (as.map some ++ List.replicate (N.length - as.length) none) M (fun _ M' => k (.va .none) M') k (fun _ _ => False) (fun _ _ => False)) :
    t { nx := fun _ H' => Q .non H', rt := Q } (L2.start N vs) H := by
  have L : Slots K Hs (L2.start N vs) (as.map some ++ List.replicate (N.length - as.length) none) := by
    have hlen := hv.length
    refine ⟨?_, fun i s g => ?_⟩
    · unfold L2.start
      simp only [List.length_append, List.length_map, List.length_replicate]
      omega
    · by_cases hi : i < as.length
      · rw [List.getElem?_append_left (by simpa using hi), List.getElem?_map] at g
        cases e1 : as[i]? with
        | none => rw [e1] at g; cases g
        | some s' =>
          rw [e1] at g
          have e2 : s' = s := Option.some.inj (Option.some.inj g)
          subst e2
          obtain ⟨v, a, b⟩ := reps_get hv e1
          refine ⟨v, ?_, b⟩
          unfold L2.start
          rw [List.getElem?_append_left (by simp; omega), List.getElem?_map, a]
          rfl
      · rw [List.getElem?_append_right (by simpa using hi), List.getElem?_replicate] at g
        split at g <;> cases g
  refine h ⟨M, Hs, H⟩ (fun cls Hs' H' M' S' z => he cls Hs' H' M' S'.gr S'.own z) (L2.start N vs) Hs H ⟨Gr.refl _ _ _, ho⟩ L { nx := fun _ H' => Q .non H', rt := Q } (fun σ' Hs' H' G' M' S' _ _ q => hk .non Hs' H' (.va .none) M' S'.gr S'.own Dq.non q) (fun v Hs' H' s M' S' _ r q => hk v Hs' H' s M' S'.gr S'.own r q) (fun _ _ _ _ _ _ _ _ q => q.elim) (fun _ _ _ _ _ _ _ _ q => q.elim)
end
end G91

/-! Fw2: operators, calls of built-ins, loops, comprehensions, at data. -/
namespace G91
open PySem PySem.Spec PyProof.Rows L2
open Evl (Ex)

/-! ### whole numbers of any size -/
/-- what the interpreter's own modules are, for a division of great numbers -/
structure SysOk (P : Program) (K : PySem.W.Frag) : Prop where
  tree : P.given.tree = none
  statics : ∀ h : Heap, K.In h → ∃ mc, h.Ns cStatics mc ∧ mc "sys.audit-hooks" = none ∧ mc "sys.dict" = none
  mods : ∀ h : Heap, K.In h → ∃ mm, h.Ns sysModules mm ∧ mm "_pylong" = none
  main : ∀ h : Heap, K.In h → ∃ mg bm ob, h.Ns mainGlobals mg ∧ mg "__builtins__" = some (.ref bm) ∧ h.get? bm = some ob ∧ ob.cls = .type "module" ∧ ob.dict = some builtinsNs
section
variable {X : Cx}
theorem SysOk.seer (y : SysOk X.prog X.K) {pins : List (Addr × Obj)} {σ : L2.St} {H : Hp} {s : Shared} (I : Inv X pins σ H s) : s.heap.NoSeer where
  statics := y.statics _ I.kIn
  mods := y.mods _ I.kIn
  imp := let ⟨mb, a, b⟩ := I.mod.blt; ⟨mb, a.keepsP I.bk, b⟩
  main := y.main _ I.kIn
/-- a // b, whatever their size -/
theorem op_fdivR (y : SysOk X.prog X.K) (hr : Room 33 X.A) (hs : X.stack = X.env :: X.outer) (hg : X.env.scope.isGenerator = false) (hco : X.env.scope.isCoroutine = false) :
    OpR X (binaryOp .FloorDiv) (rI (fun _ j => j ≠ 0) fun i j => .int (i.fdiv j)) := by
  intro pins s σ H x z v u Q I rx ry h
  obtain ⟨i, j, rfl, rfl, hc, q⟩ := h
  obtain ⟨t, rfl⟩ := rx
  obtain ⟨t', rfl⟩ := ry
  have hfr : X.A.frames = some (X.env :: X.outer) := by rw [I.ok.frames, hs]
  refine floordiv_int hc ⟨.int (i.fdiv j), H, I.tok _, ⟨_, rfl⟩, q⟩ (.inr ?_)
  refine PySem.PylongRoom.of I.nolimit ?_ (PySem.SeerAt.of (y.seer I) y.tree hfr hg hco I.ok.blt I.ok.glob)
  have := hr.dp
  show X.A.depth + 100 < recursionLimit
  omega
/-- a * b, where both are not too great -/
theorem op_mulG : OpR X (binaryOp .Mult) (rI IntMulOk fun i j => .int (i * j)) := opI fun _ _ _ _ _ _ _ hc q => mul_int q hc
/-- two rules for one operator -/
theorem OpR.or {f : Value → Value → Sem Value} {r r' : R2} (a : OpR X f r) (b : OpR X f r') : OpR X f (fun x y H Q => r x y H Q ∨ r' x y H Q) := by
  intro pins s σ H x y v u Q I rx ry h
  rcases h with h | h
  · exact a pins s σ H x y v u Q I rx ry h
  · exact b pins s σ H x y v u Q I rx ry h
def rOr (r r' : R2) : R2 := fun x y H Q => r x y H Q ∨ r' x y H Q
/-- xs + ys, lists that are read -/
def rCatL (K : PySem.W.Frag) : R2 := fun x y H Q => ∃ a b xs ys, x = .ref a ∧ y = .ref b ∧ SqL K H a xs ∧ SqL K H b ys ∧ xs.length + ys.length ≤ sizeLine ∧ ∀ p, H p = none → Q (.ref p) (upd H p (.lst (xs ++ ys)))
def rStrAdd : R2 := fun x y H Q => ∃ i j, x = .str i ∧ y = .str j ∧ i.length + j.length ≤ sizeLine ∧ Q (.str (i ++ j)) H
def rAddI : R2 := rI0 fun i j => .int (i + j)
def rAddA (K : PySem.W.Frag) : R2 := rOr rAddI (rOr rStrAdd (rOr (rCatA K) rCat))
theorem op_addA : OpR X (binaryOp .Add) (rAddA X.K) := OpR.or op_add (OpR.or op_add_str (OpR.or op_catA op_cat))
def rMulI : R2 := rI IntMulOk fun i j => .int (i * j)
def rMulA (K : PySem.W.Frag) : R2 := rOr rMulI (rOr (rRepT K) rRep)
theorem op_mulA : OpR X (binaryOp .Mult) (rMulA X.K) := OpR.or op_mulG (OpR.or op_repT op_rep)
def rInA (K : PySem.W.Frag) : R2 := rOr (rIn K false) (rInD K)
def rNotInA (K : PySem.W.Frag) : R2 := rOr (rIn K true) (rNotInD K)
theorem op_inA (hu : X.A.units + 65 < cLine) : OpR X (compareOp .In) (rInA X.K) := OpR.or op_in_seq (op_inD hu)
theorem op_notInA (hu : X.A.units + 65 < cLine) : OpR X (compareOp .NotIn) (rNotInA X.K) := OpR.or op_notIn_seq (op_notInD hu)
end

section
variable {K : PySem.W.Frag} {P0 : Ent} {G : Gm} {M : Mm} {k : Sv → Mm → Prop} {te ta tb : TE} {i : Nat} {s : Sv} {v : V}
theorem r2_mono {r : R2} {s s' : Sv} {k' : Sv → Mm → Prop} (h : R2D K P0 r s s' M k) (q : ∀ s M', k s M' → k' s M') : R2D K P0 r s s' M k' := fun Hs H x y S r1 r2 Q c => h Hs H x y S r1 r2 Q fun v Hs' H' s M' S' e r z => c v Hs' H' s M' S' e r (q s M' z)
theorem r2_l {r r' : R2} {s s' : Sv} (h : R2D K P0 r s s' M k) : R2D K P0 (rOr r r') s s' M k := fun Hs H x y S r1 r2 Q c => .inl (h Hs H x y S r1 r2 Q c)
theorem r2_r {r r' : R2} {s s' : Sv} (h : R2D K P0 r' s s' M k) : R2D K P0 (rOr r r') s s' M k := fun Hs H x y S r1 r2 Q c => .inr (h Hs H x y S r1 r2 Q c)
theorem r2_Ii {f : Int → Int → Int} {a b : Int} (q : k (.va (.int (f a b))) M) : R2D K P0 (rI0 fun i j => .int (f i j)) (.va (.int a)) (.va (.int b)) M k := fun Hs H x y S r1 r2 Q c => by
  cases (show Dq K Hs x (.int a) from r1)
  cases (show Dq K Hs y (.int b) from r2)
  exact ⟨a, b, rfl, rfl, c _ Hs H (.va (.int (f a b))) M S (Ex.refl _) (Dq.int _) q⟩
theorem r2_Ib {f : Int → Int → Bool} {a b : Int} (q : k (.va (.bool (f a b))) M) : R2D K P0 (rI0 fun i j => .bl (f i j)) (.va (.int a)) (.va (.int b)) M k := fun Hs H x y S r1 r2 Q c => by
  cases (show Dq K Hs x (.int a) from r1)
  cases (show Dq K Hs y (.int b) from r2)
  exact ⟨a, b, rfl, rfl, c _ Hs H (.va (.bool (f a b))) M S (Ex.refl _) (Dq.bl _) q⟩
theorem r2_CIi {C : Int → Int → Prop} {f : Int → Int → Int} {a b : Int} (hc : C a b) (q : k (.va (.int (f a b))) M) : R2D K P0 (rI C fun i j => .int (f i j)) (.va (.int a)) (.va (.int b)) M k := fun Hs H x y S r1 r2 Q c => by
  cases (show Dq K Hs x (.int a) from r1)
  cases (show Dq K Hs y (.int b) from r2)
  exact ⟨a, b, rfl, rfl, hc, c _ Hs H (.va (.int (f a b))) M S (Ex.refl _) (Dq.int _) q⟩
theorem r2_addI {a b : Int} (q : k (.va (.int (a + b))) M) : R2D K P0 (rAddA K) (.va (.int a)) (.va (.int b)) M k := r2_l (r2_Ii q)
theorem r2_addS {a b : Str} (hl : a.length + b.length ≤ 100000) (q : k (.va (.str (a ++ b))) M) : R2D K P0 (rAddA K) (.va (.str a)) (.va (.str b)) M k := r2_r (r2_l fun Hs H x y S r1 r2 Q c => by
  cases (show Dq K Hs x (.str a) from r1)
  cases (show Dq K Hs y (.str b) from r2)
  exact ⟨a, b, rfl, rfl, Evl.sz_of hl, c _ Hs H (.va (.str (a ++ b))) M S (Ex.refl _) (Dq.str _) q⟩)
theorem dp_tup_inv {Hs : Hp} {x : V} {ds : List PyData} (h : Dq K Hs x (.tuple ds)) : ∃ a xs, x = .ref a ∧ SqT K Hs a xs ∧ DqAll K Hs xs ds := by
  cases h with
  | tup h1 h2 => exact ⟨_, _, rfl, h1, h2⟩
theorem dp_lst_inv {Hs : Hp} {x : V} {ds : List PyData} (h : Dq K Hs x (.list ds)) : ∃ a xs, x = .ref a ∧ Hs a = some (.lst xs) ∧ DqAll K Hs xs ds := by
  cases h with
  | lst h1 h2 => exact ⟨_, _, rfl, h1, h2⟩
theorem dpAll_length {Hs : Hp} : ∀ {xs : List V} {ds : List PyData}, DqAll K Hs xs ds → xs.length = ds.length
  | _, _, .nil => rfl
  | _, _, .cons _ t => by rw [List.length_cons, List.length_cons, dpAll_length t]
theorem dpAll_append {Hs : Hp} : ∀ {xs ys : List V} {ds es : List PyData}, DqAll K Hs xs ds → DqAll K Hs ys es → DqAll K Hs (xs ++ ys) (ds ++ es)
  | _, _, _, _, .nil, h => h
  | _, _, _, _, .cons a t, h => .cons a (dpAll_append t h)
theorem dpAll_get {Hs : Hp} : ∀ {xs : List V} {ds : List PyData} {i : Nat} {d : PyData}, DqAll K Hs xs ds → ds[i]? = some d → ∃ x, xs[i]? = some x ∧ Dq K Hs x d
  | _, _, _, _, .nil, h => by simp at h
  | _, _, 0, _, .cons a t, h => by
    simp at h; subst h
    exact ⟨_, by simp, a⟩
  | _, _, i + 1, _, .cons a t, h => by
    obtain ⟨x, h1, h2⟩ := dpAll_get (i := i) t (by simpa using h)
    exact ⟨x, by simpa using h1, h2⟩
theorem dpAll_drop {Hs : Hp} : ∀ {xs : List V} {ds : List PyData} (n : Nat), DqAll K Hs xs ds → DqAll K Hs (xs.drop n) (ds.drop n)
  | _, _, 0, h => h
  | _, _, _ + 1, .nil => .nil
  | _, _, n + 1, .cons _ t => dpAll_drop n t
theorem dpAll_take {Hs : Hp} : ∀ {xs : List V} {ds : List PyData} (n : Nat), DqAll K Hs xs ds → DqAll K Hs (xs.take n) (ds.take n)
  | _, _, 0, _ => .nil
  | _, _, _ + 1, .nil => .nil
  | _, _, n + 1, .cons a t => .cons a (dpAll_take n t)

/-- (..) + (..) -/
theorem r2_addT {ds es : List PyData} (hl : ds.length + es.length ≤ 100000) (q : k (.va (.tuple (ds ++ es))) M) : R2D K P0 (rAddA K) (.va (.tuple ds)) (.va (.tuple es)) M k := r2_r (r2_r (r2_l fun Hs H x y S r1 r2 Q c => by
  obtain ⟨a, xs, rfl, h1, h2⟩ := dp_tup_inv r1
  obtain ⟨b, ys, rfl, h3, h4⟩ := dp_tup_inv r2
  have l1 := dpAll_length h2
  have l2 := dpAll_length h4
  refine ⟨a, b, xs, ys, rfl, rfl, Evl.ex_t S.own.ex h1, Evl.ex_t S.own.ex h3, Evl.sz_of (by omega), fun e => ?_, fun _ e => ?_, fun _ _ p hp => ?_⟩
  · subst e
    cases h2
    exact c (.ref b) Hs H (.va (.tuple es)) M S (Ex.refl _) (Dq.tup h3 h4) q
  · subst e
    cases h4
    rw [List.append_nil] at q
    exact c (.ref a) Hs H (.va (.tuple ds)) M S (Ex.refl _) (Dq.tup h1 h2) q
  · obtain ⟨S2, e2⟩ := S.share hp (.tup (xs ++ ys))
    exact c (.ref p) _ _ (.va (.tuple (ds ++ es))) M S2 e2 (Dq.tup (Evl.st_of upd_same) (dpAll_mono e2 (dpAll_append h2 h4))) q))
/-- a list that can be read: shared, or owned -/
inductive RL (M : Mm) : Sv → List Sv → Prop
  | sh (ds : List PyData) : RL M (.va (.list ds)) (ds.map Sv.va)
  | ow {a : Addr} {ss : List Sv} : M a = some (.lst ss) → RL M (.rf (.ref a)) ss
theorem RL.at {Hs H : Hp} {x : V} {ss : List Sv} (S : St0 K P0 M Hs H) (r : Rep K Hs x s) (l : RL M s ss) : ∃ a xs, x = .ref a ∧ H a = some (.lst xs) ∧ Reps K Hs xs ss := by
  cases l with
  | sh ds =>
    obtain ⟨a, xs, rfl, h1, h2⟩ := dp_lst_inv r
    exact ⟨a, xs, rfl, S.own.ex _ _ h1, reps_of_dpAll h2⟩
  | ow h =>
    have ex : x = .ref _ := r
    subst ex
    obtain ⟨xs, h1, h2⟩ := S.own.ob _ _ h
    exact ⟨_, xs, rfl, h1, h2⟩
/-- [..] + [..], a new list of one's own | that nobody changes -/
theorem r2_addL {s s' : Sv} {ss ts : List Sv} (h1 : RL M s ss) (h2 : RL M s' ts) (hl : ss.length + ts.length ≤ 100000) (q : ∀ p, M p = none → k (.rf (.ref p)) (mup M p (.lst (ss ++ ts)))) : R2D K P0 (rAddA K) s s' M k := r2_r (r2_r (r2_r fun Hs H x y S r1 r2 Q c => by
  obtain ⟨a, xs, rfl, g1, g2⟩ := h1.at S r1
  obtain ⟨b, ys, rfl, g3, g4⟩ := h2.at S r2
  have l1 := g2.length
  have l2 := g4.length
  refine ⟨a, b, xs, ys, rfl, rfl, g1, g3, Evl.sz_of (by omega), fun p hp => ?_⟩
  exact c (.ref p) _ _ (.rf (.ref p)) _ (S.make hp (ob := .lst (ss ++ ts)) ⟨_, upd_same, reps_append g2 g4⟩) (Ex.refl _) rfl (q p (S.own.free hp).1)))
theorem r2_addLv {s s' : Sv} {ds es : List PyData} (h1 : RL M s (ds.map Sv.va)) (h2 : RL M s' (es.map Sv.va)) (hl : ds.length + es.length ≤ 100000) (q : k (.va (.list (ds ++ es))) M) : R2D K P0 (rAddA K) s s' M k := r2_r (r2_r (r2_r fun Hs H x y S r1 r2 Q c => by
  obtain ⟨a, xs, rfl, g1, g2⟩ := h1.at S r1
  obtain ⟨b, ys, rfl, g3, g4⟩ := h2.at S r2
  have l1 := g2.length
  have l2 := g4.length
  rw [List.length_map] at l1 l2
  refine ⟨a, b, xs, ys, rfl, rfl, g1, g3, Evl.sz_of (by omega), fun p hp => ?_⟩
  obtain ⟨S2, e2⟩ := S.share hp (.lst (xs ++ ys))
  exact c (.ref p) _ _ (.va (.list (ds ++ es))) M S2 e2 (Dq.lst upd_same (dpAll_mono e2 (dpAll_append (dpAll_of_reps g2) (dpAll_of_reps g4)))) q))
theorem r2_mulI {a b : Int} (hc : IntMulOk a b) (q : k (.va (.int (a * b))) M) : R2D K P0 (rMulA K) (.va (.int a)) (.va (.int b)) M k := r2_l (r2_CIi hc q)
/-- data that can be read off -/
inductive DR (M : Mm) : Sv → PyData → Prop
  | sh (d : PyData) : DR M (.va d) d
  | ow {a : Addr} {ds : List PyData} : M a = some (.lst (ds.map Sv.va)) → DR M (.rf (.ref a)) (.list ds)
theorem DR.at {Hs H : Hp} {x : V} {d : PyData} (S : St0 K P0 M Hs H) (r : Rep K Hs x s) (l : DR M s d) : Dq K H x d := by
  cases l with
  | sh d => exact dp_mono S.own.ex r
  | ow h =>
    have ex : x = .ref _ := r
    subst ex
    obtain ⟨xs, h1, h2⟩ := S.own.ob _ _ h
    exact .lst h1 (dpAll_mono S.own.ex (dpAll_of_reps h2))
theorem shaped_lay {d : PyData} (h : SeqAt.shaped d = true) : d.canLay0 = true := SeqAt.canLay_of_shaped h
theorem r2_eqD {s s' : Sv} {d e : PyData} (h1 : DR M s d) (h2 : DR M s' e) (sd : SeqAt.shaped d = true) (se : SeqAt.shaped e = true) (q : k (.va (.bool (PyData.eqv d e))) M) : R2D K P0 (rEqD K) s s' M k := fun Hs H x y S r1 r2 Q c =>
  ⟨d, e, dq_dp (h1.at S r1) (shaped_lay sd), dq_dp (h2.at S r2) (shaped_lay se), sd, se, c _ Hs H (.va (.bool _)) M S (Ex.refl _) (Dq.bl _) q⟩
theorem r2_neD {s s' : Sv} {d e : PyData} (h1 : DR M s d) (h2 : DR M s' e) (sd : SeqAt.shaped d = true) (se : SeqAt.shaped e = true) (q : k (.va (.bool (!PyData.eqv d e))) M) : R2D K P0 (rNeD K) s s' M k := fun Hs H x y S r1 r2 Q c =>
  ⟨d, e, dq_dp (h1.at S r1) (shaped_lay sd), dq_dp (h2.at S r2) (shaped_lay se), sd, se, c _ Hs H (.va (.bool _)) M S (Ex.refl _) (Dq.bl _) q⟩
theorem r2_in {s s' : Sv} {d : PyData} {ds : List PyData} (h1 : DR M s d) (h2 : DR M s' (.list ds)) (sd : SeqAt.shaped d = true) (se : SeqAt.shaped (.list ds) = true) (q : k (.va (.bool (ds.any fun z => PyData.eqv z d))) M) : R2D K P0 (rInA K) s s' M k := r2_r fun Hs H x y S r1 r2 Q c =>
  ⟨d, ds, dq_dp (h1.at S r1) (shaped_lay sd), dq_dp (h2.at S r2) (shaped_lay se), sd, se, c _ Hs H (.va (.bool _)) M S (Ex.refl _) (Dq.bl _) q⟩
theorem r2_notIn {s s' : Sv} {d : PyData} {ds : List PyData} (h1 : DR M s d) (h2 : DR M s' (.list ds)) (sd : SeqAt.shaped d = true) (se : SeqAt.shaped (.list ds) = true) (q : k (.va (.bool (!ds.any fun z => PyData.eqv z d))) M) : R2D K P0 (rNotInA K) s s' M k := r2_r fun Hs H x y S r1 r2 Q c =>
  ⟨d, ds, dq_dp (h1.at S r1) (shaped_lay sd), dq_dp (h2.at S r2) (shaped_lay se), sd, se, c _ Hs H (.va (.bool _)) M S (Ex.refl _) (Dq.bl _) q⟩
/-! subscripts -/
theorem atI_len {α β : Type} {xs : List α} {ys : List β} (h : xs.length = ys.length) {i : Int} {y : β} (e : atI ys i = some y) : ∃ j : Nat, ys[j]? = some y ∧ ∀ x : α, xs[j]? = some x → atI xs i = some x := by
  unfold atI at e ⊢
  rw [h]
  cases q : ixN ys.length i with
  | none => rw [q] at e; cases e
  | some j => rw [q] at e; exact ⟨j, e, fun x hx => hx⟩
theorem r2_ixT {ds : List PyData} {i : Int} {d : PyData} (e : atI ds i = some d) (q : k (.va d) M) : R2D K P0 (rIx K) (.va (.tuple ds)) (.va (.int i)) M k := fun Hs H x y S r1 r2 Q c => by
  obtain ⟨a, xs, rfl, h1, h2⟩ := dp_tup_inv r1
  cases (show Dq K Hs y (.int i) from r2)
  obtain ⟨j, e1, e2⟩ := atI_len (dpAll_length h2) e
  obtain ⟨v, e3, e4⟩ := dpAll_get h2 e1
  exact .inr (.inl ⟨a, xs, i, v, rfl, rfl, Evl.ex_t S.own.ex h1, e2 v e3, c v Hs H (.va d) M S (Ex.refl _) e4 q⟩)
theorem reps_length {Hs : Hp} {xs : List V} {ss : List Sv} (h : Reps K Hs xs ss) : xs.length = ss.length := Paired.length h
theorem r2_ixL {s : Sv} {ss : List Sv} {i : Int} {t : Sv} (l : RL M s ss) (e : atI ss i = some t) (q : k t M) : R2D K P0 (rIx K) s (.va (.int i)) M k := fun Hs H x y S r1 r2 Q c => by
  obtain ⟨a, xs, rfl, h1, h2⟩ := l.at S r1
  cases (show Dq K Hs y (.int i) from r2)
  obtain ⟨j, e1, e2⟩ := atI_len (reps_length h2) e
  obtain ⟨v, e3, e4⟩ := reps_get h2 e1
  exact .inl ⟨a, xs, i, v, rfl, rfl, .inl (.inl h1), e2 v e3, c v Hs H t M S (Ex.refl _) e4 q⟩
theorem r2_ixScr {ns : List Int} {i n : Int} (e : atI ns i = some n) (q : k (.va (.int n)) M) : R2D K P0 (rIx K) (.va (scD ns)) (.va (.int i)) M k := fun Hs H x y S r1 r2 Q c => by
  have r1 : Dq K Hs x (.dict [(.list (ns.map PyData.int), .none)]) := r1
  generalize hd : PyData.dict [(.list (ns.map PyData.int), .none)] = d at r1
  cases r1 with
  | scr h =>
    rename_i a ms
    have em : ns = ms := by
      injection hd with h1
      injection h1 with h2 _
      injection h2 with h3 _
      injection h3 with h4
      exact (List.map_inj_right (fun x y z => by injection z)).mp h4
    subst em
    cases (show Dq K Hs y (.int i) from r2)
    obtain ⟨j, e1, e2⟩ := atI_len (xs := ns.map V.int) (by simp) e
    exact .inl ⟨a, _, i, .int n, rfl, rfl, Evl.ex_l S.own.ex h, e2 _ (by rw [List.getElem?_map, e1]; rfl), c _ Hs H (.va (.int n)) M S (Ex.refl _) (Dq.int n) q⟩
  | _ => cases hd
theorem r2_ixS {z : Str} {i : Int} {ch : Nat} (hl : z.length ≤ 100000) (e : atI z.cps.toList i = some ch) (q : k (.va (.str ⟨#[ch]⟩)) M) : R2D K P0 (rIx K) (.va (.str z)) (.va (.int i)) M k := fun Hs H x y S r1 r2 Q c => by
  cases (show Dq K Hs x (.str z) from r1)
  cases (show Dq K Hs y (.int i) from r2)
  exact .inr (.inr ⟨z, i, ch, rfl, rfl, Evl.sz_of hl, e, c _ Hs H (.va (.str ⟨#[ch]⟩)) M S (Ex.refl _) (Dq.str _) q⟩)
/-! calls of built-ins -/
theorem we_cb {r : List V → Hp → VK → Prop} {tr : TA} (h : WA K P0 tr G M fun ss M1 => RCD K P0 r ss M1 k) : WE K P0 (tCB r tr) G M k := fun σ Hs H S L Q c =>
  h σ Hs H S L _ fun xs Hs1 H1 ss M1 S1 e1 r1 h1 => h1 Hs1 H1 xs S1 r1 Q fun v Hs2 H2 t M2 S2 e2 r2 q => c v Hs2 H2 t M2 S2 (e1.trans e2) r2 q
def rLenC (K : PySem.W.Frag) : List V → Hp → VK → Prop := fun xs H Q => ∃ x n, xs = [x] ∧ LenV K x H n ∧ Q (.int n) H
theorem reps1 {Hs : Hp} {xs : List V} {s : Sv} (r : Reps K Hs xs [s]) : ∃ x, xs = [x] ∧ Rep K Hs x s := by
  cases r with
  | cons a b => cases b; exact ⟨_, rfl, a⟩
theorem reps2 {Hs : Hp} {xs : List V} {s t : Sv} (r : Reps K Hs xs [s, t]) : ∃ x y, xs = [x, y] ∧ Rep K Hs x s ∧ Rep K Hs y t := by
  cases r with
  | cons a b =>
    obtain ⟨y, rfl, h⟩ := reps1 b
    exact ⟨_, y, rfl, a, h⟩
theorem rc_lenL {s : Sv} {ss : List Sv} (l : RL M s ss) (q : k (.va (.int ss.length)) M) : RCD K P0 (rLenC K) [s] M k := fun Hs H xs S r Q c => by
  obtain ⟨x, rfl, r1⟩ := reps1 r
  obtain ⟨a, ys, rfl, h1, h2⟩ := l.at S r1
  have e := reps_length h2
  exact ⟨.ref a, ys.length, rfl, .inl ⟨ys, .inl (.inl h1), rfl⟩, by rw [e]; exact c _ Hs H (.va (.int ss.length)) M S (Ex.refl _) (Dq.int _) q⟩
theorem rc_lenT {ds : List PyData} (q : k (.va (.int ds.length)) M) : RCD K P0 (rLenC K) [.va (.tuple ds)] M k := fun Hs H xs S r Q c => by
  obtain ⟨x, rfl, r1⟩ := reps1 r
  obtain ⟨a, ys, rfl, h1, h2⟩ := dp_tup_inv r1
  have e := dpAll_length h2
  exact ⟨.ref a, ys.length, rfl, .inr ⟨ys, Evl.ex_t S.own.ex h1, rfl⟩, by rw [e]; exact c _ Hs H (.va (.int ds.length)) M S (Ex.refl _) (Dq.int _) q⟩
theorem rc_lenS {z : Str} (hl : z.length ≤ 100000) (q : k (.va (.int z.length)) M) : RCD K P0 (rLenC K) [.va (.str z)] M k := fun Hs H xs S r Q c => by
  obtain ⟨x, rfl, r1⟩ := reps1 r
  cases (show Dq K Hs x (.str z) from r1)
  exact ⟨.str z, z.length, rfl, ⟨Evl.sz_of hl, rfl⟩, c _ Hs H (.va (.int z.length)) M S (Ex.refl _) (Dq.int _) q⟩
theorem dq_scr_inv {Hs : Hp} {x : V} {ns : List Int} (r1 : Dq K Hs x (scD ns)) : ∃ a, x = .ref a ∧ SqL K Hs a (ns.map V.int) := by
  unfold scD at r1
  generalize hd : PyData.dict [(.list (ns.map PyData.int), .none)] = d at r1
  cases r1 with
  | scr h =>
    rename_i a ms
    have em : ns = ms := by
      injection hd with h1
      injection h1 with h2 _
      injection h2 with h3 _
      injection h3 with h4
      exact (List.map_inj_right (fun x y z => by injection z)).mp h4
    subst em
    exact ⟨a, rfl, h⟩
  | _ => cases hd
theorem rc_lenScr {ns : List Int} (q : k (.va (.int ns.length)) M) : RCD K P0 (rLenC K) [.va (scD ns)] M k := fun Hs H xs S r Q c => by
  obtain ⟨x, rfl, r1⟩ := reps1 r
  obtain ⟨a, rfl, h⟩ := dq_scr_inv r1
  exact ⟨.ref a, ns.length, rfl, .inl ⟨_, Evl.ex_l S.own.ex h, by simp⟩, c _ Hs H (.va (.int ns.length)) M S (Ex.refl _) (Dq.int _) q⟩
/-- isinstance(x, T) of data, T a built-in class -/
def tyD : PyData → String
  | .none => "NoneType"
  | .bool _ => "bool"
  | .int _ => "int"
  | .str _ => "str"
  | .list _ => "list"
  | .tuple _ => "tuple"
  | .dict _ => "list"
theorem tyX_of {Hs H : Hp} {x : V} {d : PyData} (e : Ex Hs H) (h : Dq K Hs x d) : TyX K H x (.type (tyD d)) := by
  cases h with
  | non => exact .base .non
  | bl b => exact .base (.bl b)
  | int i => exact .base (.int i)
  | str z => exact .base (.str z)
  | lst h _ => exact .base (.lst (e _ _ h))
  | tup h _ =>
    rcases h with (h | ⟨o, h⟩) | ⟨o, its, n, h1, h2, _⟩
    · exact .base (.tup (e _ _ h))
    · exact .fTuple (e _ _ h)
    · exact .kTuple h1 h2
  | scr h =>
    rcases h with (h | ⟨o, h⟩) | ⟨o, its, n, h1, h2, _⟩
    · exact .base (.lst (e _ _ h))
    · exact .base (.frz (e _ _ h))
    · exact .kList h1 h2
theorem rc_isi {d : PyData} {n : String} {b : Bool} (e : kitB (tyD d) n = some b) (q : k (.va (.bool b)) M) : RCD K P0 (rIsi K) [.va d, .rf (.ty n)] M k := fun Hs H xs S r Q c => by
  obtain ⟨x, y, rfl, r1, r2⟩ := reps2 r
  have ey : y = .ty n := r2
  subst ey
  exact ⟨x, .ty n, .type (tyD d), .type n, b, rfl, .ty n, tyX_of S.own.ex r1, kit_ty e, c _ Hs H (.va (.bool b)) M S (Ex.refl _) (Dq.bl b) q⟩
theorem r2_ixTO {a : Addr} {ss : List Sv} {i : Int} {t : Sv} (hm : M a = some (.tup ss)) (e : atI ss i = some t) (q : k t M) : R2D K P0 (rIx K) (.rf (.ref a)) (.va (.int i)) M k := fun Hs H x y S r1 r2 Q c => by
  have r1 : x = .ref a := r1
  obtain ⟨xs, h1, h2⟩ := S.own.ob _ _ hm
  cases (show Dq K Hs y (.int i) from r2)
  obtain ⟨j, e1, e2⟩ := atI_len (reps_length h2) e
  obtain ⟨v, e3, e4⟩ := reps_get h2 e1
  exact .inr (.inl ⟨a, xs, i, v, r1, rfl, Evl.st_of h1, e2 v e3, c v Hs H t M S (Ex.refl _) e4 q⟩)
theorem rc_lenTO {a : Addr} {ss : List Sv} (hm : M a = some (.tup ss)) (q : k (.va (.int ss.length)) M) : RCD K P0 (rLenC K) [.rf (.ref a)] M k := fun Hs H xs S r Q c => by
  obtain ⟨x, rfl, r1⟩ := reps1 r
  have r1 : x = .ref a := r1
  obtain ⟨ys, h1, h2⟩ := S.own.ob _ _ hm
  have e := reps_length h2
  exact ⟨x, ys.length, rfl, by rw [r1]; exact .inr ⟨ys, Evl.st_of h1, rfl⟩, by rw [e]; exact c _ Hs H (.va (.int ss.length)) M S (Ex.refl _) (Dq.int _) q⟩
end
end G91

/-! Fw3: loops and comprehensions at data. -/
namespace G91
open PySem PySem.Spec PyProof.Rows L2
open Evl (Ex)

/-- a list, a tuple or a text is walked -/
def iSeq (K : PySem.W.Frag) (te : TE) : TI := fun σ H R => iList K te σ H R ∨ iTup K te σ H R ∨ iStr te σ H R
theorem pi_seq {X : Cx} {tg e : Expr} {te : TE} (h : PE X e te) : PI X tg e (iSeq X.K te) := ⟨fun pins s σ H R I w => by
  rcases w with w | w | w
  · exact (pi_list h).run pins s σ H R I w
  · exact (pi_tup h).run pins s σ H R I w
  · exact (pi_str h).run pins s σ H R I w⟩

section
variable (K : PySem.W.Frag) (P0 : Ent)
def ITD (Hs0 : Hp) (J : It) (n : Nat) (item : Nat → Sv) (stay : Mm → Prop) : Prop := ∀ Hs M H, St0 K P0 M Hs H → Ex Hs0 Hs → stay M →
  (∀ i, i < n → J.go i H ∧ ∀ x H', J.yld i H x H' → ∃ Hs', St0 K P0 M Hs' H' ∧ Ex Hs Hs' ∧ Rep K Hs' x (item i)) ∧ J.stop n H
def WI (wi : TI) (G : Gm) (M : Mm) (kk : Nat → (Nat → Sv) → (Mm → Prop) → Mm → Prop) : Prop := ∀ σ Hs H, St0 K P0 M Hs H → Slots K Hs σ G → ∀ R : It → Hp → Prop,
  (∀ J Hs' H' n item stay M', St0 K P0 M' Hs' H' → Ex Hs Hs' → ITD K P0 Hs' J n item stay → kk n item stay M' → R J H') → wi σ H R
end
def GOn (g : TG) (vs : List Nat) : Prop := ∀ v σ H (Q : L2.St → Hp → Prop), (g v σ H fun σ2 H2 => (σ2.length = σ.length ∧ ∀ i, i ∉ vs → σ2[i]? = σ[i]?) → Q σ2 H2) → g v σ H Q
def GOns (g : TGs) (vs : List Nat) : Prop := ∀ v σ H (Q : L2.St → Hp → Prop), (g v σ H fun σ2 H2 => (σ2.length = σ.length ∧ ∀ i, i ∉ vs → σ2[i]? = σ[i]?) → Q σ2 H2) → g v σ H Q
theorem gon_name {j : Nat} {vs : List Nat} (h : j ∈ vs) : GOn (gName j) vs := fun v σ H Q q => q ⟨by rw [List.length_set], fun i hi => by rw [List.getElem?_set_ne (fun e => by subst e; exact hi h)]⟩
theorem gons_nil {vs : List Nat} : GOns gNil vs := fun v σ H Q ⟨e, q⟩ => ⟨e, q ⟨rfl, fun _ _ => rfl⟩⟩

section
variable {K : PySem.W.Frag} {P0 : Ent} {G : Gm} {M : Mm} {k : Sv → Mm → Prop} {te ta tb : TE} {i : Nat} {s : Sv} {v : V} {kk : Nat → (Nat → Sv) → (Mm → Prop) → Mm → Prop}
theorem wi_seqL (h : WE K P0 te G M fun s M1 => ∃ ss, RL M1 s ss ∧ kk ss.length (fun i => ss.getD i (.va .none)) (fun M' => RL M' s ss) M1) : WI K P0 (iSeq K te) G M kk := fun σ Hs H S L R c => by
  refine .inl (h σ Hs H S L _ fun x Hs1 H1 s M1 S1 e1 r1 ⟨ss, l, q⟩ => ?_)
  obtain ⟨a, xs, ex, h1, h2⟩ := l.at S1 r1
  subst ex
  refine ⟨a, rfl, ⟨xs, .inl (.inl h1)⟩, c (Itl K a) Hs1 H1 ss.length _ _ M1 S1 e1 (fun Hs2 M2 H2 S2 e2 l2 => ?_) q⟩
  obtain ⟨a2, ys, ea, g1, g2⟩ := l2.at S2 (rep_mono e2 r1)
  cases ea
  have hl := reps_length g2
  refine ⟨fun i hi => ?_, ys, .inl (.inl g1), by omega⟩
  have hi' : i < ys.length := by omega
  refine ⟨⟨ys, ys[i], .inl (.inl g1), List.getElem?_eq_getElem hi'⟩, fun x H' ⟨eH, fx⟩ => ?_⟩
  subst eH
  have ex := fx ys (.inl (.inl g1))
  obtain ⟨v, e3, e4⟩ := reps_get g2 (List.getElem?_eq_getElem hi)
  rw [ex] at e3
  cases e3
  refine ⟨Hs2, S2, Ex.refl _, ?_⟩
  rw [List.getD_eq_getElem?_getD, List.getElem?_eq_getElem hi]
  exact e4
theorem wi_seqT (h : WE K P0 te G M fun s M1 => ∃ ds, s = .va (.tuple ds) ∧ kk ds.length (fun i => .va (ds.getD i .none)) (fun _ => True) M1) : WI K P0 (iSeq K te) G M kk := fun σ Hs H S L R c => by
  refine .inr (.inl (h σ Hs H S L _ fun x Hs1 H1 s M1 S1 e1 r1 ⟨ds, l, q⟩ => ?_))
  subst l
  obtain ⟨a, xs, ex, h1, h2⟩ := dp_tup_inv r1
  subst ex
  refine ⟨a, rfl, ⟨xs, Evl.ex_t S1.own.ex h1⟩, c (Itt K a) Hs1 H1 ds.length _ _ M1 S1 e1 (fun Hs2 M2 H2 S2 e2 _ => ?_) q⟩
  have g1 : SqT K H2 a xs := Evl.ex_t S2.own.ex (Evl.ex_t e2 h1)
  have g2 := dpAll_mono e2 h2
  have hl := dpAll_length h2
  refine ⟨fun i hi => ?_, xs, g1, by omega⟩
  have hi' : i < xs.length := by omega
  refine ⟨⟨xs, xs[i], g1, List.getElem?_eq_getElem hi'⟩, fun x H' ⟨eH, fx⟩ => ?_⟩
  subst eH
  have ex := fx xs g1
  obtain ⟨v, e3, e4⟩ := dpAll_get g2 (List.getElem?_eq_getElem hi)
  rw [ex] at e3
  cases e3
  refine ⟨Hs2, S2, Ex.refl _, ?_⟩
  rw [List.getD_eq_getElem?_getD, List.getElem?_eq_getElem hi]
  exact e4
theorem wi_seqS (h : WE K P0 te G M fun s M1 => ∃ z : Str, s = .va (.str z) ∧ kk z.cps.size (fun i => .va (.str ⟨#[z.cps.getD i 0]⟩)) (fun _ => True) M1) : WI K P0 (iSeq K te) G M kk := fun σ Hs H S L R c => by
  refine .inr (.inr (h σ Hs H S L _ fun x Hs1 H1 s M1 S1 e1 r1 ⟨z, l, q⟩ => ?_))
  subst l
  cases (show Dq K Hs1 x (.str z) from r1)
  refine ⟨z, rfl, c (Its z) Hs1 H1 z.cps.size _ _ M1 S1 e1 (fun Hs2 M2 H2 S2 e2 _ => ⟨fun i hi => ⟨hi, fun x H' ⟨eH, ch, e3, e4⟩ => ?_⟩, Nat.le_refl _⟩) q⟩
  subst eH
  subst e4
  refine ⟨Hs2, S2, Ex.refl _, ?_⟩
  rw [Array.getD_eq_getD_getElem?, e3]
  exact Dq.str _
theorem wi_rng1 {tr : TA} (h : WA K P0 tr G M fun ss M1 => ∃ n : Int, ss = [.va (.int n)] ∧ n ≤ 100000 ∧ -100000 ≤ n ∧ kk n.toNat (fun i => .va (.int (i : Int))) (fun _ => True) M1) : WI K P0 (iRng1 tr) G M kk := fun σ Hs H S L R c =>
  h σ Hs H S L _ fun xs Hs1 H1 ss M1 S1 e1 r1 ⟨n, l, n1, n2, q⟩ => by
    subst l
    obtain ⟨x, rfl, r⟩ := reps1 r1
    cases (show Dq K Hs1 x (.int n) from r)
    refine ⟨n, rfl, by omega, by omega, c (Itr 0 n.toNat) Hs1 H1 n.toNat _ _ M1 S1 e1 (fun Hs2 M2 H2 S2 e2 _ => ⟨fun i hi => ⟨hi, fun x H' ⟨eH, e3⟩ => ?_⟩, Nat.le_refl _⟩) q⟩
    subst eH
    subst e3
    exact ⟨Hs2, S2, Ex.refl _, by rw [Int.zero_add]; exact Dq.int _⟩
theorem wi_rng2 {tr : TA} (h : WA K P0 tr G M fun ss M1 => ∃ a b : Int, ss = [.va (.int a), .va (.int b)] ∧ a ≤ 100000 ∧ -100000 ≤ a ∧ b ≤ 100000 ∧ -100000 ≤ b ∧ kk (b - a).toNat (fun i => .va (.int (a + (i : Int)))) (fun _ => True) M1) : WI K P0 (iRng2 tr) G M kk := fun σ Hs H S L R c =>
  h σ Hs H S L _ fun xs Hs1 H1 ss M1 S1 e1 r1 ⟨a, b, l, n1, n2, n3, n4, q⟩ => by
    subst l
    obtain ⟨x, y, rfl, r, r'⟩ := reps2 r1
    cases (show Dq K Hs1 x (.int a) from r)
    cases (show Dq K Hs1 y (.int b) from r')
    refine ⟨a, b, rfl, ⟨by omega, by omega, by omega, by omega⟩, c (Itr a (b - a).toNat) Hs1 H1 _ _ _ M1 S1 e1 (fun Hs2 M2 H2 S2 e2 _ => ⟨fun i hi => ⟨hi, fun x H' ⟨eH, e3⟩ => ?_⟩, Nat.le_refl _⟩) q⟩
    subst eH
    subst e3
    exact ⟨Hs2, S2, Ex.refl _, Dq.int _⟩
theorem getD_at {ss : List Sv} {i : Nat} (h : i < ss.length) : ss[i]? = some (ss.getD i (.va .none)) := by
  rw [List.getD_eq_getElem?_getD, List.getElem?_eq_getElem h] <;> rfl
/-- zip(xs, ys): new pairs of data -/
theorem wi_zip {tr : TA} (h : WA K P0 tr G M fun ss M1 => ∃ (s s' : Sv) (ds es : List PyData), ss = [s, s'] ∧ RL M1 s (ds.map Sv.va) ∧ RL M1 s' (es.map Sv.va) ∧ kk (min ds.length es.length) (fun i => .va (.tuple [ds.getD i .none, es.getD i .none])) (fun M' => RL M' s (ds.map Sv.va) ∧ RL M' s' (es.map Sv.va)) M1) :
    WI K P0 (iZip K tr) G M kk := fun σ Hs H S L R c =>
  h σ Hs H S L _ fun xs Hs1 H1 ss M1 S1 e1 r1 ⟨s, s', ds, es, l, l1, l2, q⟩ => by
    subst l
    obtain ⟨x, y, rfl, r, r'⟩ := reps2 r1
    obtain ⟨a, us, ex, h1, h2⟩ := l1.at S1 r
    obtain ⟨b, ws, ey, h3, h4⟩ := l2.at S1 r'
    subst ex ey
    refine ⟨a, b, us, ws, rfl, .inl (.inl h1), .inl (.inl h3), c (Itz K a b) Hs1 H1 _ _ _ M1 S1 e1 (fun Hs2 M2 H2 S2 e2 st => ?_) q⟩
    obtain ⟨a2, us2, ea, g1, g2⟩ := st.1.at S2 (rep_mono e2 r)
    cases ea
    obtain ⟨b2, ws2, eb, g3, g4⟩ := st.2.at S2 (rep_mono e2 r')
    cases eb
    have hl := reps_length g2
    have hl2 := reps_length g4
    rw [List.length_map] at hl hl2
    have q1 : SqL K H2 a us2 := .inl (.inl g1)
    have q2 : SqL K H2 b ws2 := .inl (.inl g3)
    refine ⟨fun i hi => ?_, ⟨us2, ws2, q1, q2, by omega⟩⟩
    have hi1 : i < us2.length := by omega
    have hi2 : i < ws2.length := by omega
    refine ⟨⟨us2, ws2, us2[i], ws2[i], q1, q2, List.getElem?_eq_getElem hi1, List.getElem?_eq_getElem hi2⟩, fun x H' hy => ?_⟩
    obtain ⟨T, x1, x2, rfl, nT, rfl, f1, f2⟩ := hy
    obtain ⟨S3, e3⟩ := S2.share nT (.tup [x1, x2])
    have d1 := dpAll_of_reps g2
    have d2 := dpAll_of_reps g4
    obtain ⟨v1, p1, p2⟩ := dpAll_get d1 (i := i) (d := ds.getD i .none) (by rw [List.getD_eq_getElem?_getD, List.getElem?_eq_getElem (by omega)] <;> rfl)
    obtain ⟨v2, p3, p4⟩ := dpAll_get d2 (i := i) (d := es.getD i .none) (by rw [List.getD_eq_getElem?_getD, List.getElem?_eq_getElem (by omega)] <;> rfl)
    have z1 := f1 _ q1
    have z2 := f2 _ q2
    rw [p1] at z1
    rw [p3] at z2
    cases z1
    cases z2
    exact ⟨_, S3, e3, Dq.tup (Evl.st_of upd_same) (.cons (dp_mono e3 p2) (.cons (dp_mono e3 p4) .nil))⟩
variable {t u : TS} {nx : Gm → Mm → Prop} {rt : Sv → Mm → Prop} {bk ct : Gm → Mm → Prop}
theorem ws_for {wi : TI} {g : TG} (h : WI K P0 wi G M fun n item stay M1 => ∃ J : Nat → Gm → Mm → Prop, J 0 G M1 ∧ (∀ i G' M', i ≤ n → J i G' M' → stay M') ∧
    (∀ i G' M', i < n → J i G' M' → WG K P0 g (item i) G' M' fun G2 M2 => WS K P0 t G2 M2 (J (i + 1)) rt nx (J (i + 1))) ∧ ∀ G' M', J n G' M' → nx G' M') : WS K P0 (tFor wi g t) G M nx rt bk ct := fun σ Hs H S L D dn dr db dc =>
  h σ Hs H S L _ fun It0 Hs1 H1 n item stay M1 S1 e1 itd ⟨J, j0, jst, jstep, jend⟩ => by
    refine ⟨fun i m σ' H' => m + i = n ∧ ∃ Hs' G' M', St0 K P0 M' Hs' H' ∧ Ex Hs1 Hs' ∧ Slots K Hs' σ' G' ∧ J i G' M', ⟨n, by omega, Hs1, G, M1, S1, Ex.refl _, slots_mono e1 L, j0⟩, ?_⟩
    rintro i m σ2 H2 ⟨hm, Hs2, G2, M2, S2, e2, L2, j2⟩
    have hin : i ≤ n := by omega
    obtain ⟨hgo, hstop⟩ := itd Hs2 M2 H2 S2 e2 (jst i G2 M2 hin j2)
    by_cases hlt : i < n
    · obtain ⟨go, yl⟩ := hgo i hlt
      refine .inr ⟨go, fun σ' H' => ∃ Hs' G' M', St0 K P0 M' Hs' H' ∧ Ex Hs1 Hs' ∧ Slots K Hs' σ' G' ∧ J (i + 1) G' M', fun σ' H' z => ⟨m - 1, by omega, by omega, z⟩, fun x H3 hy => ?_⟩
      obtain ⟨Hs3, S3, e3, r3⟩ := yl x H3 hy
      refine jstep i G2 M2 hlt j2 x σ2 Hs3 H3 S3 (slots_mono e3 L2) r3 _ fun σ4 Hs4 H4 G4 M4 S4 e4 L4 q4 => ?_
      have e14 : Ex Hs1 Hs4 := (e2.trans e3).trans e4
      exact q4 σ4 Hs4 H4 S4 L4 _ (fun σ5 Hs5 H5 G5 M5 S5 e5 L5 j5 => ⟨Hs5, G5, M5, S5, e14.trans e5, L5, j5⟩) (fun v Hs5 H5 s M5 S5 e5 => dr v Hs5 H5 s M5 S5 ((e1.trans e14).trans e5))
        (fun σ5 Hs5 H5 G5 M5 S5 e5 => dn σ5 Hs5 H5 G5 M5 S5 ((e1.trans e14).trans e5)) (fun σ5 Hs5 H5 G5 M5 S5 e5 L5 j5 => ⟨Hs5, G5, M5, S5, e14.trans e5, L5, j5⟩)
    · have ei : i = n := by omega
      subst ei
      exact .inl ⟨hstop, dn σ2 Hs2 H2 G2 M2 S2 (e1.trans e2) L2 (jend G2 M2 j2)⟩
/-! comprehensions -/
def wipeG (G : Gm) : List Nat → Gm
  | [] => G
  | v :: vs => (wipeG G vs).set v none
theorem slots_none {Hs : Hp} {σ : L2.St} {G : Gm} (h : Slots K Hs σ G) (i : Nat) : Slots K Hs (σ.set i none) (G.set i none) := by
  refine ⟨by rw [List.length_set, List.length_set]; exact h.1, fun j t g => ?_⟩
  by_cases e : i = j
  · subst e
    by_cases l : i < G.length
    · rw [List.getElem?_set_self l] at g; cases g
    · rw [List.getElem?_eq_none (by rw [List.length_set]; omega)] at g; cases g
  · rw [List.getElem?_set_ne e] at g ⊢
    exact h.2 j t g
theorem slots_wipe {Hs : Hp} {σ : L2.St} (h : Slots K Hs σ G) : ∀ vs : List Nat, Slots K Hs (wipe σ vs) (wipeG G vs)
  | [] => h
  | v :: vs => slots_none (slots_wipe h vs) v
theorem wipe_at {σ : L2.St} {i : Nat} (hi : i < σ.length) : ∀ vs : List Nat, (wipe σ vs)[i]? = if i ∈ vs then some none else σ[i]?
  | [] => by simp [wipe]
  | v :: vs => by
    unfold wipe
    have hl : (wipe σ vs).length = σ.length := wipe_length σ vs
    by_cases e : v = i
    · subst e
      rw [List.getElem?_set_self (by omega)]
      simp
    · rw [List.getElem?_set_ne e, wipe_at hi vs]
      have : i ∈ v :: vs ↔ i ∈ vs := by simp [Ne.symm e]
      simp only [this]
theorem wipe_eq {σ σ2 : L2.St} {vs : List Nat} (hl : σ2.length = (wipe σ vs).length) (h : ∀ i, i ∉ vs → σ2[i]? = (wipe σ vs)[i]?) : wipe σ2 vs = wipe σ vs := by
  have hl' : (wipe σ vs).length = σ.length := wipe_length σ vs
  apply List.ext_getElem?
  intro i
  by_cases hi : i < σ.length
  · rw [wipe_at (by omega) vs, wipe_at hi vs]
    by_cases hm : i ∈ vs
    · rw [if_pos hm, if_pos hm]
    · rw [if_neg hm, if_neg hm, h i hm, wipe_at hi vs, if_neg hm]
  · have h2 : (wipe σ2 vs).length = σ2.length := wipe_length σ2 vs
    exact (List.getElem?_eq_none (by rw [h2, hl, hl']; exact Nat.le_of_not_lt hi)).trans (List.getElem?_eq_none (by rw [hl']; exact Nat.le_of_not_lt hi)).symm
/-- every object that M knows stands in M' too -/
def Mext (M M' : Mm) : Prop := ∀ a o, M a = some o → M' a = some o
theorem Mext.refl (M : Mm) : Mext M M := fun _ _ h => h
theorem Mext.new {M : Mm} {p : Addr} {o : Ob} (h : M p = none) : Mext M (mup M p o) := fun a u e => by rw [mup_ne (mne e h)]; exact e
/-- [e for .. in .. if ..]: the general form; acc: what the new list at p holds so far -/
theorem we_lc {wi : TI} {g : TG} {tt : TT} {te : TE} {vs : List Nat} (hg : GOn g vs) (h : WI K P0 wi G M fun n item stay M1 => ∀ p, M1 p = none → ∃ J : Nat → Mm → List Sv → Prop, J 0 M1 [] ∧ (∀ i M' acc, i ≤ n → J i M' acc → stay (mup M' p (.lst acc)) ∧ M' p = none ∧ acc.length ≤ 99999) ∧
    (∀ i M' acc, i < n → J i M' acc → WG K P0 g (item i) (wipeG G vs) (mup M' p (.lst acc)) fun G2 M2 => WT K P0 tt G2 M2 fun b M3 => (b = true → WE K P0 te G2 M3 fun s M4 => ∃ M5, M4 = mup M5 p (.lst acc) ∧ J (i + 1) M5 (acc ++ [s])) ∧
      (b = false → ∃ M5, M3 = mup M5 p (.lst acc) ∧ J (i + 1) M5 acc)) ∧ ∀ M' acc, J n M' acc → k (.rf (.ref p)) (mup M' p (.lst acc))) : WE K P0 (tLc wi g tt te vs) G M k := fun σ Hs H S L Q c =>
  h σ Hs H S L _ fun It0 Hs1 H1 n item stay M1 S1 e1 itd hJ => fun Dl hD => by
    obtain ⟨m0, _⟩ := S1.own.free hD
    obtain ⟨J, j0, jst, jstep, jend⟩ := hJ Dl m0
    have L1 := slots_mono e1 L
    refine ⟨fun i m H' => m + i = n ∧ ∃ Hs' M' acc, St0 K P0 (mup M' Dl (.lst acc)) Hs' H' ∧ Ex Hs1 Hs' ∧ J i M' acc, ⟨n, by omega, Hs1, M1, [], S1.make hD (ob := .lst []) ⟨[], upd_same, .nil⟩, Ex.refl _, j0⟩, ?_⟩
    rintro i m H2 ⟨hm, Hs2, M2, acc, S2, e2, j2⟩
    have hin : i ≤ n := by omega
    obtain ⟨jsA, jsB, jsC⟩ := jst i M2 acc hin j2
    obtain ⟨hgo, hstop⟩ := itd Hs2 _ H2 S2 e2 jsA
    by_cases hlt : i < n
    · obtain ⟨go, yl⟩ := hgo i hlt
      refine .inr ⟨go, fun H' => ∃ Hs' M' acc, St0 K P0 (mup M' Dl (.lst acc)) Hs' H' ∧ Ex Hs1 Hs' ∧ J (i + 1) M' acc, fun H' z => ⟨m - 1, by omega, by omega, z⟩, fun x H3 hy => ?_⟩
      obtain ⟨Hs3, S3, e3, r3⟩ := yl x H3 hy
      have L3 : Slots K Hs3 (wipe σ vs) (wipeG G vs) := slots_wipe (slots_mono (e2.trans e3) L1) vs
      refine hg x (wipe σ vs) H3 _ ?_
      refine jstep i M2 acc hlt j2 x (wipe σ vs) Hs3 H3 S3 L3 r3 _ fun σ4 Hs4 H4 G4 M4 S4 e4 L4 q4 hon => ⟨wipe_eq hon.1 hon.2, ?_⟩
      refine q4 σ4 Hs4 H4 S4 L4 _ fun b Hs5 H5 M5 S5 e5 q5 => ?_
      cases b with
      | true =>
        show te σ4 H5 _
        refine q5.1 rfl σ4 Hs5 H5 S5 (slots_mono e5 L4) _ fun y Hs6 H6 s6 M6 S6 e6 r6 ⟨M7, em, j7⟩ => ?_
        subst em
        obtain ⟨xs, hx, rx⟩ := S6.own.ob Dl _ mup_same
        have hxl := reps_length rx
        refine ⟨xs, hx, Evl.sz_lt (by omega), ?_⟩
        have S7 := S6.write (a := Dl) (o0 := .lst acc) mup_same (o := .lst (xs ++ [y])) (ob := .lst (acc ++ [s6])) ⟨_, upd_same, reps_append rx (.cons r6 .nil)⟩
        rw [mup_mup] at S7
        exact ⟨Hs6, M7, _, S7, (((e2.trans e3).trans e4).trans e5).trans e6, j7⟩
      | false =>
        obtain ⟨M7, em, j7⟩ := q5.2 rfl
        subst em
        exact ⟨Hs5, M7, acc, S5, ((e2.trans e3).trans e4).trans e5, j7⟩
    · have ei : i = n := by omega
      subst ei
      exact .inl ⟨hstop, c (.ref Dl) Hs2 H2 (.rf (.ref Dl)) _ S2 (e1.trans e2) rfl (jend M2 acc j2)⟩
/-- .. that changes no object: the list of what f gives, for nobody to change -/
theorem we_lcP {wi : TI} {g : TG} {tt : TT} {te : TE} {vs : List Nat} (hg : GOn g vs) (h : WI K P0 wi G M fun n item stay M1 => ∃ f : Nat → Option PyData, n ≤ 99999 ∧ (∀ M', Mext M1 M' → stay M') ∧
    (∀ i M', i < n → Mext M1 M' → WG K P0 g (item i) (wipeG G vs) M' fun G2 M2 => M2 = M' ∧ WT K P0 tt G2 M2 fun b M3 => M3 = M' ∧ (b = true → WE K P0 te G2 M3 fun s M4 => M4 = M' ∧ ∃ d, s = .va d ∧ f i = some d) ∧ (b = false → f i = none)) ∧
    k (.va (.list ((List.range n).filterMap f))) M1) : WE K P0 (tLc wi g tt te vs) G M k := fun σ Hs H S L Q c => by
  refine we_lc (k := fun s M' => ∃ (n : Nat) (f : Nat → Option PyData) (M1 : Mm) (p : Addr), M1 p = none ∧ s = .rf (.ref p) ∧ M' = mup M1 p (.lst (((List.range n).filterMap f).map Sv.va)) ∧ k (.va (.list ((List.range n).filterMap f))) M1) hg ?_ σ Hs H S L Q ?_
  · intro σ1 Hs1 H1 S1 L1 R c1
    refine h σ1 Hs1 H1 S1 L1 R fun J Hs2 H2 n item stay M1 S2 e2 itd ⟨f, hn, hst, hstep, hk⟩ => ?_
    refine c1 J Hs2 H2 n item stay M1 S2 e2 itd fun p hp => ⟨fun i M' acc => M' = M1 ∧ acc = ((List.range i).filterMap f).map Sv.va, ⟨rfl, rfl⟩, ?_, ?_, ?_⟩
    · rintro i M' acc hi ⟨rfl, rfl⟩
      refine ⟨hst _ (Mext.new hp), hp, ?_⟩
      rw [List.length_map]
      have h1 := List.length_filterMap_le f (List.range i)
      rw [List.length_range] at h1
      omega
    · rintro i M' acc hi ⟨rfl, rfl⟩ v σ3 Hs3 H3 S3 L3 r3 Q3 c3
      refine hstep i _ hi (Mext.new hp) v σ3 Hs3 H3 S3 L3 r3 Q3 fun σ4 Hs4 H4 G4 M4 S4 e4 L4 ⟨em, q⟩ => ?_
      refine c3 σ4 Hs4 H4 G4 M4 S4 e4 L4 ?_
      refine wt_mono q fun b M5 ⟨em5, h1, h2⟩ => ⟨fun hb => we_mono (h1 hb) fun s M6 ⟨em6, d, es, ef⟩ => ⟨M', em6, rfl, ?_⟩, fun hb => ⟨M', em5, rfl, ?_⟩⟩
      · rw [es, List.range_succ, List.filterMap_append, List.map_append]
        simp [ef]
      · rw [List.range_succ, List.filterMap_append]
        simp [h2 hb]
    · rintro M' acc ⟨rfl, rfl⟩
      exact ⟨n, f, _, p, hp, rfl, rfl, hk⟩
  · intro v Hs' H' s M' S' e' r ⟨n, f, M1, p, hp, es, em, hk⟩
    subst es em
    have ev : v = .ref p := r
    subst ev
    obtain ⟨Hs2, S2, e2, d2⟩ := S'.freeze mup_same
    rw [mdel_mup hp] at S2
    exact c (.ref p) Hs2 H' (.va (.list _)) _ S2 (e'.trans e2) d2 hk
end
end G91

/-! Fw4: defs, methods, classes by name; attributes; the end. -/
namespace G91
open PySem PySem.Spec PyProof.Rows L2
open Evl (Ex)
open He (ga ma fAd)

/-- a def (a method) of the text as it stands behind the top, of no default -/
structure Df (K : PySem.W.Frag) (x qual : Str) (st : Stmt) (f : Addr) : Prop where
  ex : ∃ fd, FunD K x qual (defArgs st) (defBody st) (defScope st) [] [] f fd
/-- a def that may be called by its name -/
structure Cal (P : Program) (w : World) (K : PySem.W.Frag) (mg : Str → Option Value) (base : Heap) (x : Str) (k : Nat) (sp : Sp) : Prop where
  ex : ∃ (f : Addr) (fd : FuncData) (ps : List Str), FnOk P w K mg base (L2.CX P w) k f fd ps sp ∧ mg x = some (.ref f) ∧ PySem.W.keepIn K (.ref f) = true ∧ Binds K fd ps []
/-- a method of the class at C -/
structure Met (P : Program) (w : World) (K : PySem.W.Frag) (mg : Str → Option Value) (base : Heap) (C : Addr) (m : Str) (k : Nat) (sp : Sp) : Prop where
  ex : ∃ (f : Addr) (fd : FuncData) (ps : List Str), Cls K C ∧ Meth K C m f ∧ FnOk P w K mg base (L2.CX P w) k f fd ps sp ∧ Binds K fd ps []
/-- a class that may be made by its name; sp: its __init__ -/
structure Mak (P : Program) (w : World) (K : PySem.W.Frag) (mg : Str → Option Value) (base : Heap) (x : Str) (C : Addr) (k : Nat) (sp : Sp) : Prop where
  ex : ∃ (f : Addr) (fd : FuncData) (ps : List Str), Mk K C f ∧ FnOk P w K mg base (L2.CX P w) k f fd ps sp ∧ mg x = some (.ref C) ∧ Binds K fd ps []

section
variable {X : Cx} {k j : Nat} {C : Addr} {x m : Str} {sp : Sp} {E : XK} {p pos apos : Pos} {e o : Expr} {es : List Expr} {ta : TE} {t : TA}
theorem pcall (c : Cal X.prog X.w X.K X.mg X.base x k sp) (hr : Room j X.A) (hk : k ≤ j) (hg : Gl X x) (hx : Passes (L2.CX X.prog X.w) X E) (ha : PA X (e :: es) t)
    (hdb : (x == ("__debug__" : Str)) = false := by decide) (he : starEach (e :: es) X.env = (false, eval e X.env) :: starEach es X.env := by rfl) (hpl : (backTo pos (starEach es X.env)).any (·.1) = false := by rfl) :
    PE X (.Call (.Name x p) (e :: es) [] pos) (tCall sp [] E t) := by
  obtain ⟨f, fd, ps, F, hm, kp, b⟩ := c.ex
  exact pe_call F (hr.mono hk) hg hm kp b .nil hx ha hdb he hpl
theorem pcall0 (c : Cal X.prog X.w X.K X.mg X.base x k sp) (hr : Room j X.A) (hk : k ≤ j) (hg : Gl X x) (hx : Passes (L2.CX X.prog X.w) X E)
    (hdb : (x == ("__debug__" : Str)) = false := by decide) : PE X (.Call (.Name x p) [] [] pos) (tCall sp [] E tNil) := by
  obtain ⟨f, fd, ps, F, hm, kp, b⟩ := c.ex
  exact pe_call0 F (hr.mono hk) hg hm kp b .nil hx hdb
theorem pcallS {E : L2.St → XK} (c : Cal X.prog X.w X.K X.mg X.base x k sp) (hr : Room j X.A) (hk : k ≤ j) (hg : Gl X x) (hx : ∀ σ, PassesAt (L2.CX X.prog X.w) X σ (E σ)) (ha : PA X (e :: es) t)
    (hdb : (x == ("__debug__" : Str)) = false := by decide) (he : starEach (e :: es) X.env = (false, eval e X.env) :: starEach es X.env := by rfl) (hpl : (backTo pos (starEach es X.env)).any (·.1) = false := by rfl) :
    PE X (.Call (.Name x p) (e :: es) [] pos) (tCallS sp E t) := by
  obtain ⟨f, fd, ps, F, hm, kp, b⟩ := c.ex
  exact pe_callS F (hr.mono hk) hg hm kp b hx ha hdb he hpl
theorem pmake (c : Mak X.prog X.w X.K X.mg X.base x C k sp) (hr : Room j X.A) (hk : k + 1 ≤ j) (hg : Gl X x) (hx : Passes (L2.CX X.prog X.w) X E) (ha : PA X (e :: es) t)
    (hdb : (x == ("__debug__" : Str)) = false := by decide) (he : starEach (e :: es) X.env = (false, eval e X.env) :: starEach es X.env := by rfl) (hpl : (backTo pos (starEach es X.env)).any (·.1) = false := by rfl) :
    PE X (.Call (.Name x p) (e :: es) [] pos) (tMake C sp [] E t) := by
  obtain ⟨f, fd, ps, M, F, hm, b⟩ := c.ex
  exact pe_make M F (hr.mono hk) hg hm b .nil hx ha hdb he hpl
theorem pmeth {pl : Sem Bool} (c : Met X.prog X.w X.K X.mg X.base C m k sp) (hr : Room j X.A) (hk : k ≤ j) (hx : Passes (L2.CX X.prog X.w) X E) (he : PE X o ta) (ha : PA X (e :: es) t)
    (hst : starEach (e :: es) X.env = (false, eval e X.env) :: starEach es X.env := by rfl) (hpl : (backTo pos (starEach es X.env)).any (·.1) = false := by rfl)
    (ht : eval (.Call (.Attribute o m apos) (e :: es) [] pos) X.env = (do
      let v ← eval o X.env
      standAt apos.atName
      let (g, a0) ← holding [v] (getMethod v m pl)
      callWith pos g a0 (backTo pos (starEach (e :: es) X.env)) (backToKw pos (keywordEach [] X.env))) := by rfl) :
    PE X (.Call (.Attribute o m apos) (e :: es) [] pos) (tMeth C m sp [] E ta t) := by
  obtain ⟨f, fd, ps, hc, hm, F, b⟩ := c.ex
  exact pe_meth (pl := pl) he hc hm F (hr.mono hk) b .nil hx ha hst hpl ht
theorem pmeth0 {pl : Sem Bool} (c : Met X.prog X.w X.K X.mg X.base C m k sp) (hr : Room j X.A) (hk : k ≤ j) (hx : Passes (L2.CX X.prog X.w) X E) (he : PE X o ta)
    (ht : eval (.Call (.Attribute o m apos) [] [] pos) X.env = (do
      let v ← eval o X.env
      standAt apos.atName
      let (g, a0) ← holding [v] (getMethod v m pl)
      callWith pos g a0 (backTo pos (starEach [] X.env)) (backToKw pos (keywordEach [] X.env))) := by rfl) :
    PE X (.Call (.Attribute o m apos) [] [] pos) (tMeth C m sp [] E ta tNil) := by
  obtain ⟨f, fd, ps, hc, hm, F, b⟩ := c.ex
  exact pe_meth0 (pl := pl) he hc hm F (hr.mono hk) b .nil hx ht
/-! names of the module -/
theorem pgref {a : Addr} (h : X.mg x = some (.ref a)) (hg : Gl X x) (hdb : (x == ("__debug__" : Str)) = false := by decide) : PE X (.Name x pos) (tC (.ref a)) := by
  first
    | exact pe_glob hg h rfl
    | exact pe_glob hg h rfl hdb
theorem pgint {z : Int} (h : ∃ u, X.mg x = some (.int z u)) (hg : Gl X x) (hdb : (x == ("__debug__" : Str)) = false := by decide) : PE X (.Name x pos) (tC (.int z)) := by
  obtain ⟨u, h⟩ := h
  exact pe_glob hg h ⟨u, rfl⟩ hdb
theorem pgstr {z : Str} (h : ∃ u, X.mg x = some (.str z u)) (hg : Gl X x) (hdb : (x == ("__debug__" : Str)) = false := by decide) : PE X (.Name x pos) (tC (.str z)) := by
  obtain ⟨u, h⟩ := h
  exact pe_glob hg h ⟨u, rfl⟩ hdb
/-! an own error without own __init__ -/
structure ExcX (K : PySem.W.Frag) (mg : Str → Option Value) (x : Str) : Prop where
  q : PySem.W.excIn K (ga K x) He.veBase "ValueError.__new__" = true
  k : PySem.W.keepIn K (.ref (ga K x)) = true
  s : PySem.W.subIn K (.ref (ga K x)) (.type "BaseException") = some true
  t : PySem.W.typeIn K (.ref (ga K x)) = some (.type "type")
  g : mg x = some (.ref (ga K x))
def tRaiseX (cls : Value) (E : XK) : TS := fun _ σ H => (fun (_ : L2.St) (H : Hp) (Q : XK) => Q cls none H) σ H fun cls d H' => (fun cls d (_ : L2.St) H => E cls d H) cls d σ H'
theorem praise {j : Nat} {p2 pos2 : Pos} (hc : X.calm = true) (T : ExcX X.K X.mg x) (tk : Takes X (fun cls d _ H => E cls d H)) (hg : Gl X x) (hdb : (x == ("__debug__" : Str)) = false := by decide) :
    PS X (.Raise (some (.Call (.Name x p) [.Constant (.str m) j p2] [] pos)) none pos2) (tRaiseX (.ref (ga X.K x)) E) :=
  ps_raise hc tk (pmk_own PySem.F.excBase_ValueError T.q T.g T.k (raises_own T.s T.t) hg hdb)
end

section
variable {P : Program} {w : World} {K : PySem.W.Frag} {mg : Str → Option Value} {base : Heap} {x qual : Str} {st : Stmt} {f C : Addr} {N ps : List Str} {k : Nat} {spd : SpD} {t : XK → TS}
/-- what is to be shown of a body at data -/
def Keeps (K : PySem.W.Frag) (N ps : List Str) (t : XK → TS) (spd : SpD) : Prop := ∀ as M kk e, spd as M kk e → as.length = ps.length ∧ ∀ P0 E, XL K P0 E e →
  WS K P0 (t E) (as.map some ++ List.replicate (N.length - as.length) none) M (fun _ M' => kk (.va .none) M') kk (fun _ _ => False) (fun _ _ => False)
def BindsTxt (ps : List Str) (x qual : Str) (st : Stmt) : Prop := ∀ (kV doc pm : Value) (an : Option Addr) (cdv ct : Value) (us : List Value), us.length = ps.length → bindArgs (PySem.W.fnOf x qual (defArgs st) (defBody st) (defScope st) .none kV doc pm an cdv ct) ⟨us, []⟩ = pure (ps.zip us)
theorem fn_mk (F : Df K x qual st f) (S : FnScope N ps (defScope st)) (hb : BindsTxt ps x qual st) (hN : ps.length ≤ N.length)
    (hps : ∀ (cdv : Value) (A : Around) (outer : List Env) (s : Shared) (H : Hp) (E : XK), Room k (A.deeper (envOfC qual (defScope st) s.heap.objs.size f cdv)) → PSs (cxOf (L2.CX P w) P w K mg base N qual (defScope st) f cdv A outer s H E) (defBody st) (t E))
    (hv : Keeps K N ps t spd) : ∃ fd, FnOk P w K mg base (L2.CX P w) (k + 1) f fd ps (lift K spd) ∧ PySem.W.keepIn K (.ref f) = true ∧ Binds K fd ps [] := by
  obtain ⟨fd, F⟩ := F.ex
  refine ⟨fd, F.ok S (fun vs H Q E h => ?_) (fun cdv A outer s H vs Q E hr h => ?_), F.kp, F.bindsN hb⟩
  · obtain ⟨Hs, M, as, kk, e, _, rv, hs, _⟩ := h
    exact (reps_length rv).trans (hv as M kk e hs).1
  · obtain ⟨Hs, M, as, kk, e, ho, rv, hs, hk, he⟩ := h
    obtain ⟨hl, hw⟩ := hv as M kk e hs
    exact ⟨t E, hps cdv A outer s H E hr, run_abs ho rv hk he (by omega) fun P0 hE => hw P0 E hE⟩
theorem cal_mk (F : Df K x x st f) (hm : mg x = some (.ref f)) (S : FnScope N ps (defScope st)) (hb : BindsTxt ps x x st) (hN : ps.length ≤ N.length)
    (hps : ∀ (cdv : Value) (A : Around) (outer : List Env) (s : Shared) (H : Hp) (E : XK), Room k (A.deeper (envOfC x (defScope st) s.heap.objs.size f cdv)) → PSs (cxOf (L2.CX P w) P w K mg base N x (defScope st) f cdv A outer s H E) (defBody st) (t E))
    (hv : Keeps K N ps t spd) : Cal P w K mg base x (k + 1) (lift K spd) := by
  obtain ⟨fd, h1, h2, h3⟩ := fn_mk F S hb hN hps hv
  exact ⟨f, fd, ps, h1, hm, h2, h3⟩
theorem met_mk {m : Str} (F : Df K m qual st f) (hc : Cls K C) (hm : Meth K C m f) (S : FnScope N ps (defScope st)) (hb : BindsTxt ps m qual st) (hN : ps.length ≤ N.length)
    (hps : ∀ (cdv : Value) (A : Around) (outer : List Env) (s : Shared) (H : Hp) (E : XK), Room k (A.deeper (envOfC qual (defScope st) s.heap.objs.size f cdv)) → PSs (cxOf (L2.CX P w) P w K mg base N qual (defScope st) f cdv A outer s H E) (defBody st) (t E))
    (hv : Keeps K N ps t spd) : Met P w K mg base C m (k + 1) (lift K spd) := by
  obtain ⟨fd, h1, h2, h3⟩ := fn_mk F S hb hN hps hv
  exact ⟨f, fd, ps, hc, hm, h1, h3⟩
theorem mak_mk (F : Df K "__init__" qual st f) (hm : Mk K C f) (hg : mg x = some (.ref C)) (S : FnScope N ps (defScope st)) (hb : BindsTxt ps "__init__" qual st) (hN : ps.length ≤ N.length)
    (hps : ∀ (cdv : Value) (A : Around) (outer : List Env) (s : Shared) (H : Hp) (E : XK), Room k (A.deeper (envOfC qual (defScope st) s.heap.objs.size f cdv)) → PSs (cxOf (L2.CX P w) P w K mg base N qual (defScope st) f cdv A outer s H E) (defBody st) (t E))
    (hv : Keeps K N ps t spd) : Mak P w K mg base x C (k + 1) (lift K spd) := by
  obtain ⟨fd, h1, h2, h3⟩ := fn_mk F S hb hN hps hv
  exact ⟨f, fd, ps, hm, h1, hg, h3⟩
end

/-! ### attributes, methods, new instances at data -/
def putS (f : Str) (v : Sv) : List (Str × Sv) → List (Str × Sv)
  | [] => [(f, v)]
  | (g, u) :: r => if g = f then (g, v) :: r else (g, u) :: putS f v r
section
variable {K : PySem.W.Frag} {P0 : Ent} {G : Gm} {M : Mm} {k : Sv → Mm → Prop} {te ta tb : TE} {i : Nat} {s : Sv} {v : V} {nx : Gm → Mm → Prop} {rt : Sv → Mm → Prop} {bk ct : Gm → Mm → Prop}
abbrev FPr (K : PySem.W.Frag) (Hs : Hp) : List (Str × V) → List (Str × Sv) → Prop := Paired (fun (p : Str × V) (q : Str × Sv) => p.1 = q.1 ∧ Rep K Hs p.2 q.2)
theorem fs_get {Hs : Hp} {f : Str} {t : Sv} : ∀ {gs : List (Str × V)} {fs : List (Str × Sv)}, FPr K Hs gs fs → fs.lookup f = some t → ∃ v, gs.lookup f = some v ∧ Rep K Hs v t
  | _, _, .nil, h => by cases h
  | (g, u) :: gs, (g', u') :: fs, .cons r q, h => by
    obtain ⟨e, r⟩ := r
    have e : g = g' := e
    subst e
    rw [List.lookup_cons] at h ⊢
    cases c : f == g with
    | true => rw [c] at h; cases h; exact ⟨u, rfl, r⟩
    | false => rw [c] at h; exact fs_get q h
theorem fs_none {Hs : Hp} {f : Str} : ∀ {gs : List (Str × V)} {fs : List (Str × Sv)}, FPr K Hs gs fs → fs.lookup f = none → gs.lookup f = none
  | _, _, .nil, _ => rfl
  | (g, u) :: gs, (g', u') :: fs, .cons r q, h => by
    obtain ⟨e, r⟩ := r
    have e : g = g' := e
    subst e
    rw [List.lookup_cons] at h ⊢
    cases c : f == g with
    | true => rw [c] at h; cases h
    | false => rw [c] at h; exact fs_none q h
theorem fs_put {Hs : Hp} {f : Str} {v : V} {t : Sv} (rv : Rep K Hs v t) : ∀ {gs : List (Str × V)} {fs : List (Str × Sv)}, FPr K Hs gs fs → FPr K Hs (putF f v gs) (putS f t fs)
  | _, _, .nil => .cons ⟨rfl, rv⟩ .nil
  | (g, u) :: gs, (g', u') :: fs, .cons r q => by
    obtain ⟨e, r⟩ := r
    have e : g = g' := e
    subst e
    unfold putF putS
    split
    · exact .cons ⟨rfl, rv⟩ q
    · exact .cons ⟨rfl, r⟩ (fs_put rv q)
theorem we_fld {f : Str} (h : WE K P0 ta G M fun s M1 => ∃ a C fs t, s = .rf (.ref a) ∧ M1 a = some (.ins C fs) ∧ Cls K C ∧ NoAttr K C f ∧ fs.lookup f = some t ∧ k t M1) : WE K P0 (tFld K ta f) G M k := fun σ Hs H S L Q c =>
  h σ Hs H S L _ fun x Hs1 H1 s M1 S1 e1 r1 ⟨a, C, fs, t, es, hm, hc, hn, hl, q⟩ => by
    subst es
    have ex : x = .ref a := r1
    subst ex
    obtain ⟨dx, gs, h1, h2⟩ := S1.own.ob a _ hm
    obtain ⟨v, h3, h4⟩ := fs_get h2 hl
    exact ⟨a, C, dx, gs, v, rfl, h1, hc, hn, h3, c v Hs1 H1 t M1 S1 e1 h4 q⟩
theorem ws_fld {f : Str} {tv : TE} (h : WE K P0 tv G M fun s M1 => WE K P0 ta G M1 fun so M2 => ∃ a C fs, so = .rf (.ref a) ∧ M2 a = some (.ins C fs) ∧ Cls K C ∧ NoAttr K C f ∧ fs.length < 1000 ∧ nx G (mup M2 a (.ins C (putS f s fs)))) :
    WS K P0 (sFld K ta tv f) G M nx rt bk ct := fun σ Hs H S L D dn dr db dc =>
  h σ Hs H S L _ fun x Hs1 H1 s M1 S1 e1 r1 h1 => h1 σ Hs1 H1 S1 (slots_mono e1 L) _ fun y Hs2 H2 so M2 S2 e2 r2 ⟨a, C, fs, es, hm, hc, hn, hl, q⟩ => by
    subst es
    have ey : y = .ref a := r2
    subst ey
    obtain ⟨dx, gs, g1, g2⟩ := S2.own.ob a _ hm
    have hlen : gs.length = fs.length := Paired.length g2
    refine ⟨a, C, dx, gs, rfl, g1, hc, hn, by omega, ?_⟩
    have S3 := S2.write hm (o := .ins C dx (putF f x gs)) (ob := .ins C (putS f s fs)) ⟨dx, _, upd_same, fs_put (rep_mono e2 r1) g2⟩
    exact dn σ Hs2 _ G _ S3 (e1.trans e2) (slots_mono (e1.trans e2) L) q
theorem we_meth {C : Addr} {m : Str} {sp : SpD} {tr : TA} {E : XK} {e : Value → Mm → Prop} (hE : XL K P0 E e) (h : WE K P0 ta G M fun s M1 => ∃ a fs, s = .rf (.ref a) ∧ M1 a = some (.ins C fs) ∧ fs.lookup m = none ∧ WA K P0 tr G M1 fun as M2 => sp (s :: as) M2 k e) :
    WE K P0 (tMeth C m (lift K sp) [] E ta tr) G M k := fun σ Hs H S L Q c =>
  h σ Hs H S L _ fun x Hs1 H1 s M1 S1 e1 r1 ⟨a, fs, es, hm, hl, h1⟩ => by
    subst es
    have ex : x = .ref a := r1
    subst ex
    obtain ⟨dx, gs, g1, g2⟩ := S1.own.ob a _ hm
    refine ⟨a, dx, gs, rfl, g1, fs_none g2 hl, ?_⟩
    exact h1 σ Hs1 H1 S1 (slots_mono e1 L) _ fun xs Hs2 H2 ss M2 S2 e2 r2 h2 => ⟨Hs2, M2, _, k, e, S2.own, by rw [List.append_nil]; exact .cons (show Rep K Hs2 (.ref a) (.rf (.ref a)) from rfl) r2, h2,
      fun v Hs' H' s M' g o r z => c v Hs' H' s M' ⟨S2.gr.trans g, o⟩ ((e1.trans e2).trans g.sh) r z, fun cls Hs' H' M' g o z => hE cls Hs' H' M' ⟨S2.gr.trans g, o⟩ z⟩
theorem we_make {C : Addr} {sp : SpD} {tr : TA} {E : XK} {e : Value → Mm → Prop} (hE : XL K P0 E e) (h : WA K P0 tr G M fun as M1 => ∀ x, M1 x = none → sp (.rf (.ref x) :: as) (mup M1 x (.ins C [])) (fun s M' => s = .va .none ∧ k (.rf (.ref x)) M') e) :
    WE K P0 (tMake C (lift K sp) [] E tr) G M k := fun σ Hs H S L Q c =>
  h σ Hs H S L _ fun xs Hs1 H1 as M1 S1 e1 r1 h1 => fun x dx nx ndx nex => by
    obtain ⟨m0, s0⟩ := S1.own.free nx
    obtain ⟨m1, s1⟩ := S1.own.free ndx
    -- the instance's own dict stands beside
    have S2 : St0 K P0 M1 Hs1 (upd H1 dx (.own x)) := by
      refine ⟨S1.gr.trans ⟨Ex.refl _, fun a h n => absurd h n, fun a u h _ => by rw [upd_ne (ne_of_none h ndx)]; exact h, fun a n => .inl n⟩, ⟨fun a u h => by rw [upd_ne (ne_of_none h s1)]; exact S1.own.ex a u h, S1.own.sep, fun a ob h => ?_⟩⟩
      exact obIs_mono (Ex.refl _) (fun u z => by rw [upd_ne (mne h m1)]; exact z) (S1.own.ob a ob h)
    have S3 := S2.make (p := x) (by rw [upd_ne (Ne.symm nex)]; exact nx) (o := .ins C dx []) (ob := .ins C []) ⟨dx, [], upd_same, .nil⟩
    refine ⟨Hs1, _, _, _, e, S3.own, by rw [List.append_nil]; exact .cons (show Rep K Hs1 (.ref x) (.rf (.ref x)) from rfl) r1, h1 x m0, fun v Hs' H' s M' g o r z => ?_, fun cls Hs' H' M' g o z => hE cls Hs' H' M' ⟨S3.gr.trans g, o⟩ z⟩
    obtain ⟨es, z⟩ := z
    subst es
    cases (show Dq K Hs' v .none from r)
    exact ⟨rfl, c (.ref x) Hs' H' (.rf (.ref x)) M' ⟨S3.gr.trans g, o⟩ (e1.trans g.sh) rfl z⟩
theorem ws_raiseX {E : XK} {e : Value → Mm → Prop} {cls : Value} (hE : XL K P0 E e) (h : e cls M) : WS K P0 (tRaiseX cls E) G M nx rt bk ct := fun σ Hs H S L D _ _ _ _ => hE cls Hs H M S h
end
end G91

/-! Fw5: names for readings; try; isinstance of a caught error. -/
namespace G91
open PySem PySem.Spec PyProof.Rows L2
open Evl (Ex)
open He (ga ma fAd)

def rSubI : R2 := rI0 fun i j => .int (i - j)
def rModN : R2 := rI (fun _ j => j ≠ 0) fun i j => .int (i.fmod j)
def rDivN : R2 := rI CDivN fun i j => .int (i.fdiv j)
def rDivR : R2 := rI (fun _ j => j ≠ 0) fun i j => .int (i.fdiv j)
def rPowN : R2 := rI CPow fun i j => .int (i ^ j.toNat)
def rLtI : R2 := rI0 fun i j => .bl (decide (i < j))
def rLeI : R2 := rI0 fun i j => .bl (decide (i ≤ j))
def rGtI : R2 := rI0 fun i j => .bl (decide (j < i))
def rGeI : R2 := rI0 fun i j => .bl (decide (j ≤ i))
def rIsNn : R2 := fun x y H Q => y = .non ∧ Q (.bl (decide (x = .non))) H
def rIsNotNn : R2 := fun x y H Q => y = .non ∧ Q (.bl (!decide (x = .non))) H
theorem hu_65 {A : Around} {k : Nat} (hr : Room k A) : A.units + 65 < cLine := by have := hr.un; omega
/-- a text of one sign in a text, or a thing in a list -/
def rInSg : R2 := fun x y H Q => ∃ (c : Nat) (z : Str), x = .str ⟨#[c]⟩ ∧ y = .str z ∧ Q (.bl (decide (c ∈ z.cps.toList))) H
def rNotInSg : R2 := fun x y H Q => ∃ (c : Nat) (z : Str), x = .str ⟨#[c]⟩ ∧ y = .str z ∧ Q (.bl (!decide (c ∈ z.cps.toList))) H
def rInB (K : PySem.W.Frag) : R2 := rOr rInSg (rInA K)
def rNotInB (K : PySem.W.Frag) : R2 := rOr rNotInSg (rNotInA K)
theorem op_inB {X : Cx} (hu : X.A.units + 65 < cLine) : OpR X (compareOp .In) (rInB X.K) := OpR.or op_in_sign (op_inA hu)
theorem op_notInB {X : Cx} (hu : X.A.units + 65 < cLine) : OpR X (compareOp .NotIn) (rNotInB X.K) := OpR.or op_notIn_sign (op_notInA hu)
/-! try: one call, caught -/
def tTryAs (K : PySem.W.Frag) (c : Value) (i : Nat) (tb : WX → TS) (ts : Addr → Value → Option Addr → TS) (Wout : WX) : TS := fun D σ H => tb (wAs K c i ts Wout D) D σ H
def tTryOnly (K : PySem.W.Frag) (c : Value) (tb : WX → TS) (ts : Addr → Value → Option Addr → TS) (Wout : WX) : TS := fun D σ H => tb (wOnly K c ts Wout D) D σ H
section
variable {K : PySem.W.Frag} {P0 : Ent} {G : Gm} {M : Mm} {nx : Gm → Mm → Prop} {rt : Sv → Mm → Prop} {bk ct : Gm → Mm → Prop}
theorem ws_tryAs {sp : SpD} {tr : TA} {c : Value} {i : Nat} {ts : Addr → Value → Option Addr → TS} {Wout : WX}
    (h : WA K P0 tr G M fun as M1 => sp as M1 (fun _ M2 => nx G M2) fun cls M2 => PySem.W.exmOne K cls c = some true ∧ ∀ a, WS K P0 (ts a cls none) (G.set i (some (.rf (.ref a)))) M2 (fun G' M' => nx (G'.set i none) M') rt (fun G' M' => bk (G'.set i none) M') (fun G' M' => ct (G'.set i none) M')) :
    WS K P0 (tTryAs K c i (fun W => tDrop (tCallS (lift K sp) (L2.WE W) tr)) ts Wout) G M nx rt bk ct := fun σ Hs H S L D dn dr db dc => by
  show tr σ H fun vs H1 => lift K sp vs H1 (fun _ H' => D.nx σ H') (L2.WE (wAs K c i ts Wout D) σ)
  refine h σ Hs H S L _ fun vs Hs1 H1 ss M1 S1 e1 r1 h1 => ?_
  refine ⟨Hs1, M1, ss, _, _, S1.own, r1, h1, fun v Hs' H' s M' g o r z => dn σ Hs' H' G M' ⟨S1.gr.trans g, o⟩ (e1.trans g.sh) (slots_mono (e1.trans g.sh) L) z, fun cls Hs' H' M' g o z => ?_⟩
  obtain ⟨z1, z2⟩ := z
  refine ⟨true, z1, fun _ a ha => ?_, fun q => Bool.noConfusion q⟩
  have e2 := e1.trans g.sh
  have L2 : Slots K Hs' (σ.set i (some (.ref a))) (G.set i (some (.rf (.ref a)))) := slots_set (v := .ref a) (s := .rf (.ref a)) (slots_mono e2 L) (show Rep K Hs' (.ref a) (.rf (.ref a)) from rfl) i
  exact z2 a (σ.set i (some (.ref a))) Hs' H' ⟨S1.gr.trans g, o⟩ L2 _ (fun σ3 Hs3 H3 G3 M3 S3 e3 L3 q => dn _ Hs3 H3 _ M3 S3 (e2.trans e3) (slots_none L3 i) q) (fun v Hs3 H3 s M3 S3 e3 => dr v Hs3 H3 s M3 S3 (e2.trans e3))
    (fun σ3 Hs3 H3 G3 M3 S3 e3 L3 q => db _ Hs3 H3 _ M3 S3 (e2.trans e3) (slots_none L3 i) q) (fun σ3 Hs3 H3 G3 M3 S3 e3 L3 q => dc _ Hs3 H3 _ M3 S3 (e2.trans e3) (slots_none L3 i) q)
theorem ws_tryOnly {sp : SpD} {tr : TA} {c : Value} {ts : Addr → Value → Option Addr → TS} {Wout : WX}
    (h : WA K P0 tr G M fun as M1 => sp as M1 (fun _ M2 => nx G M2) fun cls M2 => PySem.W.exmOne K cls c = some true ∧ ∀ a, WS K P0 (ts a cls none) G M2 nx rt bk ct) :
    WS K P0 (tTryOnly K c (fun W => tDrop (tCallS (lift K sp) (L2.WE W) tr)) ts Wout) G M nx rt bk ct := fun σ Hs H S L D dn dr db dc => by
  show tr σ H fun vs H1 => lift K sp vs H1 (fun _ H' => D.nx σ H') (L2.WE (wOnly K c ts Wout D) σ)
  refine h σ Hs H S L _ fun vs Hs1 H1 ss M1 S1 e1 r1 h1 => ?_
  refine ⟨Hs1, M1, ss, _, _, S1.own, r1, h1, fun v Hs' H' s M' g o r z => dn σ Hs' H' G M' ⟨S1.gr.trans g, o⟩ (e1.trans g.sh) (slots_mono (e1.trans g.sh) L) z, fun cls Hs' H' M' g o z => ?_⟩
  obtain ⟨z1, z2⟩ := z
  refine ⟨true, z1, fun _ a ha => ?_, fun q => Bool.noConfusion q⟩
  have e2 := e1.trans g.sh
  exact z2 a σ Hs' H' ⟨S1.gr.trans g, o⟩ (slots_mono e2 L) D (fun σ3 Hs3 H3 G3 M3 S3 e3 => dn σ3 Hs3 H3 G3 M3 S3 (e2.trans e3)) (fun v Hs3 H3 s M3 S3 e3 => dr v Hs3 H3 s M3 S3 (e2.trans e3))
    (fun σ3 Hs3 H3 G3 M3 S3 e3 => db σ3 Hs3 H3 G3 M3 S3 (e2.trans e3)) (fun σ3 Hs3 H3 G3 M3 S3 e3 => dc σ3 Hs3 H3 G3 M3 S3 (e2.trans e3))
/-- isinstance(e, c), e the error that the suite holds -/
def rIsX (K : PySem.W.Frag) (a : Addr) (cls : Value) (d : Option Addr) : List V → Hp → VK → Prop := fun xs H Q => ∃ D, cls = .ref D ∧ d = none ∧ ExcC K D ∧ rIsE K D a xs H Q
theorem call_isX {X : Cx} {a : Addr} {cls : Value} {d : Option Addr} {oe : Obj} {pn : List (Addr × Obj)} (hz : Zc cls d oe) (hf : ∃ vs, oe.data = .fields vs) : CallR (X.suite a ((a, oe) :: pn)) (.builtin "isinstance") (rIsX X.K a cls d) := by
  intro pins s σ H xs us Q I r h
  obtain ⟨D, rfl, rfl, C, h⟩ := h
  exact call_isE C hz hf pins s σ H xs us Q I r h
theorem rc_isX {k : Sv → Mm → Prop} {a D : Addr} {c : V} {cv : Value} {b : Bool} (C : ExcC K D) (hc : ∀ u, RelV c u → u = cv) (e : PySem.W.kitOne K (.ref D) cv = some b) (q : k (.va (.bool b)) M) : RCD K P0 (rIsX K a (.ref D) none) [.rf (.ref a), .rf c] M k := fun Hs H xs S r Q cc => by
  obtain ⟨x, y, rfl, r1, r2⟩ := reps2 r
  have ex : x = .ref a := r1
  have ey : y = c := r2
  subst ex ey
  exact ⟨D, rfl, rfl, C, _, cv, b, rfl, hc, e, cc _ Hs H (.va (.bool b)) M S (Ex.refl _) (Dq.bl b) q⟩
end
end G91
namespace G91
open PySem PySem.Spec PyProof.Rows L2
section
variable {K : PySem.W.Frag} {P0 : Ent} {M : Mm} {k : Sv → Mm → Prop} {a b : Int}
theorem r2_lt (q : k (.va (.bool (decide (a < b)))) M) : R2D K P0 rLtI (.va (.int a)) (.va (.int b)) M k := r2_Ib q
theorem r2_le (q : k (.va (.bool (decide (a ≤ b)))) M) : R2D K P0 rLeI (.va (.int a)) (.va (.int b)) M k := r2_Ib q
theorem r2_gt (q : k (.va (.bool (decide (b < a)))) M) : R2D K P0 rGtI (.va (.int a)) (.va (.int b)) M k := r2_Ib q
theorem r2_ge (q : k (.va (.bool (decide (b ≤ a)))) M) : R2D K P0 rGeI (.va (.int a)) (.va (.int b)) M k := r2_Ib q
theorem r2_sub (q : k (.va (.int (a - b))) M) : R2D K P0 rSubI (.va (.int a)) (.va (.int b)) M k := r2_Ii q
theorem r2_mod (hb : 0 < b) (q : k (.va (.int (a % b))) M) : R2D K P0 rModN (.va (.int a)) (.va (.int b)) M k := r2_CIi (f := fun i j => i.fmod j) (by omega) (by rw [Int.fmod_eq_emod_of_nonneg a (by omega)]; exact q)
theorem r2_divR (hb : 0 < b) (q : k (.va (.int (a / b))) M) : R2D K P0 rDivR (.va (.int a)) (.va (.int b)) M k := r2_CIi (f := fun i j => i.fdiv j) (by omega) (by rw [Int.fdiv_eq_ediv_of_nonneg a (by omega)]; exact q)
theorem r2_divN (hb : 0 < b) (hb2 : b < 1073741824) (q : k (.va (.int (a / b))) M) : R2D K P0 rDivN (.va (.int a)) (.va (.int b)) M k := r2_CIi (f := fun i j => i.fdiv j) ⟨by omega, by omega⟩ (by rw [Int.fdiv_eq_ediv_of_nonneg a (by omega)]; exact q)
theorem r2_pow (hb : 0 ≤ b) (hb2 : b ≤ 1000000) (ha : a.natAbs < 2 ^ 64) (q : k (.va (.int (a ^ b.toNat))) M) : R2D K P0 rPowN (.va (.int a)) (.va (.int b)) M k := r2_CIi (f := fun i j => i ^ j.toNat) ⟨hb, hb2, ha⟩ q
end
end G91
/-! ### tests and values that change nothing -/
namespace G91
open PySem PySem.Spec PyProof.Rows L2
section
variable (K : PySem.W.Frag) (P0 : Ent)
def TP (t : TT) (G : Gm) (M : Mm) (b : Bool) : Prop := WT K P0 t G M fun b' M' => b' = b ∧ M' = M
def EP1 (t : TE) (G : Gm) (M : Mm) (s : Sv) : Prop := WE K P0 t G M fun s' M' => s' = s ∧ M' = M
end
section
variable {K : PySem.W.Frag} {P0 : Ent} {G : Gm} {M : Mm} {nx : Gm → Mm → Prop} {rt : Sv → Mm → Prop} {bk ct : Gm → Mm → Prop} {t u : TT} {b b1 b2 : Bool} {te ta tb : TE} {ts us : TS}
theorem tp_and (h1 : TP K P0 t G M b1) (h2 : b1 = true → TP K P0 u G M b2) : TP K P0 (tAnd t u) G M (b1 && b2) := wt_and (wt_mono h1 fun b' M' ⟨e, eM⟩ => by
  subst e eM
  refine ⟨fun h => ?_, fun h => ?_⟩
  · rw [h]; exact h2 h
  · rw [h]; exact ⟨rfl, rfl⟩)
theorem tp_or (h1 : TP K P0 t G M b1) (h2 : b1 = false → TP K P0 u G M b2) : TP K P0 (tOr t u) G M (b1 || b2) := wt_or (wt_mono h1 fun b' M' ⟨e, eM⟩ => by
  subst e eM
  refine ⟨fun h => ?_, fun h => ?_⟩
  · rw [h]; exact ⟨rfl, rfl⟩
  · rw [h]; exact h2 h)
theorem tp_not (h : TP K P0 t G M b) : TP K P0 (tNot t) G M (!b) := wt_not (wt_mono h fun b' M' ⟨e, eM⟩ => by subst e; exact ⟨rfl, eM⟩)
theorem tp_test (h : EP1 K P0 te G M (.va (.bool b))) : TP K P0 (tTest te) G M b := wt_test (we_mono h fun s M' ⟨e, eM⟩ => ⟨b, e, rfl, eM⟩)
theorem tp_B (h : EP1 K P0 te G M (.va (.bool b))) : TP K P0 (tB te) G M b := wt_B (we_mono h fun s M' ⟨e, eM⟩ => ⟨b, e, rfl, eM⟩)
theorem ep_andV (h1 : EP1 K P0 ta G M (.va (.bool b1))) (h2 : b1 = true → EP1 K P0 tb G M (.va (.bool b2))) : EP1 K P0 (tAndV ta tb) G M (.va (.bool (b1 && b2))) := we_andV (we_mono h1 fun s M' ⟨e, eM⟩ => by
  subst eM
  refine ⟨b1, e, fun h => ?_, fun h => ?_⟩
  · rw [h]; exact h2 h
  · rw [h]; exact ⟨rfl, rfl⟩)
theorem ep_orV (h1 : EP1 K P0 ta G M (.va (.bool b1))) (h2 : b1 = false → EP1 K P0 tb G M (.va (.bool b2))) : EP1 K P0 (tOrV ta tb) G M (.va (.bool (b1 || b2))) := we_orV (we_mono h1 fun s M' ⟨e, eM⟩ => by
  subst eM
  refine ⟨b1, e, fun h => ?_, fun h => ?_⟩
  · rw [h]; exact ⟨rfl, rfl⟩
  · rw [h]; exact h2 h)
theorem ep_notV (h : EP1 K P0 ta G M (.va (.bool b))) : EP1 K P0 (tNotV ta) G M (.va (.bool (!b))) := we_notV (we_mono h fun s M' ⟨e, eM⟩ => ⟨b, e, rfl, eM⟩)
theorem ws_ifP (hp : TP K P0 t G M b) (h1 : b = true → WS K P0 ts G M nx rt bk ct) (h2 : b = false → WS K P0 us G M nx rt bk ct) : WS K P0 (tIfS t ts us) G M nx rt bk ct := ws_if (wt_mono hp fun b' M' ⟨e, eM⟩ => by
  subst e eM
  exact ⟨h1, h2⟩)
theorem we_P {s : Sv} {k : Sv → Mm → Prop} (hp : EP1 K P0 te G M s) (q : k s M) : WE K P0 te G M k := we_mono hp fun s' M' ⟨e, eM⟩ => by
  subst e eM
  exact q
/-- a word between two statements -/
theorem ws_cut (J : Gm → Mm → Prop) (h : WS K P0 ts G M J rt bk ct) (q : ∀ G' M', J G' M' → WS K P0 us G' M' nx rt bk ct) : WS K P0 (tSeq ts us) G M nx rt bk ct := ws_seq (ws_mono h q (fun _ _ z => z) (fun _ _ z => z) (fun _ _ z => z))
end
end G91
namespace G91
open PySem PySem.Spec PyProof.Rows L2
theorem wt_P {K : PySem.W.Frag} {P0 : Ent} {G : Gm} {M : Mm} {t : TT} {b : Bool} {k : Bool → Mm → Prop} (hp : TP K P0 t G M b) (q : k b M) : WT K P0 t G M k := wt_mono hp fun s' M' ⟨e, eM⟩ => by
  subst e eM
  exact q
end G91

/-! Ma1: shares as rational numbers. -/
namespace G91
open PySem PySem.Spec PyProof.Rows L2

/-- a share as data -/
abbrev shD (r : Rat) : PyData := .tuple [.int r.num, .int (r.den : Int)]
theorem fmod_nn {a b : Int} (hb : 0 ≤ b) : a.fmod b = a % b := Int.fmod_eq_emod_of_nonneg a hb
theorem fdiv_nn {a b : Int} (hb : 0 ≤ b) : a.fdiv b = a / b := Int.fdiv_eq_ediv_of_nonneg a hb
theorem gcd_step {a b : Int} (ha : 0 ≤ a) (hb : 0 < b) : Int.gcd b (a % b) = Int.gcd a b := by
  obtain ⟨m, rfl⟩ := Int.eq_ofNat_of_zero_le ha
  obtain ⟨n, rfl⟩ := Int.eq_ofNat_of_zero_le (Int.le_of_lt hb)
  rw [← Int.natCast_emod, Int.gcd_natCast_natCast, Int.gcd_natCast_natCast, Nat.gcd_comm m n, Nat.gcd_rec n m, Nat.gcd_comm]
theorem gcd_zero_r {a : Int} (ha : 0 ≤ a) : (Int.gcd a 0 : Int) = a := by
  rw [Int.gcd_zero_right]; omega
/-- top by bottom in lowest terms -/
def shr (t b : Int) : Rat := mkRat t b.toNat
theorem shr_eq (t b : Int) (hb : 0 < b) : shr t b = (t : Rat) / (b : Rat) := by
  unfold shr
  rw [Rat.mkRat_eq_div]
  have e : ((b.toNat : Nat) : Rat) = (b : Rat) := by
    have : ((b.toNat : Nat) : Int) = b := by omega
    rw [← Rat.intCast_natCast, this]
  rw [e]
theorem shr_num {t b : Int} (hb : 0 < b) : (shr t b).num = t / (Int.gcd t b : Int) := by
  unfold shr
  rw [Rat.num_mkRat, if_neg (by omega)]
  have e : b.toNat.gcd t.natAbs = Int.gcd t b := by
    show b.toNat.gcd t.natAbs = t.natAbs.gcd b.natAbs
    rw [Nat.gcd_comm]
    have : b.natAbs = b.toNat := by omega
    rw [this]
  rw [e]
theorem shr_den {t b : Int} (hb : 0 < b) : ((shr t b).den : Int) = b / (Int.gcd t b : Int) := by
  unfold shr
  rw [Rat.den_mkRat, if_neg (by omega)]
  have e : b.toNat.gcd t.natAbs = Int.gcd t b := by
    show b.toNat.gcd t.natAbs = t.natAbs.gcd b.natAbs
    rw [Nat.gcd_comm]
    have : b.natAbs = b.toNat := by omega
    rw [this]
  rw [e, Int.natCast_ediv]
  have : ((b.toNat : Nat) : Int) = b := by omega
  rw [this]
theorem shr_self (r : Rat) : shr r.num r.den = r := by
  unfold shr
  rw [Int.toNat_natCast]
  exact Rat.mkRat_self r
theorem shD_shr {t b : Int} (hb : 0 < b) : shD (shr t b) = .tuple [.int (t / (Int.gcd t b : Int)), .int (b / (Int.gcd t b : Int))] := by
  show PyData.tuple [.int _, .int _] = _
  rw [shr_num hb, shr_den hb]
theorem den_pos (r : Rat) : (0 : Int) < r.den := by have := r.den_pos; omega
theorem rat_eq (r : Rat) : r = (r.num : Rat) / (r.den : Rat) := by
  conv => lhs; rw [← Rat.mkRat_self r, Rat.mkRat_eq_div]
theorem den_ne (r : Rat) : (r.den : Rat) ≠ 0 := by
  have := r.den_nz
  intro h
  exact this (by exact_mod_cast h)
theorem shr_add (r s : Rat) : shr (r.num * s.den + s.num * r.den) (r.den * s.den) = r + s := by
  have h1 := den_pos r
  have h2 := den_pos s
  rw [shr_eq _ _ (Int.mul_pos h1 h2)]
  have e1 := den_ne r
  have e2 := den_ne s
  conv => rhs; rw [rat_eq r, rat_eq s]
  push_cast
  grind
theorem shr_sub (r s : Rat) : shr (r.num * s.den - s.num * r.den) (r.den * s.den) = r - s := by
  have h1 := den_pos r
  have h2 := den_pos s
  rw [shr_eq _ _ (Int.mul_pos h1 h2)]
  have e1 := den_ne r
  have e2 := den_ne s
  conv => rhs; rw [rat_eq r, rat_eq s]
  push_cast
  grind
theorem shr_mul (r s : Rat) : shr (r.num * s.num) (r.den * s.den) = r * s := by
  have h1 := den_pos r
  have h2 := den_pos s
  rw [shr_eq _ _ (Int.mul_pos h1 h2)]
  have e1 := den_ne r
  have e2 := den_ne s
  conv => rhs; rw [rat_eq r, rat_eq s]
  push_cast
  grind
theorem num_pos_of {s : Rat} (h : 0 < s) : 0 < s.num := by
  have := (Rat.lt_iff 0 s).mp h
  simpa using this
theorem shr_div (r s : Rat) (hs : 0 < s) : shr (r.num * s.den) (r.den * s.num) = r / s := by
  have h1 := den_pos r
  have h2 := num_pos_of hs
  rw [shr_eq _ _ (Int.mul_pos h1 h2)]
  have e1 := den_ne r
  have e2 := den_ne s
  have e3 : (s.num : Rat) ≠ 0 := by
    intro h
    have : s.num = 0 := by exact_mod_cast h
    omega
  conv => rhs; rw [rat_eq r, rat_eq s]
  push_cast
  grind
theorem num_nn {r : Rat} (h : 0 ≤ r) : 0 ≤ r.num := Rat.num_nonneg.mpr h
theorem shD_inj {r s : Rat} (h : shD r = shD s) : r = s := by
  have h : PyData.tuple [.int r.num, .int (r.den : Int)] = .tuple [.int s.num, .int (s.den : Int)] := h
  injection h with h
  injection h with h1 h
  injection h with h2 _
  injection h1 with h1
  injection h2 with h2
  exact Rat.ext h1 (by omega)
theorem lt_cross (r s : Rat) : r.num * s.den < s.num * r.den ↔ r < s := (Rat.lt_iff r s).symm
/-- not too great: numbers whose products the interpreter makes -/
def Fit (r : Rat) : Prop := Builtin.Int.intBits r.num ≤ 60000000 ∧ Builtin.Int.intBits (r.den : Int) ≤ 60000000
theorem mul_ok {a b : Int} (ha : Builtin.Int.intBits a ≤ 60000000) (hb : Builtin.Int.intBits b ≤ 60000000) : IntMulOk a b := IntMulOk.of_le ha hb (by decide)
end G91

/-! Fw6: the head's Hook with one more Bool, the interpreter's own tables in it. -/
namespace G91
open PySem PySem.Spec PyProof.Rows L2
open Evl (Ex)
open He (ga ma fAd ba frG frG_in asD Fa DefD obsD valD SaysD AlD eqO eqO_ok)

def frY (g : Addr → Option Obj) (n : Nat) : PySem.W.Frag := frG g (cStatics :: sysModules :: asD g n)
theorem frY_in {h : Heap} {n : Nat} : (frY h.get? n).In h := frG_in
abbrev AlY : Type := AlD × Bool
def obsY (n : Nat) (fa : List Fa) (fn : List DefD) (ex : PySem.W.Frag → Bool) (g : Addr → Option Obj) : AlY := (obsD fa fn (frY g n), ex (frY g n))
def valY (fn : List DefD) : AlY := (valD fn, true)
structure SaysY (fa : List Fa) (fn : List DefD) (ex : PySem.W.Frag → Bool) (K : PySem.W.Frag) : Prop where
  d : SaysD fa fn K
  more : ex K = true
def hookY (n : Nat) (fa : List Fa) (fn : List DefD) (ex : PySem.W.Frag → Bool) : PySem.W.Hook where
  α := AlY
  obs := fun s => obsY n fa fn ex s.heap.get?
  val := fun _ => valY fn
  says := fun _ h => ∃ K : PySem.W.Frag, K.In h ∧ SaysY fa fn ex K
  of := fun _ _ e => ⟨_, frY_in, congrArg (fun z : AlY => z.1) e, congrArg (fun z : AlY => z.2) e⟩
  keeps := fun _ _ _ ⟨K, hK, c⟩ k => ⟨K, PySem.W.Frag.In.keeps hK k, c⟩
theorem obsY_eq {n : Nat} {fa : List Fa} {fn : List DefD} {ex : PySem.W.Frag → Bool} {g : Addr → Option Obj} {s : Shared} (h : ∀ a, g a = s.heap.get? a) : obsY n fa fn ex g = (hookY n fa fn ex).obs s := by
  have e : g = s.heap.get? := funext h
  rw [e] <;> rfl
/-! the interpreter's tables -/
def sysB (K : PySem.W.Frag) : Bool :=
  (PySem.W.nsOkIn K cStatics && (eqO (PySem.W.nsIn K cStatics "sys.audit-hooks") (some none) && eqO (PySem.W.nsIn K cStatics "sys.dict") (some none))) &&
  ((PySem.W.nsOkIn K sysModules && eqO (PySem.W.nsIn K sysModules "_pylong") (some none)) &&
  (PySem.W.nsOkIn K mainGlobals && (match PySem.W.nsIn K mainGlobals "__builtins__" with
    | some (some (.ref bm)) => (match K.lookup bm with
      | some o => decide (o.cls = .type "module") && decide (o.dict = some builtinsNs)
      | none => false)
    | _ => false)))
theorem ns_some_of {K : PySem.W.Frag} {h : Heap} {N : Addr} {mg : Str → Option Value} {n : Str} {v : Value} (X : K.In h) (G : h.Ns N mg) (e : PySem.W.nsIn K N n = some (some v)) : mg n = some v := by
  obtain ⟨o, es, ep, ho, hd, _, hf⟩ := G
  unfold PySem.W.nsIn at e
  split at e
  · rename_i c d es' n' sl q
    have := X _ _ q
    rw [ho] at this
    cases this
    cases hd
    split at e
    · rename_i e0 he
      rw [← hf]
      unfold nsFind findBy
      rw [← Array.find?_toList, he]
      exact Option.some.inj e
    · split at e <;> cases e
  · cases e
theorem sysB_ok {P : Program} {K : PySem.W.Frag} (ht : P.given.tree = none) (h : sysB K = true) : SysOk P K := by
  obtain ⟨h1, h2⟩ := ba h
  obtain ⟨a1, a2⟩ := ba h1
  obtain ⟨a3, a4⟩ := ba a2
  obtain ⟨b1, b2⟩ := ba h2
  obtain ⟨b3, b4⟩ := ba b1
  obtain ⟨c1, c2⟩ := ba b2
  refine ⟨ht, fun hp X => ⟨_, .of_isNs (PySem.W.isNs_of_in X a1), PySem.W.nsMap_none_of_in X a1 (eqO_ok a3), PySem.W.nsMap_none_of_in X a1 (eqO_ok a4)⟩, fun hp X => ⟨_, .of_isNs (PySem.W.isNs_of_in X b3), PySem.W.nsMap_none_of_in X b3 (eqO_ok b4)⟩, fun hp X => ?_⟩
  cases q : PySem.W.nsIn K mainGlobals "__builtins__" with
  | none => rw [q] at c2; cases c2
  | some r =>
    cases r with
    | none => rw [q] at c2; cases c2
    | some v =>
      cases v with
      | ref bm =>
        rw [q] at c2
        have c3 : (match K.lookup bm with
          | some o => decide (o.cls = .type "module") && decide (o.dict = some builtinsNs)
          | none => false) = true := c2
        cases z : K.lookup bm with
        | none => rw [z] at c3; cases c3
        | some o =>
          rw [z] at c3
          obtain ⟨d1, d2⟩ := ba c3
          have G := Heap.Ns.of_isNs (PySem.W.isNs_of_in X c1)
          exact ⟨_, bm, o, G, ns_some_of X G q, X _ _ z, of_decide_eq_true d1, of_decide_eq_true d2⟩
      | _ => rw [q] at c2; cases c2
/-! own errors -/
def excCB (K : PySem.W.Frag) (x : Str) : Bool :=
  (eqO (PySem.W.findIn K (.ref (ga K x)) "__getattribute__") (some (some (.builtin "BaseException.__getattribute__"))) && (eqO (PySem.W.findIn K (.ref (ga K x)) "__getattr__") (some none) && decide (PySem.W.subIn K (.ref (ga K x)) (.type "BaseException") = some true))) &&
  ((PySem.W.hasDictIn K (ga K x) && eqO (PySem.W.findIn K (.ref (ga K x)) "__class__") (some (some (.builtin "object.__class__")))) &&
  (eqO (PySem.W.specialIn K (.builtin "object.__class__") "__get__") (some (some (.builtin "getset_descriptor.__get__"))) && (decide (PySem.W.takesIn K (.builtin "object.__class__") = some true) && decide (PySem.W.mroIn K (ga K x) (.type "object") = some true))))
theorem excCB_ok {K : PySem.W.Frag} {x : Str} (h : excCB K x = true) : ExcC K (ga K x) := by
  obtain ⟨h1, h2⟩ := ba h
  obtain ⟨a1, a2⟩ := ba h1
  obtain ⟨a3, a4⟩ := ba a2
  obtain ⟨b1, b2⟩ := ba h2
  obtain ⟨b3, b4⟩ := ba b1
  obtain ⟨c1, c2⟩ := ba b2
  obtain ⟨c3, c4⟩ := ba c2
  exact ⟨eqO_ok a1, eqO_ok a3, of_decide_eq_true a4, b3, eqO_ok b4, eqO_ok c1, of_decide_eq_true c3, of_decide_eq_true c4⟩
def kitXB (K : PySem.W.Frag) (x y : Str) (b : Bool) : Bool := decide (PySem.W.kitOne K (.ref (ga K x)) (.ref (ga K y)) = some b)
theorem kitXB_ok {K : PySem.W.Frag} {x y : Str} {b : Bool} (h : kitXB K x y b = true) : PySem.W.kitOne K (.ref (ga K x)) (.ref (ga K y)) = some b := of_decide_eq_true h
def kitXT (K : PySem.W.Frag) (x : Str) (y : String) (b : Bool) : Bool := decide (PySem.W.kitOne K (.ref (ga K x)) (.type y) = some b)
theorem kitXT_ok {K : PySem.W.Frag} {x : Str} {y : String} {b : Bool} (h : kitXT K x y b = true) : PySem.W.kitOne K (.ref (ga K x)) (.type y) = some b := of_decide_eq_true h
theorem excX_ok {K : PySem.W.Frag} {h : Heap} {mg : Str → Option Value} {x : Str} (X : K.In h) (G : h.Ns mainGlobals mg) (c : (Fa.exc x).ok K = true) (g : (Fa.glo x).ok K = true) : ExcX K mg x :=
  let ⟨a, b, d, e⟩ := He.exc_ok c; ⟨a, b, d, e, He.glo_ok X G g⟩
theorem df_ok {fa : List Fa} {fn : List DefD} {K : PySem.W.Frag} {x qual : Str} {st : Stmt} {at_ : Str × Option Str} (c : SaysD fa fn K) (i : Nat) (h : fn[i]? = some ⟨at_, x, qual, defArgs st, defBody st, defScope st, [], []⟩) : Df K x qual st (fAd K at_) :=
  ⟨c.def_ i (d := ⟨at_, x, qual, defArgs st, defBody st, defScope st, [], []⟩) h⟩
/-- the law's function, over every base -/
theorem fn_end {P : Program} {w : World} {K : PySem.W.Frag} {mg : Str → Option Value} {base : Heap} {x qual : Str} {st : Stmt} {f : Addr} {fd : FuncData} {N ps : List Str} {k : Nat} {spd : SpD} {t : XK → TS}
    (F : FunD K x qual (defArgs st) (defBody st) (defScope st) [] [] f fd) (S : FnScope N ps (defScope st)) (hN : ps.length ≤ N.length)
    (hps : ∀ (cdv : Value) (A : Around) (outer : List Env) (s : Shared) (H : Hp) (E : XK), Room k (A.deeper (envOfC qual (defScope st) s.heap.objs.size f cdv)) → PSs (cxOf (L2.CX P w) P w K mg base N qual (defScope st) f cdv A outer s H E) (defBody st) (t E))
    (hv : Keeps K N ps t spd) : FnOk P w K mg base (L2.CX P w) (k + 1) f fd ps (lift K spd) := by
  refine F.ok S (fun vs H Q E h => ?_) (fun cdv A outer s H vs Q E hr h => ?_)
  · obtain ⟨Hs, M, as, kk, e, _, rv, hs, _⟩ := h
    exact (reps_length rv).trans (hv as M kk e hs).1
  · obtain ⟨Hs, M, as, kk, e, ho, rv, hs, hk, he⟩ := h
    obtain ⟨hl, hw⟩ := hv as M kk e hs
    exact ⟨t E, hps cdv A outer s H E hr, run_abs ho rv hk he (by omega) fun P0 hE => hw P0 E hE⟩
/-- what a law promises: at each script the answer True -/
def spLaw (n : Nat) : SpD := fun as M k _ => ∃ ns : List Int, as = [.va (scD ns)] ∧ ns.length ≤ n ∧ (∀ a, M a = none) ∧ ∀ M', k (.va (.bool true)) M'
theorem lift_law {K : PySem.W.Frag} {n : Nat} {H : Hp} {a : Addr} {ns : List Int} (hl : ns.length ≤ n) (hS : SqL K H a (ns.map V.int)) : lift K (spLaw n) [.ref a] H (fun v _ => v = .bl true) fun _ _ _ => False := by
  refine ⟨H, fun _ => none, [.va (scD ns)], fun s _ => s = .va (.bool true), fun _ _ => False, ⟨Ex.refl _, fun a ob h => by (cases h), fun a o h => by (cases h)⟩, .cons (show Dq K H (.ref a) (scD ns) from Dq.scr hS) .nil, ⟨ns, rfl, hl, fun _ => rfl, fun _ => rfl⟩, ?_, ?_⟩
  · intro v Hs' H' s M' _ _ r z
    subst z
    cases r
    rfl
  · intro cls Hs' H' M' _ _ z
    exact z
theorem all_at {l : List Bool} (h : l.all id = true) (i : Nat) {b : Bool} (e : l[i]? = some b) : b = true := List.all_eq_true.mp h b (List.mem_of_getElem? e)
/-- the end of a law over a head by facts, errors let out by CX P w -/
theorem walkE2 {l : PySem.W.OpenLaw} {n k : Nat} {q : Program} {loose : List Str} {XP : (Str → Option Value) → Heap → Prop} {YP : World → Heap → Prop} {d : DefRec} {x : Str}
    (hn : l.most = some n) (hn2 : n ≤ sizeLine) (hdf : d.params.defaults = []) (hr : Room k callerA)
    (F : ∀ (w : World) (mg : Str → Option Value) (fa : Addr) (h : Heap), YP w h → h.Ns mainGlobals mg → mg d.name = some (.ref fa) →
      ∃ (K : PySem.W.Frag) (fd : FuncData) (sp : Sp), K.In h ∧ (∀ (s : Shared) (u : Value), BindsTo s fd ⟨[u], []⟩ [(x, u)]) ∧
        (∀ (H : Hp) (a : Addr) (ns : List Int), ns.length ≤ n → Only H → SqL K H a (ns.map V.int) → sp [.ref a] H (fun v _ => v = .bl true) fun _ _ _ => False) ∧
        ∀ base : Heap, K.In base → base.Ns mainGlobals mg → FnOk l.prog w K mg base (L2.CX l.prog w) k fa fd [x] sp) :
    PySem.W.WalkO q loose XP YP l.row.toRowW d [] (fun f vs => PySem.call f vs) := by
  refine Att.attach_call hn hdf fun w s₀ s₁ mg mb fa o pm cd doc a vs ns G Y ho hd hcd hmg hobj hints hlen hg => ?_
  obtain ⟨K, fd, sp, KX, hb, hsp, hF⟩ := F w mg fa _ Y G.T.g hmg
  exact law_call KX G.T.g G.T.b G.T.builtins G.T.nolimit hg hobj hints (Nat.le_trans hlen hn2) hr hF hb (fun H hO hS => hsp H a ns hlen hO hS) fun H e s' ⟨_, _, _, _, _, _, _, _, _, _, _, _, z⟩ => z
end G91

/-! Fw7: more rules; the script's cells. -/
namespace G91
open PySem PySem.Spec PyProof.Rows L2
open Evl (Ex)
open He (ga ma fAd)
/-- the script's cell -/
def cell (ns : List Int) (i : Int) : Int := ns.getD i.toNat 0
section
variable {K : PySem.W.Frag} {P0 : Ent} {G : Gm} {M : Mm} {k : Sv → Mm → Prop} {te ta tb : TE} {i : Nat} {s : Sv} {v : V} {nx : Gm → Mm → Prop} {rt : Sv → Mm → Prop} {bk ct : Gm → Mm → Prop}
theorem r2_ixCell {ns : List Int} {i : Int} (h0 : 0 ≤ i) (h1 : i < ns.length) (q : k (.va (.int (cell ns i))) M) : R2D K P0 (rIx K) (.va (scD ns)) (.va (.int i)) M k := by
  refine r2_ixScr (n := cell ns i) ?_ q
  obtain ⟨j, rfl⟩ := Int.eq_ofNat_of_zero_le h0
  unfold atI ixN
  have h2 : j < ns.length := by omega
  have h3 : cell ns (j : Int) = ns[j] := by
    unfold cell
    rw [Int.toNat_natCast, List.getD_eq_getElem?_getD, List.getElem?_eq_getElem h2] <;> rfl
  rw [h3]
  simp [h2]
end
end G91
namespace G91
open PySem PySem.Spec PyProof.Rows L2
theorem shaped_shD (r : Rat) : SeqAt.shaped (shD r) = true := rfl
theorem bits_sm {a : Int} (h : a.natAbs < 2 ^ 200) : Builtin.Int.intBits a ≤ 60000000 := Nat.le_trans (intBits_le_iff.mpr h) (by decide)
theorem mul_sm {a b : Int} (ha : a.natAbs < 2 ^ 200) (hb : b.natAbs < 2 ^ 200) : IntMulOk a b := mul_ok (bits_sm ha) (bits_sm hb)
theorem mul_l {a b : Int} (ha : a.natAbs < 2 ^ 64) : IntMulOk a b := IntMulOk.of_left (intBits_le_iff.mpr ha)
theorem mul_r {a b : Int} (hb : b.natAbs < 2 ^ 64) : IntMulOk a b := IntMulOk.of_right (intBits_le_iff.mpr hb)
end G91
namespace G91
open PySem PySem.Spec PyProof.Rows L2
mutual
def plD : PyData → Bool
  | .none => true
  | .int _ => true
  | .str _ => true
  | .list xs => plA xs
  | .tuple xs => plA xs
  | _ => false
def plA : List PyData → Bool
  | [] => true
  | x :: xs => plD x && plA xs
end
mutual
theorem eqv_pl : ∀ (d e : PyData), plD d = true → plD e = true → (PyData.eqv d e = true ↔ d = e)
  | .none, e, _, he => by cases e <;> simp_all [PyData.eqv, plD]
  | .int i, e, _, he => by cases e <;> simp_all [PyData.eqv, plD]
  | .str i, e, _, he => by cases e <;> simp_all [PyData.eqv, plD]
  | .bool _, _, h, _ => by cases h
  | .dict _, _, h, _ => by cases h
  | .list xs, e, h, he => by
    cases e with
    | list ys =>
      have := eqv_plA xs ys h he
      simp_all [PyData.eqv]
    | _ => simp_all [PyData.eqv, plD]
  | .tuple xs, e, h, he => by
    cases e with
    | tuple ys =>
      have := eqv_plA xs ys h he
      simp_all [PyData.eqv]
    | _ => simp_all [PyData.eqv, plD]
theorem eqv_plA : ∀ (ds es : List PyData), plA ds = true → plA es = true → (PyData.eqvAll ds es = true ↔ ds = es)
  | [], [], _, _ => by simp [PyData.eqvAll]
  | [], _ :: _, _, _ => by simp [PyData.eqvAll]
  | _ :: _, [], _, _ => by simp [PyData.eqvAll]
  | d :: ds, e :: es, h, he => by
    obtain ⟨h1, h2⟩ := Bool.and_eq_true_iff.mp (show (plD d && plA ds) = true from h)
    obtain ⟨h3, h4⟩ := Bool.and_eq_true_iff.mp (show (plD e && plA es) = true from he)
    have a := eqv_pl d e h1 h3
    have b := eqv_plA ds es h2 h4
    simp only [PyData.eqvAll, Bool.and_eq_true, a, b, List.cons.injEq]
end
theorem eqv_int2 (a b : Int) : PyData.eqv (.int a) (.int b) = decide (a = b) := by
  unfold PyData.eqv
  rw [Bool.eq_iff_iff, decide_eq_true_iff, beq_iff_eq]
theorem eqv_self {d : PyData} (h : plD d = true) : PyData.eqv d d = true := (eqv_pl d d h h).mpr rfl
theorem eqv_t {d e : PyData} (h : d = e) (hp : plD e = true) : PyData.eqv d e = true := by subst h; exact eqv_self hp
theorem eqv_f {d e : PyData} (hd : plD d = true) (he : plD e = true) (h : d ≠ e) : PyData.eqv d e = false := by
  cases q : PyData.eqv d e with
  | false => rfl
  | true => exact absurd ((eqv_pl d e hd he).mp q) h
theorem eqv_bb (a b : Bool) : PyData.eqv (.bool a) (.bool b) = (a == b) := by unfold PyData.eqv; rfl
theorem plD_shD (r : Rat) : plD (shD r) = true := rfl
theorem eqv_shD (r s : Rat) : PyData.eqv (shD r) (shD s) = decide (r = s) := by
  rw [Bool.eq_iff_iff, decide_eq_true_iff, eqv_pl _ _ (plD_shD r) (plD_shD s)]
  exact ⟨shD_inj, fun h => by rw [h]⟩
end G91
namespace G91
open PySem PySem.Spec PyProof.Rows L2
def isTy (d : PyData) (n : String) : Bool := (kitB (tyD d) n).getD false
theorem rc_isiF {K : PySem.W.Frag} {P0 : Ent} {M : Mm} {k : Sv → Mm → Prop} {d : PyData} {n : String} (e : (kitB (tyD d) n).isSome = true) (q : k (.va (.bool (isTy d n))) M) : RCD K P0 (rIsi K) [.va d, .rf (.ty n)] M k := by
  obtain ⟨b, hb⟩ := Option.isSome_iff_exists.mp e
  refine rc_isi hb ?_
  unfold isTy at q
  rw [hb] at q
  exact q
end G91
namespace G91
open PySem PySem.Spec PyProof.Rows L2
/-- a word behind one statement -/
theorem ws_mid {K : PySem.W.Frag} {P0 : Ent} {G : Gm} {M : Mm} {t : TS} {nx : Gm → Mm → Prop} {rt : Sv → Mm → Prop} {bk ct : Gm → Mm → Prop} (J : Gm → Mm → Prop) (h : WS K P0 t G M J rt bk ct) (q : ∀ G' M', J G' M' → nx G' M') : WS K P0 t G M nx rt bk ct := ws_mono h q (fun _ _ z => z) (fun _ _ z => z) (fun _ _ z => z)
end G91

/-! Fw8: freezing of nested things; lists changed; built-ins of lists. -/
namespace G91
open PySem PySem.Spec PyProof.Rows L2
open Evl (Ex)
open He (ga ma fAd)
mutual
/-- s, read through M, is the data d; what it passes does not stand in M0 -/
inductive DeepF (M M0 : Mm) : Sv → PyData → Prop
  | va (d : PyData) : DeepF M M0 (.va d) d
  | lst {a : Addr} {ss : List Sv} {ds : List PyData} : M a = some (.lst ss) → M0 a = none → DeepFs M M0 ss ds → DeepF M M0 (.rf (.ref a)) (.list ds)
  | tup {a : Addr} {ss : List Sv} {ds : List PyData} : M a = some (.tup ss) → M0 a = none → DeepFs M M0 ss ds → DeepF M M0 (.rf (.ref a)) (.tuple ds)
inductive DeepFs (M M0 : Mm) : List Sv → List PyData → Prop
  | nil : DeepFs M M0 [] []
  | cons {s : Sv} {d : PyData} {ss : List Sv} {ds : List PyData} : DeepF M M0 s d → DeepFs M M0 ss ds → DeepFs M M0 (s :: ss) (d :: ds)
end
theorem deepFs_va {M M0 : Mm} : ∀ ds : List PyData, DeepFs M M0 (ds.map Sv.va) ds
  | [] => .nil
  | d :: ds => .cons (.va d) (deepFs_va ds)
theorem deepFs_of {M M0 : Mm} {α : Type} {f : α → Sv} {g : α → PyData} : ∀ l : List α, (∀ x ∈ l, DeepF M M0 (f x) (g x)) → DeepFs M M0 (l.map f) (l.map g)
  | [], _ => .nil
  | x :: l, h => .cons (h x List.mem_cons_self) (deepFs_of l fun y hy => h y (List.mem_cons_of_mem _ hy))
/-- the heap's part that is shared from now on -/
def frz (Hs H : Hp) (M M0 : Mm) : Hp := fun a => match Hs a with
  | some o => some o
  | none => match M a, M0 a with
    | some _, none => H a
    | _, _ => none
section
variable {K : PySem.W.Frag} {P0 : Ent} {M M0 : Mm} {Hs H : Hp}
theorem frz_at {a : Addr} {o : Ob} (S : Own K Hs M H) (h : M a = some o) (h0 : M0 a = none) : frz Hs H M M0 a = H a := by
  unfold frz
  rw [S.sep a o h, h, h0]
theorem St0.frz (S : St0 K P0 M Hs H) (hm : ∀ a o, M0 a = some o → M a = some o) : St0 K P0 M0 (frz Hs H M M0) H ∧ Ex Hs (frz Hs H M M0) := by
  have e1 : Ex Hs (G91.frz Hs H M M0) := fun a o h => by unfold G91.frz; rw [h]
  have kn : ∀ a, Hs a = none → G91.frz Hs H M M0 a ≠ none → M a ≠ none ∧ M0 a = none ∧ G91.frz Hs H M M0 a = H a := fun a h n => by
    unfold G91.frz at n ⊢
    rw [h] at n ⊢
    cases e : M a with
    | none => rw [e] at n; exact absurd rfl n
    | some o =>
      cases e0 : M0 a with
      | none => exact ⟨(fun z => by cases z), rfl, rfl⟩
      | some o0 => rw [e, e0] at n; exact absurd rfl n
  refine ⟨⟨S.gr.trans ⟨e1, fun a h n => .inr (kn a h n).1, fun _ _ h _ => h, fun b n => ?_⟩, ⟨fun a o h => ?_, fun a o h => ?_, fun a o h => obIs_mono e1 (fun _ z => z) (S.own.ob a o (hm a o h))⟩⟩, e1⟩
  · cases e : M0 b with
    | none => exact absurd e n
    | some o => exact .inl (by rw [hm b o e]; intro z; cases z)
  · cases e : Hs a with
    | some u =>
      have := e1 a u e
      rw [h] at this
      cases this
      exact S.own.ex a _ e
    | none =>
      obtain ⟨_, _, z⟩ := kn a e (by rw [h]; intro z; cases z)
      rw [← z]; exact h
  · cases e : G91.frz Hs H M M0 a with
    | none => rfl
    | some u =>
      have hs := S.own.sep a o (hm a o h)
      obtain ⟨_, z, _⟩ := kn a hs (by rw [e]; intro z; cases z)
      rw [h] at z; cases z
mutual
theorem deep_dq (S : Own K Hs M H) (e1 : Ex Hs (frz Hs H M M0)) : ∀ {s : Sv} {d : PyData} {v : V}, DeepF M M0 s d → Rep K Hs v s → Dq K (frz Hs H M M0) v d
  | _, _, _, .va d, r => dp_mono e1 r
  | _, _, _, .lst h h0 hs, r => by
    obtain ⟨xs, h1, h2⟩ := S.ob _ _ h
    have r : _ = V.ref _ := r
    subst r
    exact .lst (by rw [frz_at S h h0]; exact h1) (deep_dqs S e1 hs h2)
  | _, _, _, .tup h h0 hs, r => by
    obtain ⟨xs, h1, h2⟩ := S.ob _ _ h
    have r : _ = V.ref _ := r
    subst r
    exact .tup (Evl.st_of (by rw [frz_at S h h0]; exact h1)) (deep_dqs S e1 hs h2)
theorem deep_dqs (S : Own K Hs M H) (e1 : Ex Hs (frz Hs H M M0)) : ∀ {ss : List Sv} {ds : List PyData} {vs : List V}, DeepFs M M0 ss ds → Reps K Hs vs ss → DqAll K (frz Hs H M M0) vs ds
  | _, _, _, .nil, .nil => .nil
  | _, _, _, .cons a b, .cons r t => .cons (deep_dq S e1 a r) (deep_dqs S e1 b t)
end
variable {G : Gm} {k : Sv → Mm → Prop} {te ta tb : TE} {i : Nat} {s : Sv} {v : V} {nx : Gm → Mm → Prop} {rt : Sv → Mm → Prop} {bk ct : Gm → Mm → Prop} {t u : TS}
/-- a value that nobody changes from then on, whatever it holds; what M0 does not have is dropped -/
theorem we_frz (h : WE K P0 te G M fun s M1 => ∃ (M0 : Mm) (d : PyData), (∀ a o, M0 a = some o → M1 a = some o) ∧ DeepF M1 M0 s d ∧ k (.va d) M0) : WE K P0 te G M k := fun σ Hs H S L Q c =>
  h σ Hs H S L _ fun x Hs1 H1 s M1 S1 e1 r1 ⟨M0, d, hm, hd, q⟩ => by
    obtain ⟨S2, e2⟩ := S1.frz hm
    exact c x _ H1 (.va d) M0 S2 (e1.trans e2) (deep_dq S1.own e2 hd r1) q
theorem ws_frz (M0 : Mm) {d : PyData} (hm : ∀ a o, M0 a = some o → M a = some o) (hi : G[i]? = some (some s)) (hd : DeepF M M0 s d) (h : WS K P0 t (G.set i (some (.va d))) M0 nx rt bk ct) : WS K P0 t G M nx rt bk ct :=
  fun σ Hs H S L D dn dr db dc => by
    obtain ⟨S1, e1⟩ := S.frz hm
    obtain ⟨v, hv, rv⟩ := L.2 i _ hi
    have d1 := deep_dq S.own e1 hd rv
    have hl : σ.set i (some v) = σ := by
      apply List.ext_getElem?
      intro j
      by_cases e : i = j
      · subst e
        rw [List.getElem?_set_self (List.getElem?_eq_some_iff.mp hv).1, hv]
      · rw [List.getElem?_set_ne e]
    have L2 : Slots K (frz Hs H M M0) σ (G.set i (some (.va d))) := by
      have z := slots_set (v := v) (s := .va d) (slots_mono e1 L) d1 i
      rw [hl] at z
      exact z
    exact h σ _ H S1 L2 D (fun σ2 Hs2 H2 G2 M2 S2 e2 => dn σ2 Hs2 H2 G2 M2 S2 (e1.trans e2)) (fun v Hs2 H2 s M2 S2 e2 => dr v Hs2 H2 s M2 S2 (e1.trans e2))
      (fun σ2 Hs2 H2 G2 M2 S2 e2 => db σ2 Hs2 H2 G2 M2 S2 (e1.trans e2)) (fun σ2 Hs2 H2 G2 M2 S2 e2 => dc σ2 Hs2 H2 G2 M2 S2 (e1.trans e2))
/-! lists that are changed -/
theorem wg_subL {to ti : TE} (h : WE K P0 to G M fun so M1 => WE K P0 ti G M1 fun si M2 => ∃ (a : Addr) (ss : List Sv) (z : Int) (j : Nat), so = .rf (.ref a) ∧ si = .va (.int z) ∧ M2 a = some (.lst ss) ∧ ixN ss.length z = some j ∧ nx G (mup M2 a (.lst (ss.set j s)))) :
    WG K P0 (gSub to ti rSetL) s G M nx := fun v σ Hs H S L r Q c =>
  h σ Hs H S L _ fun x Hs1 H1 so M1 S1 e1 r1 h1 => h1 σ Hs1 H1 S1 (slots_mono e1 L) _ fun y Hs2 H2 si M2 S2 e2 r2 ⟨a, ss, z, j, eo, ei, hm, hj, q⟩ => by
    subst eo ei
    have ex : x = .ref a := r1
    subst ex
    cases (show Dq K Hs2 y (.int z) from r2)
    obtain ⟨xs, g1, g2⟩ := S2.own.ob a _ hm
    have hl := reps_length g2
    refine ⟨a, xs, z, j, rfl, rfl, g1, by rw [hl]; exact hj, ?_⟩
    have S3 := S2.write hm (o := .lst (xs.set j v)) (ob := .lst (ss.set j s)) ⟨_, upd_same, reps_set (rep_mono (e1.trans e2) r) j g2⟩
    exact c σ Hs2 _ G _ S3 (e1.trans e2) (slots_mono (e1.trans e2) L) q
theorem ixN_nat {n : Nat} {z : Int} (h0 : 0 ≤ z) (h1 : z < n) : ixN n z = some z.toNat := by
  unfold ixN
  rw [if_pos h0, if_pos h1]
theorem we_append {tr : TA} (h : WE K P0 te G M fun so M1 => ∃ a, so = .rf (.ref a) ∧ (∃ ss, M1 a = some (.lst ss)) ∧ WA K P0 tr G M1 fun as M2 => ∃ (ss : List Sv) (x : Sv), as = [x] ∧ M2 a = some (.lst ss) ∧ ss.length < 100000 ∧ k (.va .none) (mup M2 a (.lst (ss ++ [x])))) :
    WE K P0 (tBM K "list" rAppend te tr) G M k := fun σ Hs H S L Q c =>
  h σ Hs H S L _ fun x Hs1 H1 so M1 S1 e1 r1 ⟨a, es, ⟨ss0, hm0⟩, h1⟩ => by
    subst es
    have ex : x = .ref a := r1
    subst ex
    obtain ⟨xs0, g0, _⟩ := S1.own.ob a _ hm0
    refine ⟨.inl ⟨rfl, xs0, .inl (.inl g0)⟩, ?_⟩
    refine h1 σ Hs1 H1 S1 (slots_mono e1 L) _ fun ys Hs2 H2 as M2 S2 e2 r2 ⟨ss, y, ea, hm, hl, q⟩ => ?_
    subst ea
    obtain ⟨z, rfl, rz⟩ := reps1 r2
    obtain ⟨xs, g1, g2⟩ := S2.own.ob a _ hm
    have hxl := reps_length g2
    refine ⟨a, xs, z, rfl, rfl, g1, Evl.sz_lt (by omega), ?_⟩
    have S3 := S2.write hm (o := .lst (xs ++ [z])) (ob := .lst (ss ++ [y])) ⟨_, upd_same, reps_append g2 (.cons rz .nil)⟩
    exact c .non Hs2 _ (.va .none) _ S3 (e1.trans e2) Dq.non q
/-- list(x) of a list, of a tuple -/
def rListC (K : PySem.W.Frag) : List V → Hp → VK → Prop := fun xs H Q => ∃ p ys, xs = [.ref p] ∧ (SqL K H p ys ∨ SqT K H p ys) ∧ ∀ l, H l = none → Q (.ref l) (upd H l (.lst ys))
theorem call_listA {X : Cx} : CallR X (.type "list") (rListC X.K) := call_list_of
theorem rc_listL {ss : List Sv} (l : RL M s ss) (q : ∀ p, M p = none → k (.rf (.ref p)) (mup M p (.lst ss))) : RCD K P0 (rListC K) [s] M k := fun Hs H xs S r Q c => by
  obtain ⟨x, rfl, r1⟩ := reps1 r
  obtain ⟨a, ys, rfl, h1, h2⟩ := l.at S r1
  refine ⟨a, ys, rfl, .inl (.inl (.inl h1)), fun p hp => ?_⟩
  exact c (.ref p) Hs _ (.rf (.ref p)) _ (S.make hp (ob := .lst ss) ⟨ys, upd_same, h2⟩) (Ex.refl _) rfl (q p (S.own.free hp).1)
theorem rc_listLv {ds : List PyData} (l : RL M s (ds.map Sv.va)) (q : k (.va (.list ds)) M) : RCD K P0 (rListC K) [s] M k := fun Hs H xs S r Q c => by
  obtain ⟨x, rfl, r1⟩ := reps1 r
  obtain ⟨a, ys, rfl, h1, h2⟩ := l.at S r1
  refine ⟨a, ys, rfl, .inl (.inl (.inl h1)), fun p hp => ?_⟩
  obtain ⟨S2, e2⟩ := S.share hp (.lst ys)
  exact c (.ref p) _ _ (.va (.list ds)) M S2 e2 (Dq.lst upd_same (dpAll_mono e2 (dpAll_of_reps h2))) q
theorem dq_ints {ns : List Int} : ∀ {vs : List V}, DqAll K Hs vs (ns.map PyData.int) → vs = ns.map V.int := by
  induction ns with
  | nil => intro vs h; cases h; rfl
  | cons n ns ih =>
    intro vs h
    cases h with
    | cons a b =>
      cases a
      rw [ih b] <;> rfl
/-- sum(xs) of whole numbers -/
theorem rc_sum {ns : List Int} (l : RL M s ((ns.map PyData.int).map Sv.va)) (q : k (.va (.int ns.sum)) M) : RCD K P0 (rSum K) [s] M k := fun Hs H xs S r Q c => by
  obtain ⟨x, rfl, r1⟩ := reps1 r
  obtain ⟨a, ys, rfl, h1, h2⟩ := l.at S r1
  have e := dq_ints (dpAll_of_reps h2)
  subst e
  exact ⟨a, ns, rfl, .inl (.inl h1), c _ Hs H (.va (.int ns.sum)) M S (Ex.refl _) (Dq.int _) q⟩
end
end G91
namespace G91
open PySem PySem.Spec PyProof.Rows L2
open Evl (Ex)
section
variable {K : PySem.W.Frag} {P0 : Ent} {M M0 : Mm} {Hs H : Hp} {G : Gm} {k : Sv → Mm → Prop}
/-- a comprehension that changes no object, its list one's own -/
theorem we_lcPO {wi : TI} {g : TG} {tt : TT} {te : TE} {vs : List Nat} (hg : GOn g vs) (h : WI K P0 wi G M fun n item stay M1 => ∃ f : Nat → Option PyData, n ≤ 99999 ∧ (∀ M', Mext M1 M' → stay M') ∧
    (∀ i M', i < n → Mext M1 M' → WG K P0 g (item i) (wipeG G vs) M' fun G2 M2 => M2 = M' ∧ WT K P0 tt G2 M2 fun b M3 => M3 = M' ∧ (b = true → WE K P0 te G2 M3 fun s M4 => M4 = M' ∧ ∃ d, s = .va d ∧ f i = some d) ∧ (b = false → f i = none)) ∧
    ∀ p, M1 p = none → k (.rf (.ref p)) (mup M1 p (.lst (((List.range n).filterMap f).map Sv.va)))) : WE K P0 (tLc wi g tt te vs) G M k := by
  refine we_lc hg ?_
  intro σ1 Hs1 H1 S1 L1 R c1
  refine h σ1 Hs1 H1 S1 L1 R fun J Hs2 H2 n item stay M1 S2 e2 itd ⟨f, hn, hst, hstep, hk⟩ => ?_
  refine c1 J Hs2 H2 n item stay M1 S2 e2 itd fun p hp => ⟨fun i M' acc => M' = M1 ∧ acc = ((List.range i).filterMap f).map Sv.va, ⟨rfl, rfl⟩, ?_, ?_, ?_⟩
  · rintro i M' acc hi ⟨rfl, rfl⟩
    refine ⟨hst _ (Mext.new hp), hp, ?_⟩
    rw [List.length_map]
    have h1 := List.length_filterMap_le f (List.range i)
    rw [List.length_range] at h1
    omega
  · rintro i M' acc hi ⟨rfl, rfl⟩ v σ3 Hs3 H3 S3 L3 r3 Q3 c3
    refine hstep i _ hi (Mext.new hp) v σ3 Hs3 H3 S3 L3 r3 Q3 fun σ4 Hs4 H4 G4 M4 S4 e4 L4 ⟨em, q⟩ => ?_
    refine c3 σ4 Hs4 H4 G4 M4 S4 e4 L4 ?_
    refine wt_mono q fun b M5 ⟨em5, h1, h2⟩ => ⟨fun hb => we_mono (h1 hb) fun s M6 ⟨em6, d, es, ef⟩ => ⟨M', em6, rfl, ?_⟩, fun hb => ⟨M', em5, rfl, ?_⟩⟩
    · rw [es, List.range_succ, List.filterMap_append, List.map_append]
      simp [ef]
    · rw [List.range_succ, List.filterMap_append]
      simp [h2 hb]
  · rintro M' acc ⟨rfl, rfl⟩
    exact hk p hp
theorem wt_yes {G : Gm} {k : Bool → Mm → Prop} (q : k true M) : WT K P0 tYes G M k := fun σ Hs H S L Q c => c true Hs H M S (Ex.refl _) q
theorem filterMap_all {f : Nat → Option PyData} {g : Nat → PyData} : ∀ {n : Nat}, (∀ i, i < n → f i = some (g i)) → (List.range n).filterMap f = (List.range n).map g
  | 0, _ => rfl
  | n + 1, h => by
    rw [List.range_succ, List.filterMap_append, List.map_append, filterMap_all fun i hi => h i (by omega)]
    simp [h n (by omega)]
/-- all but some objects of M stand in M' -/
def Mex (S : Addr → Prop) (M M' : Mm) : Prop := ∀ a o, M a = some o → ¬ S a → M' a = some o
/-- a constant's tuple -/
theorem we_sh0 {a : Addr} (h : ∀ H : Hp, SqT K H a [.int 0, .int 1]) (q : k (.va (shD 0)) M) : WE K P0 (tC (.ref a)) G M k := we_cd (fun Hs => Dq.tup (h Hs) (.cons (.int 0) (.cons (.int 1) .nil))) q
theorem we_sh1 {a : Addr} (h : ∀ H : Hp, SqT K H a [.int 1, .int 1]) (q : k (.va (shD 1)) M) : WE K P0 (tC (.ref a)) G M k := we_cd (fun Hs => Dq.tup (h Hs) (.cons (.int 1) (.cons (.int 1) .nil))) q
end
end G91
namespace G91
open PySem PySem.Spec PyProof.Rows L2
open Evl (Ex)
section
variable {K : PySem.W.Frag} {P0 : Ent} {M M0 : Mm} {Hs H : Hp} {G : Gm} {k : Sv → Mm → Prop}
/-- a comprehension of data; J: what stands beside the new list at p -/
theorem we_lcF {wi : TI} {g : TG} {tt : TT} {te : TE} {vs : List Nat} (hg : GOn g vs) (h : WI K P0 wi G M fun n item stay M1 => ∀ p, M1 p = none → ∃ J : Nat → Mm → List PyData → Prop, J 0 M1 [] ∧
    (∀ i M' acc, i ≤ n → J i M' acc → stay (mup M' p (.lst (acc.map Sv.va))) ∧ M' p = none ∧ acc.length ≤ 99999) ∧
    (∀ i M' acc, i < n → J i M' acc → WG K P0 g (item i) (wipeG G vs) (mup M' p (.lst (acc.map Sv.va))) fun G2 M2 => WT K P0 tt G2 M2 fun b M3 => (b = true → WE K P0 te G2 M3 fun s M4 => ∃ d M5, s = .va d ∧ M4 = mup M5 p (.lst (acc.map Sv.va)) ∧ J (i + 1) M5 (acc ++ [d])) ∧
      (b = false → ∃ M5, M3 = mup M5 p (.lst (acc.map Sv.va)) ∧ J (i + 1) M5 acc)) ∧ ∀ M' acc, J n M' acc → k (.va (.list acc)) M') : WE K P0 (tLc wi g tt te vs) G M k := by
  refine we_frz (we_lc hg ?_)
  intro σ1 Hs1 H1 S1 L1 R c1
  refine h σ1 Hs1 H1 S1 L1 R fun Jt Hs2 H2 n item stay M1 S2 e2 itd hJ => c1 Jt Hs2 H2 n item stay M1 S2 e2 itd fun p hp => ?_
  obtain ⟨J, j0, jst, jstep, jend⟩ := hJ p hp
  refine ⟨fun i M' acc => ∃ ds : List PyData, acc = ds.map Sv.va ∧ J i M' ds, ⟨[], rfl, j0⟩, ?_, ?_, ?_⟩
  · rintro i M' acc hi ⟨ds, rfl, j⟩
    obtain ⟨a, b, c⟩ := jst i M' ds hi j
    exact ⟨a, b, by rw [List.length_map]; exact c⟩
  · rintro i M' acc hi ⟨ds, rfl, j⟩ v σ3 Hs3 H3 S3 L3 r3 Q3 c3
    refine jstep i M' ds hi j v σ3 Hs3 H3 S3 L3 r3 Q3 fun σ4 Hs4 H4 G4 M4 S4 e4 L4 q => ?_
    refine c3 σ4 Hs4 H4 G4 M4 S4 e4 L4 ?_
    refine wt_mono q fun b M5 ⟨h1, h2⟩ => ⟨fun hb => we_mono (h1 hb) fun s M6 ⟨d, M7, es, em, j7⟩ => ⟨M7, em, ds ++ [d], by rw [es, List.map_append]; rfl, j7⟩, fun hb => ?_⟩
    obtain ⟨M7, em, j7⟩ := h2 hb
    exact ⟨M7, em, ds, rfl, j7⟩
  · rintro M' acc ⟨ds, rfl, j⟩
    obtain ⟨_, b, _⟩ := jst n M' ds (Nat.le_refl n) j
    exact ⟨M', _, fun a o e => by rw [mup_ne (mne e b)]; exact e, .lst mup_same b (deepFs_va _), jend M' ds j⟩
end
end G91

/-! Ma2: how great shares are; elimination. -/
namespace G91
open PySem PySem.Spec PyProof.Rows L2
open Builtin.Int (intBits)

/-- a share of at most m bits, above and below -/
def Bt (m : Nat) (r : Rat) : Prop := intBits r.num ≤ m ∧ intBits (r.den : Int) ≤ m
theorem Bt.mono {m n : Nat} {r : Rat} (h : Bt m r) (e : m ≤ n) : Bt n r := ⟨Nat.le_trans h.1 e, Nat.le_trans h.2 e⟩
theorem Bt.fit {m : Nat} {r : Rat} (h : Bt m r) (e : m ≤ 60000000) : Fit r := h.mono e
theorem bt_shr {t b : Int} {m : Nat} (hb : 0 < b) (h1 : intBits t ≤ m) (h2 : intBits b ≤ m) : Bt m (shr t b) := by
  have hg : (0 : Int) < (Int.gcd t b : Int) := by
    have : Int.gcd t b ≠ 0 := fun z => by rw [Int.gcd_eq_zero_iff] at z; omega
    omega
  refine ⟨intBits_le_of_natAbs ?_ h1, intBits_le_of_natAbs ?_ h2⟩
  · rw [shr_num hb, Int.natAbs_ediv_of_dvd (Int.gcd_dvd_left ..)]
    exact Nat.div_le_self _ _
  · rw [shr_den hb, Int.natAbs_ediv_of_dvd (Int.gcd_dvd_right ..)]
    exact Nat.div_le_self _ _
theorem Bt.add {m n : Nat} {r s : Rat} (h : Bt m r) (g : Bt n s) : Bt (m + n + 1) (r + s) := by
  rw [← shr_add]
  refine bt_shr (Int.mul_pos (den_pos r) (den_pos s)) (Nat.le_trans (intBits_add_le (intBits_mul_le h.1 g.2) (intBits_mul_le g.1 h.2)) (by omega)) (Nat.le_trans (intBits_mul_le h.2 g.2) (by omega))
theorem Bt.sub {m n : Nat} {r s : Rat} (h : Bt m r) (g : Bt n s) : Bt (m + n + 1) (r - s) := by
  rw [← shr_sub]
  refine bt_shr (Int.mul_pos (den_pos r) (den_pos s)) (Nat.le_trans (intBits_sub_le (intBits_mul_le h.1 g.2) (intBits_mul_le g.1 h.2)) (by omega)) (Nat.le_trans (intBits_mul_le h.2 g.2) (by omega))
theorem Bt.mul {m n : Nat} {r s : Rat} (h : Bt m r) (g : Bt n s) : Bt (m + n) (r * s) := by
  rw [← shr_mul]
  exact bt_shr (Int.mul_pos (den_pos r) (den_pos s)) (intBits_mul_le h.1 g.1) (intBits_mul_le h.2 g.2)
theorem Bt.div {m n : Nat} {r s : Rat} (h : Bt m r) (g : Bt n s) (hs : 0 < s) : Bt (m + n) (r / s) := by
  rw [← shr_div r s hs]
  exact bt_shr (Int.mul_pos (den_pos r) (num_pos_of hs)) (intBits_mul_le h.1 g.2) (Nat.le_trans (intBits_mul_le h.2 g.1) (by omega))
theorem bt0 : Bt 1 0 := ⟨by decide, by decide⟩
theorem bt1 : Bt 1 1 := ⟨by decide, by decide⟩
theorem nn0 : (0 : Rat) ≤ 0 := Rat.le_refl
theorem nn1 : (0 : Rat) ≤ 1 := by decide
theorem fit0 : Fit 0 := bt0.fit (by decide)
theorem fit1 : Fit 1 := bt1.fit (by decide)
theorem nn_div {r s : Rat} (h : 0 ≤ r) (g : 0 < s) : 0 ≤ r / s := by
  rw [Rat.div_def]
  exact Rat.mul_nonneg h (Rat.le_of_lt (Rat.inv_pos.mpr g))
/-! elimination -/
structure Sy where
  R : Nat → Nat → Rat
  F : Nat → Rat
def gOwn (S : Sy) (at_ : Nat) (j : Nat) : Rat := if j = at_ then 0 else S.R at_ j / (1 - S.R at_ at_)
def gEnd (S : Sy) (at_ : Nat) : Rat := S.F at_ / (1 - S.R at_ at_)
def gStep (S : Sy) (at_ : Nat) : Sy :=
  ⟨fun i j => if i = at_ then gOwn S at_ j else (if j = at_ then 0 else S.R i j) + S.R i at_ * gOwn S at_ j, fun i => if i = at_ then gEnd S at_ else S.F i + S.R i at_ * gEnd S at_⟩
def gSt (S : Sy) : Nat → Sy
  | 0 => S
  | t + 1 => gStep (gSt S t) t
/-- from nought on, not too great -/
def Ok1 (r : Rat) : Prop := 0 ≤ r ∧ Bt 9000000 r
def SyOk (n : Nat) (S : Sy) : Prop := ∀ i, i < n → (∀ j, j < n → Ok1 (S.R i j)) ∧ Ok1 (S.F i)
def rowD (n : Nat) (w : Nat → Rat) : List PyData := (List.range n).map fun j => shD (w j)
theorem rowD_len {n : Nat} {w : Nat → Rat} : (rowD n w).length = n := by unfold rowD; simp
theorem rowD_at {n : Nat} {w : Nat → Rat} {j : Nat} (h : j < n) : (rowD n w)[j]? = some (shD (w j)) := by unfold rowD; simp [h]
theorem rowD_set {n : Nat} {w : Nat → Rat} {j : Nat} {r : Rat} : (rowD n w).set j (shD r) = rowD n fun i => if i = j then r else w i := by
  unfold rowD
  apply List.ext_getElem?
  intro i
  by_cases e : j = i
  · subst e
    by_cases h : j < n
    · rw [List.getElem?_set_self (by simpa using h)]
      simp [h]
    · rw [List.getElem?_eq_none (by simp; omega), List.getElem?_eq_none (by simp; omega)]
  · rw [List.getElem?_set_ne e]
    by_cases h : i < n
    · simp [h, Ne.symm e]
    · rw [List.getElem?_eq_none (by simp; omega), List.getElem?_eq_none (by simp; omega)]
theorem map_set_va {ds : List PyData} {j : Nat} {d : PyData} : (ds.map Sv.va).set j (.va d) = (ds.set j d).map Sv.va := by
  rw [List.map_set]
theorem rowD_congr {n : Nat} {w u : Nat → Rat} (h : ∀ j, j < n → w j = u j) : rowD n w = rowD n u := by
  unfold rowD
  apply List.map_congr_left
  intro j hj
  rw [h j (List.mem_range.mp hj)]
end G91
namespace G91
open PySem PySem.Spec PyProof.Rows L2
theorem atI_nat {α : Type} {xs : List α} {j : Nat} {x : α} (h : xs[j]? = some x) : atI xs (j : Int) = some x := by
  have h1 : j < xs.length := (List.getElem?_eq_some_iff.mp h).1
  unfold atI
  rw [ixN_nat (by omega) (by omega), Int.toNat_natCast]
  exact h
theorem rowS_at {n j : Nat} {w : Nat → Rat} (h : j < n) : ((rowD n w).map Sv.va)[j]? = some (.va (shD (w j))) := by
  rw [List.getElem?_map, rowD_at h]
  rfl
theorem rowS_getD {n j : Nat} {w : Nat → Rat} (h : j < n) : ((rowD n w).map Sv.va).getD j (.va .none) = .va (shD (w j)) := by
  rw [List.getD_eq_getElem?_getD, rowS_at h] <;> rfl
theorem rowS_len {n : Nat} {w : Nat → Rat} : ((rowD n w).map Sv.va).length = n := by rw [List.length_map, rowD_len]
section
variable {K : PySem.W.Frag} {P0 : Ent} {G : Gm} {M : Mm} {k : Sv → Mm → Prop} {s : Sv} {n j : Nat} {w : Nat → Rat} {i : Nat}
theorem r2_ixRow (l : RL M s ((rowD n w).map Sv.va)) (h : j < n) (q : k (.va (shD (w j))) M) : R2D K P0 (rIx K) s (.va (.int (j : Int))) M k := r2_ixL l (atI_nat (rowS_at h)) q
theorem rc_lenRow (l : RL M s ((rowD n w).map Sv.va)) (q : k (.va (.int (n : Int))) M) : RCD K P0 (rLenC K) [s] M k := rc_lenL l (by rw [rowS_len]; exact q)
theorem rowS_set {r : Rat} : ((rowD n w).map Sv.va).set j (.va (shD r)) = (rowD n fun i => if i = j then r else w i).map Sv.va := by rw [map_set_va, rowD_set]
theorem ixN_row (h : j < n) : ixN ((rowD n w).map Sv.va).length (j : Int) = some j := by
  rw [rowS_len, ixN_nat (by omega) (by omega), Int.toNat_natCast]
end
end G91
namespace G91
open PySem PySem.Spec PyProof.Rows L2
def ownW (w : Nat → Rat) (at_ j : Nat) : Rat := if j = at_ then 0 else w j / (1 - w at_)
theorem Ok1.rest {w : Rat} (h : Ok1 w) (l : w < 1) : 0 < 1 - w ∧ Bt 9000002 (1 - w) := ⟨by grind, (bt1.sub h.2).mono (by decide)⟩
theorem ownW_ok {w : Nat → Rat} {n at_ j : Nat} (hw : ∀ j, j < n → Ok1 (w j)) (hat : at_ < n) (l : w at_ < 1) (hj : j < n) : 0 ≤ ownW w at_ j ∧ Bt 20000000 (ownW w at_ j) := by
  unfold ownW
  obtain ⟨h1, h2⟩ := (hw at_ hat).rest l
  split
  · exact ⟨nn0, bt0.mono (by decide)⟩
  · exact ⟨nn_div (hw j hj).1 h1, ((hw j hj).2.div h2 h1).mono (by decide)⟩
theorem endW_ok {v w : Rat} (hv : Ok1 v) (hw : Ok1 w) (l : w < 1) : 0 ≤ v / (1 - w) ∧ Bt 20000000 (v / (1 - w)) := by
  obtain ⟨h1, h2⟩ := hw.rest l
  exact ⟨nn_div hv.1 h1, (hv.2.div h2 h1).mono (by decide)⟩
end G91
namespace G91
open PySem PySem.Spec PyProof.Rows L2
/-- the first i rows stand at ad, new since M0 -/
structure Rw (M0 M : Mm) (n : Nat) (R : Nat → Nat → Rat) (i : Nat) (ad : Nat → Addr) : Prop where
  nw : ∀ j, j < i → M0 (ad j) = none
  is_ : ∀ j, j < i → M (ad j) = some (.lst ((rowD n (R j)).map Sv.va))
  inj : ∀ j l, j < i → l < i → j ≠ l → ad j ≠ ad l
section
variable {M0 M M' : Mm} {n i : Nat} {R R' : Nat → Nat → Rat} {ad : Nat → Addr}
theorem Rw.mono (h : Rw M0 M n R i ad) (k : ∀ j, j < i → M' (ad j) = M (ad j)) : Rw M0 M' n R i ad := ⟨h.nw, fun j hj => by rw [k j hj]; exact h.is_ j hj, h.inj⟩
theorem Rw.congr (h : Rw M0 M n R i ad) (e : ∀ j l, j < i → l < n → R j l = R' j l) : Rw M0 M n R' i ad := ⟨h.nw, fun j hj => by rw [← rowD_congr (e j · hj)]; exact h.is_ j hj, h.inj⟩
theorem Rw.push (h : Rw M0 M n R i ad) {q : Addr} (hq : M0 q = none) (hi : M' q = some (.lst ((rowD n (R i)).map Sv.va))) (ne : ∀ j, j < i → ad j ≠ q) (k : ∀ j, j < i → M' (ad j) = M (ad j)) : Rw M0 M' n R (i + 1) (fun j => if j = i then q else ad j) where
  nw := fun j hj => by
    by_cases e : j = i
    · rw [if_pos e]; exact hq
    · rw [if_neg e]; exact h.nw j (by omega)
  is_ := fun j hj => by
    by_cases e : j = i
    · rw [if_pos e, e]; exact hi
    · rw [if_neg e, k j (by omega)]; exact h.is_ j (by omega)
  inj := fun j l hj hl hn => by
    by_cases e : j = i
    · rw [if_pos e, if_neg (by omega)]; exact Ne.symm (ne l (by omega))
    · rw [if_neg e]
      by_cases e2 : l = i
      · rw [if_pos e2]; exact ne j (by omega)
      · rw [if_neg e2]; exact h.inj j l (by omega) (by omega) hn
theorem Rw.put (h : Rw M0 M n R i ad) {q : Addr} {a : Nat} {w : Nat → Rat} (ha : a < i) (hq : M0 q = none) (hi : M' q = some (.lst ((rowD n w).map Sv.va))) (ne : ∀ j, j < i → j ≠ a → ad j ≠ q) (k : ∀ j, j < i → j ≠ a → M' (ad j) = M (ad j)) :
    Rw M0 M' n (fun j => if j = a then w else R j) i (fun j => if j = a then q else ad j) where
  nw := fun j hj => by
    by_cases e : j = a
    · rw [if_pos e]; exact hq
    · rw [if_neg e]; exact h.nw j hj
  is_ := fun j hj => by
    by_cases e : j = a
    · rw [if_pos e, if_pos e]; exact hi
    · rw [if_neg e, if_neg e, k j hj e]; exact h.is_ j hj
  inj := fun j l hj hl hn => by
    by_cases e : j = a
    · rw [if_pos e, if_neg (by omega)]; exact Ne.symm (ne l hl (by omega))
    · rw [if_neg e]
      by_cases e2 : l = a
      · rw [if_pos e2]; exact ne j hj e
      · rw [if_neg e2]; exact h.inj j l hj hl hn
theorem Rw.set (h : Rw M0 M n R i ad) {a : Nat} {w : Nat → Rat} (ha : a < i) (hi : M' (ad a) = some (.lst ((rowD n w).map Sv.va))) (k : ∀ j, j < i → j ≠ a → M' (ad j) = M (ad j)) : Rw M0 M' n (fun j => if j = a then w else R j) i ad where
  nw := h.nw
  is_ := fun j hj => by
    by_cases e : j = a
    · rw [if_pos e, e]; exact hi
    · rw [if_neg e, k j hj e]; exact h.is_ j hj
  inj := h.inj
end
/-- a list of things at addresses -/
def adL (n : Nat) (ad : Nat → Addr) : List Sv := (List.range n).map fun i => .rf (.ref (ad i))
theorem adL_len {n : Nat} {ad : Nat → Addr} : (adL n ad).length = n := by unfold adL; simp
theorem adL_at {n j : Nat} {ad : Nat → Addr} (h : j < n) : (adL n ad)[j]? = some (.rf (.ref (ad j))) := by unfold adL; simp [h]
theorem adL_set {n j : Nat} {ad : Nat → Addr} {q : Addr} : (adL n ad).set j (.rf (.ref q)) = adL n fun i => if i = j then q else ad i := by
  apply List.ext_getElem?
  intro i
  by_cases e : j = i
  · subst e
    by_cases h : j < n
    · rw [List.getElem?_set_self (by rw [adL_len]; exact h), adL_at h, if_pos rfl]
    · rw [List.getElem?_eq_none (by rw [List.length_set, adL_len]; omega), List.getElem?_eq_none (by rw [adL_len]; omega)]
  · rw [List.getElem?_set_ne e]
    by_cases h : i < n
    · rw [adL_at h, adL_at h, if_neg (Ne.symm e)]
    · rw [List.getElem?_eq_none (by rw [adL_len]; omega), List.getElem?_eq_none (by rw [adL_len]; omega)]
theorem adL_succ {n : Nat} {ad : Nat → Addr} {q : Addr} : adL n ad ++ [.rf (.ref q)] = adL (n + 1) fun i => if i = n then q else ad i := by
  unfold adL
  rw [List.range_succ, List.map_append]
  congr 1
  · apply List.map_congr_left
    intro j hj
    have := List.mem_range.mp hj
    show _ = Sv.rf (V.ref (if j = n then q else ad j))
    rw [if_neg (by omega)]
  · simp
/-- the state of an elimination -/
structure SyAt (M0 M : Mm) (n : Nat) (S : Sy) (R F : Addr) (ad : Nat → Addr) : Prop where
  rows : Rw M0 M n S.R n ad
  rl : M R = some (.lst (adL n ad))
  fl : M F = some (.lst ((rowD n S.F).map Sv.va))
  ext : Mext M0 M
  nR : M0 R = none
  nF : M0 F = none
  dR : ∀ i, i < n → ad i ≠ R
  dF : ∀ i, i < n → ad i ≠ F
  RF : R ≠ F
def sysD (n : Nat) (S : Sy) : PyData := .list ((List.range n).map fun i => .list (rowD n (S.R i)))
/-- amid step t: the rows before k are put in -/
def midSy (S : Sy) (t k : Nat) : Sy :=
  ⟨fun i j => if i < k then (gStep S t).R i j else if i = t then ownW (S.R t) t j else S.R i j, fun i => if i < k then (gStep S t).F i else if i = t then gEnd S t else S.F i⟩
end G91

/-! Ma3: sums; what elimination finds. -/
namespace G91
open PySem PySem.Spec PyProof.Rows L2
open Builtin.Int (intBits)
def sumN : Nat → (Nat → Rat) → Rat
  | 0, _ => 0
  | n + 1, f => sumN n f + f n
theorem sumN_congr {f g : Nat → Rat} : ∀ {n : Nat}, (∀ j, j < n → f j = g j) → sumN n f = sumN n g
  | 0, _ => rfl
  | n + 1, h => by
    unfold sumN
    rw [sumN_congr fun j hj => h j (by omega), h n (by omega)]
theorem sumN_add {f g : Nat → Rat} : ∀ n : Nat, sumN n (fun j => f j + g j) = sumN n f + sumN n g
  | 0 => by show (0 : Rat) = 0 + 0; grind
  | n + 1 => by
    unfold sumN
    rw [sumN_add n]
    grind
theorem sumN_mul {f : Nat → Rat} {c : Rat} : ∀ n : Nat, sumN n (fun j => c * f j) = c * sumN n f
  | 0 => by show (0 : Rat) = c * 0; grind
  | n + 1 => by
    unfold sumN
    rw [sumN_mul n]
    grind
theorem sumN_zero {f : Nat → Rat} : ∀ {n : Nat}, (∀ j, j < n → f j = 0) → sumN n f = 0
  | 0, _ => rfl
  | n + 1, h => by
    unfold sumN
    rw [sumN_zero fun j hj => h j (by omega), h n (by omega)]
    grind
theorem sumN_nn {f : Nat → Rat} : ∀ {n : Nat}, (∀ j, j < n → 0 ≤ f j) → 0 ≤ sumN n f
  | 0, _ => Rat.le_refl
  | n + 1, h => by
    unfold sumN
    have := sumN_nn (f := f) (n := n) fun j hj => h j (by omega)
    have := h n (by omega)
    grind
theorem sumN_le {f g : Nat → Rat} : ∀ {n : Nat}, (∀ j, j < n → f j ≤ g j) → sumN n f ≤ sumN n g
  | 0, _ => Rat.le_refl
  | n + 1, h => by
    unfold sumN
    have := sumN_le (f := f) (g := g) (n := n) fun j hj => h j (by omega)
    have := h n (by omega)
    grind
/-- one term taken out -/
theorem sumN_out {f : Nat → Rat} {a : Nat} : ∀ {n : Nat}, a < n → sumN n f = sumN n (fun j => if j = a then 0 else f j) + f a
  | 0, h => by omega
  | n + 1, h => by
    unfold sumN
    by_cases e : n = a
    · subst e
      show _ = sumN n (fun j => if j = n then 0 else f j) + (if n = n then 0 else f n) + f n
      rw [if_pos rfl, sumN_congr (f := fun j => if j = n then 0 else f j) (g := f) fun j hj => if_neg (by omega)]
      grind
    · show _ = sumN n (fun j => if j = a then 0 else f j) + (if n = a then 0 else f n) + f a
      rw [if_neg e, sumN_out (n := n) (a := a) (by omega)]
      grind
theorem sumN_single {a : Nat} {c : Rat} {n : Nat} (h : a < n) : sumN n (fun j => if j = a then c else 0) = c := by
  rw [sumN_out h, if_pos rfl, sumN_zero]
  · grind
  · intro j hj
    by_cases e : j = a
    · rw [if_pos e]
    · rw [if_neg e, if_neg e]
/-- x is what the unknowns of S are -/
def Solves (n : Nat) (S : Sy) (x : Nat → Rat) : Prop := ∀ i, i < n → x i = S.F i + sumN n fun j => S.R i j * x j
theorem solves_step {n t : Nat} {S : Sy} {x : Nat → Rat} (ht : t < n) (hl : S.R t t < 1) (h : Solves n (gStep S t) x) : Solves n S x := by
  have hne : (1 : Rat) - S.R t t ≠ 0 := by grind
  have eT : x t = gEnd S t + sumN n fun j => gOwn S t j * x j := by
    have := h t ht
    rw [this]
    show (if t = t then gEnd S t else _) + _ = _
    rw [if_pos rfl]
    congr 1
    apply sumN_congr
    intro j hj
    show (if t = t then gOwn S t j else _) * x j = _
    rw [if_pos rfl]
  have eO : sumN n (fun j => S.R t j * x j) = sumN n (fun j => if j = t then 0 else S.R t j * x j) + S.R t t * x t := sumN_out ht
  have eG : (1 - S.R t t) * (sumN n fun j => gOwn S t j * x j) = sumN n (fun j => if j = t then 0 else S.R t j * x j) := by
    rw [← sumN_mul]
    apply sumN_congr
    intro j hj
    unfold gOwn
    by_cases e : j = t
    · rw [if_pos e, if_pos e]; grind
    · rw [if_neg e, if_neg e]
      grind
  have eE : (1 - S.R t t) * gEnd S t = S.F t := by
    unfold gEnd
    grind
  intro i hi
  by_cases e : i = t
  · subst e
    rw [eO, ← eG]
    have : (1 - S.R i i) * x i = (1 - S.R i i) * (gEnd S i + sumN n fun j => gOwn S i j * x j) := congrArg (fun z => (1 - S.R i i) * z) eT
    grind
  · have hi' := h i hi
    have e1 : (gStep S t).F i = S.F i + S.R i t * gEnd S t := by
      show (if i = t then _ else _) = _
      rw [if_neg e]
    have e2 : sumN n (fun j => (gStep S t).R i j * x j) = sumN n (fun j => if j = t then 0 else S.R i j * x j) + S.R i t * sumN n fun j => gOwn S t j * x j := by
      rw [← sumN_mul, ← sumN_add]
      apply sumN_congr
      intro j hj
      show (if i = t then _ else (if j = t then 0 else S.R i j) + S.R i t * gOwn S t j) * x j = _
      rw [if_neg e]
      by_cases e3 : j = t
      · rw [if_pos e3, if_pos e3]; grind
      · rw [if_neg e3, if_neg e3]; grind
    rw [hi', e1, e2, sumN_out (f := fun j => S.R i j * x j) ht]
    grind
theorem col_zero {n : Nat} {S : Sy} : ∀ {t : Nat}, t ≤ n → ∀ i j, i < n → j < t → (gSt S t).R i j = 0
  | 0, _, i, j, _, hj => by omega
  | t + 1, ht, i, j, hi, hj => by
    have ih := col_zero (n := n) (S := S) (t := t) (by omega)
    show (if i = t then gOwn (gSt S t) t j else (if j = t then 0 else (gSt S t).R i j) + (gSt S t).R i t * gOwn (gSt S t) t j) = 0
    have eo : gOwn (gSt S t) t j = 0 := by
      unfold gOwn
      by_cases e : j = t
      · rw [if_pos e]
      · rw [if_neg e, ih t j (by omega) (by omega)]
        grind
    rw [eo]
    by_cases e : i = t
    · rw [if_pos e]
    · rw [if_neg e]
      by_cases e2 : j = t
      · rw [if_pos e2]; grind
      · rw [if_neg e2, ih i j hi (by omega)]; grind
/-- what elimination finds solves the system -/
theorem solves_of {n : Nat} {S : Sy} (h : ∀ t, t < n → (gSt S t).R t t < 1) : Solves n S (gSt S n).F := by
  have last : Solves n (gSt S n) (gSt S n).F := fun i hi => by
    rw [sumN_zero fun j hj => by rw [col_zero (Nat.le_refl n) i j hi hj]; grind]
    grind
  have down : ∀ d, d ≤ n → Solves n (gSt S (n - d)) (gSt S n).F := by
    intro d
    induction d with
    | zero => intro _; exact last
    | succ d ih =>
      intro hd
      have e : n - d = (n - (d + 1)) + 1 := by omega
      have h1 := ih (by omega)
      rw [e] at h1
      exact solves_step (by omega) (h _ (by omega)) h1
  have := down n (Nat.le_refl n)
  rw [Nat.sub_self] at this
  exact this
/-! how great the numbers become, row by row -/
def Row (m n : Nat) (w : Nat → Rat) : Prop := ∃ d : Int, 0 < d ∧ intBits d ≤ m ∧ ∀ j, j < n → ∃ z : Int, 0 ≤ z ∧ intBits z ≤ m ∧ w j = (z : Rat) / (d : Rat)
theorem Row.mono {m m' n : Nat} {w : Nat → Rat} (h : Row m n w) (e : m ≤ m') : Row m' n w := by
  obtain ⟨d, h1, h2, h3⟩ := h
  exact ⟨d, h1, by omega, fun j hj => let ⟨z, a, b, c⟩ := h3 j hj; ⟨z, a, by omega, c⟩⟩
theorem rat_pos {d : Int} (h : 0 < d) : (0 : Rat) < (d : Rat) := by exact_mod_cast h
theorem rat_nn {d : Int} (h : 0 ≤ d) : (0 : Rat) ≤ (d : Rat) := by exact_mod_cast h
theorem bt_frac {z d : Int} {m : Nat} (h : 0 < d) (h1 : intBits z ≤ m) (h2 : intBits d ≤ m) : Bt m ((z : Rat) / (d : Rat)) := by
  rw [← shr_eq z d h]
  exact bt_shr h h1 h2
theorem Row.bt {m n j : Nat} {w : Nat → Rat} (h : Row m n w) (hj : j < n) : 0 ≤ w j ∧ Bt m (w j) := by
  obtain ⟨d, h1, h2, h3⟩ := h
  obtain ⟨z, a, b, c⟩ := h3 j hj
  rw [c]
  exact ⟨nn_div (rat_nn a) (rat_pos h1), bt_frac h1 b h2⟩
theorem Row.own {m n at_ : Nat} {w : Nat → Rat} (h : Row m n w) (hat : at_ < n) (l : w at_ < 1) : Row m n (ownW w at_) := by
  obtain ⟨d, h1, h2, h3⟩ := h
  obtain ⟨z, a, b, c⟩ := h3 at_ hat
  have hd := rat_pos h1
  have hzd : z < d := by
    have : (z : Rat) < (d : Rat) := by
      rw [c] at l
      have := (Rat.div_lt_iff hd).mp l
      grind
    exact_mod_cast this
  refine ⟨d - z, by omega, intBits_le_of_natAbs (by omega) h2, fun j hj => ?_⟩
  obtain ⟨y, a2, b2, c2⟩ := h3 j hj
  unfold ownW
  by_cases e : j = at_
  · rw [if_pos e]
    refine ⟨0, by omega, by rw [show intBits 0 = 0 from rfl]; omega, ?_⟩
    have : ((0 : Int) : Rat) = 0 := rfl
    rw [this]
    grind
  · rw [if_neg e]
    refine ⟨y, a2, b2, ?_⟩
    rw [c2, c]
    have : ((d - z : Int) : Rat) = (d : Rat) - (z : Rat) := by push_cast; rfl
    rw [this]
    have h5 : (0 : Rat) < (d : Rat) - (z : Rat) := by
      have := rat_pos (show 0 < d - z by omega)
      grind
    grind
theorem Row.put {m n at_ : Nat} {w u : Nat → Rat} (h : Row m n w) (g : Row m n u) (hat : at_ < n) : Row (2 * m + 1) n fun j => (if j = at_ then 0 else w j) + w at_ * u j := by
  obtain ⟨d, h1, h2, h3⟩ := h
  obtain ⟨e, g1, g2, g3⟩ := g
  obtain ⟨z, a, b, c⟩ := h3 at_ hat
  refine ⟨d * e, Int.mul_pos h1 g1, Nat.le_trans (intBits_mul_le h2 g2) (by omega), fun j hj => ?_⟩
  obtain ⟨x, a1, b1, c1⟩ := h3 j hj
  obtain ⟨y, a2, b2, c2⟩ := g3 j hj
  have hd := rat_pos h1
  have he := rat_pos g1
  have hd' : (d : Rat) ≠ 0 := by grind
  have he' : (e : Rat) ≠ 0 := by grind
  by_cases q : j = at_
  · refine ⟨z * y, Int.mul_nonneg a a2, Nat.le_trans (intBits_mul_le b b2) (by omega), ?_⟩
    show (if j = at_ then 0 else w j) + w at_ * u j = _
    rw [if_pos q, c, c2]
    push_cast
    grind
  · refine ⟨x * e + z * y, Int.add_nonneg (Int.mul_nonneg a1 (Int.le_of_lt g1)) (Int.mul_nonneg a a2), Nat.le_trans (intBits_add_le (intBits_mul_le b1 g2) (intBits_mul_le b b2)) (by omega), ?_⟩
    show (if j = at_ then 0 else w j) + w at_ * u j = _
    rw [if_neg q, c, c2, c1]
    push_cast
    grind
def SyB (m c n : Nat) (S : Sy) : Prop := ∀ i, i < n → Row m n (S.R i) ∧ 0 ≤ S.F i ∧ Bt c (S.F i)
theorem SyB.step {m c n t : Nat} {S : Sy} (h : SyB m c n S) (ht : t < n) (l : S.R t t < 1) : SyB (2 * m + 1) (2 * c + 3 * m + 3) n (gStep S t) := by
  have hr : 0 < 1 - S.R t t := by grind
  have ho := (h t ht).1.own ht l
  obtain ⟨d, h1, h2, h3⟩ := (h t ht).1
  obtain ⟨z, a, b, c'⟩ := h3 t ht
  have hb : Bt m (1 - S.R t t) := by
    have hd := rat_pos h1
    have hzd : z < d := by
      have : (z : Rat) < (d : Rat) := by
        rw [c'] at l
        have := (Rat.div_lt_iff hd).mp l
        grind
      exact_mod_cast this
    have e : 1 - S.R t t = ((d - z : Int) : Rat) / (d : Rat) := by
      rw [c']
      push_cast
      grind
    rw [e]
    exact bt_frac h1 (intBits_le_of_natAbs (by omega) h2) h2
  have hE : 0 ≤ gEnd S t ∧ Bt (c + m) (gEnd S t) := ⟨nn_div (h t ht).2.1 hr, (h t ht).2.2.div hb hr⟩
  intro i hi
  by_cases e : i = t
  · subst e
    have e1 : (gStep S i).R i = ownW (S.R i) i := by
      funext j
      show (if i = i then gOwn S i j else _) = _
      rw [if_pos rfl]
      rfl
    have e2 : (gStep S i).F i = gEnd S i := by
      show (if i = i then gEnd S i else _) = _
      rw [if_pos rfl]
    rw [e1, e2]
    exact ⟨ho.mono (by omega), hE.1, hE.2.mono (by omega)⟩
  · have e1 : (gStep S t).R i = fun j => (if j = t then 0 else S.R i j) + S.R i t * ownW (S.R t) t j := by
      funext j
      show (if i = t then _ else (if j = t then 0 else S.R i j) + S.R i t * gOwn S t j) = _
      rw [if_neg e]
      rfl
    have e2 : (gStep S t).F i = S.F i + S.R i t * gEnd S t := by
      show (if i = t then _ else _) = _
      rw [if_neg e]
    rw [e1, e2]
    have hit := (h i hi).1.bt ht
    refine ⟨(h i hi).1.put ho ht, ?_, ((h i hi).2.2.add (hit.2.mul hE.2)).mono (by omega)⟩
    have := Rat.mul_nonneg hit.1 hE.1
    have := (h i hi).2.1
    grind
end G91
namespace G91
open PySem PySem.Spec PyProof.Rows L2
open Builtin.Int (intBits)
theorem Row.set {m c n i : Nat} {w : Nat → Rat} {a b : Int} (h : Row m n w) (ha : 0 ≤ a) (hb : 0 < b) (h1 : intBits a ≤ c) (h2 : intBits b ≤ c) : Row (m + c) n fun j => if j = i then shr a b else w j := by
  obtain ⟨d, d1, d2, d3⟩ := h
  refine ⟨d * b, Int.mul_pos d1 hb, intBits_mul_le d2 h2, fun j hj => ?_⟩
  have hd := rat_pos d1
  have hb' := rat_pos hb
  have hd' : (d : Rat) ≠ 0 := by grind
  have hb2 : (b : Rat) ≠ 0 := by grind
  obtain ⟨z, z1, z2, z3⟩ := d3 j hj
  by_cases e : j = i
  · refine ⟨d * a, Int.mul_nonneg (Int.le_of_lt d1) ha, intBits_mul_le d2 h1, ?_⟩
    show (if j = i then shr a b else w j) = _
    rw [if_pos e, shr_eq a b hb]
    push_cast
    grind
  · refine ⟨z * b, Int.mul_nonneg z1 (Int.le_of_lt hb), intBits_mul_le z2 h2, ?_⟩
    show (if j = i then shr a b else w j) = _
    rw [if_neg e, z3]
    push_cast
    grind
theorem shr_one (a : Int) : shr a 1 = (a : Rat) := by
  rw [shr_eq a 1 (by decide)]
  have : ((1 : Int) : Rat) = 1 := rfl
  rw [this]
  grind
theorem shD_int (a : Int) : shD (shr a 1) = .tuple [.int a, .int 1] := by
  rw [shD_shr (by decide)]
  have : Int.gcd a 1 = 1 := by simp
  rw [this]
  simp
theorem shD_inv {b : Int} (hb : 0 < b) : shD (shr 1 b) = .tuple [.int 1, .int b] := by
  rw [shD_shr hb]
  have : Int.gcd 1 b = 1 := by simp
  rw [this]
  simp
/-- elimination of what is small -/
theorem SyB.all {n : Nat} {S : Sy} (h : SyB 10 10 n S) : ∀ {t : Nat}, t ≤ n → (∀ u, u < t → (gSt S u).R u u < 1) → SyB (11 * 5 ^ t - 1) (11 * 5 ^ t - 1) n (gSt S t)
  | 0, _, _ => fun i hi => ⟨(h i hi).1.mono (by decide), (h i hi).2.1, (h i hi).2.2.mono (by decide)⟩
  | t + 1, ht, hu => by
    have := (h.all (t := t) (by omega) fun u hu' => hu u (by omega)).step (t := t) (by omega) (hu t (by omega))
    have e1 : 1 ≤ 5 ^ t := Nat.one_le_pow _ _ (by decide)
    have e2 : 5 ^ (t + 1) = 5 * 5 ^ t := by rw [Nat.pow_succ]; omega
    generalize 5 ^ t = x at *
    rw [e2]
    exact fun i hi => ⟨(this i hi).1.mono (by omega), (this i hi).2.1, (this i hi).2.2.mono (by omega)⟩
theorem pow5_le {t : Nat} (h : t ≤ 6) : 11 * 5 ^ t - 1 ≤ 171874 := by
  have : 5 ^ t ≤ 5 ^ 6 := Nat.pow_le_pow_right (by decide) h
  omega
end G91
namespace G91
open PySem PySem.Spec PyProof.Rows L2
theorem rowD_succ {n : Nat} {w : Nat → Rat} : rowD (n + 1) w = rowD n w ++ [shD (w n)] := by
  unfold rowD
  rw [List.range_succ, List.map_append]
  rfl
theorem rowS_push {n : Nat} {w : Nat → Rat} {r : Rat} : (rowD n w).map Sv.va ++ [.va (shD r)] = (rowD (n + 1) fun j => if j = n then r else w j).map Sv.va := by
  rw [rowD_succ, List.map_append, if_pos rfl, rowD_congr (u := fun j => if j = n then r else w j) fun j hj => (if_neg (by omega)).symm]
  rfl
end G91
namespace G91
open PySem PySem.Spec PyProof.Rows L2
/-- rows of one's own, a list of them at L -/
structure LeAt (M M' : Mm) (n : Nat) (R : Nat → Nat → Rat) (L : Addr) (ad : Nat → Addr) : Prop where
  rows : Rw M M' n R n ad
  rl : M' L = some (.lst (adL n ad))
  ext : Mext M M'
  nL : M L = none
  dL : ∀ j, j < n → ad j ≠ L
theorem LeAt.set {M M' : Mm} {n i j : Nat} {R : Nat → Nat → Rat} {L : Addr} {ad : Nat → Addr} {r : Rat} (h : LeAt M M' n R L ad) (hi : i < n) :
    LeAt M (mup M' (ad i) (.lst (((rowD n (R i)).map Sv.va).set j (.va (shD r))))) n (fun a => if a = i then fun b => if b = j then r else R i b else R a) L ad :=
  ⟨h.rows.set hi (by rw [mup_same, rowS_set]) fun a ha hn => mup_ne (h.rows.inj a i ha hi hn), by rw [mup_ne (Ne.symm (h.dL i hi))]; exact h.rl, fun a o e => by rw [mup_ne (mne e (h.rows.nw i hi))]; exact h.ext a o e, h.nL, h.dL⟩
theorem rest_eq {r : Rat} (h : r < 1) : shr (r.den : Int) ((r.den : Int) - r.num) = 1 / (1 - r) ∧ 0 < (r.den : Int) - r.num := by
  have hd := den_pos r
  have h1 : r.num < (r.den : Int) := by
    have := (lt_cross r 1).mpr h
    have e1 : (1 : Rat).num = 1 := rfl
    have e2 : (1 : Rat).den = 1 := rfl
    rw [e1, e2] at this
    simpa using this
  refine ⟨?_, by omega⟩
  rw [shr_eq _ _ (by omega)]
  have e := rat_eq r
  have hdn := den_ne r
  have e3 : (((r.den : Int) - r.num : Int) : Rat) = (r.den : Rat) - (r.num : Rat) := by push_cast; rfl
  have e4 : (((r.den : Int)) : Rat) = (r.den : Rat) := by push_cast; rfl
  rw [e3, e4]
  have h5 : (0 : Rat) < (r.den : Rat) - (r.num : Rat) := by
    have := rat_pos (show 0 < (r.den : Int) - r.num by omega)
    rw [e3] at this
    exact this
  have e5 : (1 : Rat) - r = ((r.den : Rat) - (r.num : Rat)) / (r.den : Rat) := by
    conv => lhs; rw [e]
    grind
  rw [e5]
  grind
theorem ge_cross (r : Rat) : r.num ≥ (r.den : Int) ↔ 1 ≤ r := by
  have h := lt_cross r 1
  have e1 : (1 : Rat).num = 1 := rfl
  have e2 : (1 : Rat).den = 1 := rfl
  rw [e1, e2] at h
  rw [← Rat.not_lt, ← h]
  simp
end G91
namespace G91
open PySem PySem.Spec PyProof.Rows L2
/-- data that may be compared, nested m deep -/
def Shp (m : Nat) (d : PyData) : Prop := d.canLay0 = true ∧ d.depth ≤ m
theorem Shp.mono {m n : Nat} {d : PyData} (h : Shp m d) (e : m ≤ n) : Shp n d := ⟨h.1, Nat.le_trans h.2 e⟩
theorem Shp.ok {m : Nat} {d : PyData} (h : Shp m d) (e : m ≤ 64) : SeqAt.shaped d = true := Bool.and_eq_true_iff.mpr ⟨h.1, decide_eq_true (Nat.le_trans h.2 e)⟩
theorem shp_all {m : Nat} : ∀ {xs : List PyData}, (∀ x ∈ xs, Shp m x) → PyData.canLayAll0 xs = true ∧ PyData.depthAll xs ≤ m
  | [], _ => ⟨rfl, Nat.zero_le _⟩
  | x :: xs, h => by
    obtain ⟨a, b⟩ := shp_all fun y hy => h y (List.mem_cons_of_mem _ hy)
    have c := h x List.mem_cons_self
    refine ⟨Bool.and_eq_true_iff.mpr ⟨c.1, a⟩, ?_⟩
    show max x.depth (PyData.depthAll xs) ≤ m
    have := c.2
    omega
theorem shp_list {m : Nat} {xs : List PyData} (h : ∀ x ∈ xs, Shp m x) : Shp (m + 1) (.list xs) := by
  obtain ⟨a, b⟩ := shp_all h
  exact ⟨a, by show PyData.depthAll xs + 1 ≤ m + 1; omega⟩
theorem shp_tuple {m : Nat} {xs : List PyData} (h : ∀ x ∈ xs, Shp m x) : Shp (m + 1) (.tuple xs) := by
  obtain ⟨a, b⟩ := shp_all h
  exact ⟨a, by show PyData.depthAll xs + 1 ≤ m + 1; omega⟩
theorem shp_int (m : Nat) (i : Int) : Shp m (.int i) := ⟨rfl, Nat.zero_le _⟩
theorem shp_bool (m : Nat) (b : Bool) : Shp m (.bool b) := ⟨rfl, Nat.zero_le _⟩
theorem shp_shD (r : Rat) : Shp 1 (shD r) := shp_tuple (m := 0) fun x hx => by
  rcases List.mem_cons.mp hx with h | h
  · rw [h]; exact shp_int _ _
  · rw [List.mem_singleton.mp h]; exact shp_int _ _
theorem shp_rowD {n : Nat} {w : Nat → Rat} : Shp 2 (.list (rowD n w)) := shp_list fun x hx => by
  unfold rowD at hx
  obtain ⟨a, _, rfl⟩ := List.mem_map.mp hx
  exact shp_shD _
theorem shp_sysD {n : Nat} {S : Sy} : Shp 3 (sysD n S) := shp_list fun x hx => by
  obtain ⟨a, _, rfl⟩ := List.mem_map.mp hx
  exact shp_rowD
theorem pl_all : ∀ {xs : List PyData}, (∀ x ∈ xs, plD x = true) → plA xs = true
  | [], _ => rfl
  | x :: xs, h => Bool.and_eq_true_iff.mpr ⟨h x List.mem_cons_self, pl_all fun y hy => h y (List.mem_cons_of_mem _ hy)⟩
theorem pl_rowD {n : Nat} {w : Nat → Rat} : plD (.list (rowD n w)) = true := pl_all fun x hx => by
  unfold rowD at hx
  obtain ⟨a, _, rfl⟩ := List.mem_map.mp hx
  rfl
theorem pl_sysD {n : Nat} {S : Sy} : plD (sysD n S) = true := pl_all fun x hx => by
  obtain ⟨a, _, rfl⟩ := List.mem_map.mp hx
  exact pl_rowD
end G91

namespace G91
open PySem PySem.Spec PyProof.Rows L2
open Evl (Ex)
open He (ga ma fAd)
def topS (i : Nat) : Stmt := PySem.Challenge.pw_scoreflow_k03_systems_solved.main.body.getD i (.Pass ⟨0, 0, 0, 0⟩)
abbrev s_divisor : Stmt := topS 10
theorem sc_divisor : FnScope ["one", "other", "rest"] ["one", "other"] (defScope s_divisor) := ⟨rfl, rfl, rfl, by decide +kernel, rfl, by decide +kernel, by decide +kernel⟩
theorem bt_divisor : BindsTxt ["one", "other"] "divisor" "divisor" s_divisor := fun _ _ _ _ _ _ us hl => match us, hl with | [_, _], _ => rfl
abbrev s_share : Stmt := topS 11
theorem sc_share : FnScope ["top", "bottom", "common"] ["top", "bottom"] (defScope s_share) := ⟨rfl, rfl, rfl, by decide +kernel, rfl, by decide +kernel, by decide +kernel⟩
theorem bt_share : BindsTxt ["top", "bottom"] "share" "share" s_share := fun _ _ _ _ _ _ us hl => match us, hl with | [_, _], _ => rfl
abbrev s_added : Stmt := topS 12
theorem sc_added : FnScope ["one", "other"] ["one", "other"] (defScope s_added) := ⟨rfl, rfl, rfl, by decide +kernel, rfl, by decide +kernel, by decide +kernel⟩
theorem bt_added : BindsTxt ["one", "other"] "added" "added" s_added := fun _ _ _ _ _ _ us hl => match us, hl with | [_, _], _ => rfl
abbrev s_timed : Stmt := topS 14
theorem sc_timed : FnScope ["one", "other"] ["one", "other"] (defScope s_timed) := ⟨rfl, rfl, rfl, by decide +kernel, rfl, by decide +kernel, by decide +kernel⟩
theorem bt_timed : BindsTxt ["one", "other"] "timed" "timed" s_timed := fun _ _ _ _ _ _ us hl => match us, hl with | [_, _], _ => rfl
abbrev s_lessened : Stmt := topS 13
theorem sc_lessened : FnScope ["one", "other"] ["one", "other"] (defScope s_lessened) := ⟨rfl, rfl, rfl, by decide +kernel, rfl, by decide +kernel, by decide +kernel⟩
theorem bt_lessened : BindsTxt ["one", "other"] "lessened" "lessened" s_lessened := fun _ _ _ _ _ _ us hl => match us, hl with | [_, _], _ => rfl
abbrev s_parted : Stmt := topS 15
theorem sc_parted : FnScope ["one", "other"] ["one", "other"] (defScope s_parted) := ⟨rfl, rfl, rfl, by decide +kernel, rfl, by decide +kernel, by decide +kernel⟩
theorem bt_parted : BindsTxt ["one", "other"] "parted" "parted" s_parted := fun _ _ _ _ _ _ us hl => match us, hl with | [_, _], _ => rfl
abbrev s_is_less : Stmt := topS 16
theorem sc_is_less : FnScope ["one", "other"] ["one", "other"] (defScope s_is_less) := ⟨rfl, rfl, rfl, by decide +kernel, rfl, by decide +kernel, by decide +kernel⟩
theorem bt_is_less : BindsTxt ["one", "other"] "is_less" "is_less" s_is_less := fun _ _ _ _ _ _ us hl => match us, hl with | [_, _], _ => rfl
abbrev s_put_in : Stmt := topS 18
theorem sc_put_in : FnScope ["row", "end", "own", "at", "factor", "k"] ["row", "end", "own", "at"] (defScope s_put_in) := ⟨rfl, rfl, rfl, by decide +kernel, rfl, by decide +kernel, by decide +kernel⟩
theorem bt_put_in : BindsTxt ["row", "end", "own", "at"] "put_in" "put_in" s_put_in := fun _ _ _ _ _ _ us hl => match us, hl with | [_, _, _, _], _ => rfl
abbrev s_left_alone : Stmt := topS 19
theorem sc_left_alone : FnScope ["row", "end", "at", "rest", "way"] ["row", "end", "at"] (defScope s_left_alone) := ⟨rfl, rfl, rfl, by decide +kernel, rfl, by decide +kernel, by decide +kernel⟩
theorem bt_left_alone : BindsTxt ["row", "end", "at"] "left_alone" "left_alone" s_left_alone := fun _ _ _ _ _ _ us hl => match us, hl with | [_, _, _], _ => rfl
abbrev s_solved : Stmt := topS 20
theorem sc_solved : FnScope ["ways", "ends", "rows", "row", "found", "at", "own", "k"] ["ways", "ends"] (defScope s_solved) := ⟨rfl, rfl, rfl, by decide +kernel, rfl, by decide +kernel, by decide +kernel⟩
theorem bt_solved : BindsTxt ["ways", "ends"] "solved" "solved" s_solved := fun _ _ _ _ _ _ us hl => match us, hl with | [_, _], _ => rfl
abbrev s__law_cell_at : Stmt := topS 22
theorem sc__law_cell_at : FnScope ["_law_script", "_law_k"] ["_law_script", "_law_k"] (defScope s__law_cell_at) := ⟨rfl, rfl, rfl, by decide +kernel, rfl, by decide +kernel, by decide +kernel⟩
theorem bt__law_cell_at : BindsTxt ["_law_script", "_law_k"] "_law_cell_at" "_law_cell_at" s__law_cell_at := fun _ _ _ _ _ _ us hl => match us, hl with | [_, _], _ => rfl
abbrev s__law_dice : Stmt := topS 23
theorem sc__law_dice : FnScope ["_law_cell"] ["_law_cell"] (defScope s__law_dice) := ⟨rfl, rfl, rfl, by decide +kernel, rfl, by decide +kernel, by decide +kernel⟩
theorem bt__law_dice : BindsTxt ["_law_cell"] "_law_dice" "_law_dice" s__law_dice := fun _ _ _ _ _ _ us hl => match us, hl with | [_], _ => rfl
abbrev s__law_roll : Stmt := topS 24
theorem sc__law_roll : FnScope ["_law_dice_here", "_law_most"] ["_law_dice_here", "_law_most"] (defScope s__law_roll) := ⟨rfl, rfl, rfl, by decide +kernel, rfl, by decide +kernel, by decide +kernel⟩
theorem bt__law_roll : BindsTxt ["_law_dice_here", "_law_most"] "_law_roll" "_law_roll" s__law_roll := fun _ _ _ _ _ _ us hl => match us, hl with | [_, _], _ => rfl
abbrev s__law_whole : Stmt := topS 25
theorem sc__law_whole : FnScope ["_law_found"] ["_law_found"] (defScope s__law_whole) := ⟨rfl, rfl, rfl, by decide +kernel, rfl, by decide +kernel, by decide +kernel⟩
theorem bt__law_whole : BindsTxt ["_law_found"] "_law_whole" "_law_whole" s__law_whole := fun _ _ _ _ _ _ us hl => match us, hl with | [_], _ => rfl
abbrev s__law_share : Stmt := topS 26
theorem sc__law_share : FnScope ["_law_top", "_law_bottom", "_law_one", "_law_other", "_law_rest"] ["_law_top", "_law_bottom"] (defScope s__law_share) := ⟨rfl, rfl, rfl, by decide +kernel, rfl, by decide +kernel, by decide +kernel⟩
theorem bt__law_share : BindsTxt ["_law_top", "_law_bottom"] "_law_share" "_law_share" s__law_share := fun _ _ _ _ _ _ us hl => match us, hl with | [_, _], _ => rfl
abbrev s__law_added : Stmt := topS 27
theorem sc__law_added : FnScope ["_law_one", "_law_other"] ["_law_one", "_law_other"] (defScope s__law_added) := ⟨rfl, rfl, rfl, by decide +kernel, rfl, by decide +kernel, by decide +kernel⟩
theorem bt__law_added : BindsTxt ["_law_one", "_law_other"] "_law_added" "_law_added" s__law_added := fun _ _ _ _ _ _ us hl => match us, hl with | [_, _], _ => rfl
abbrev s__law_timed : Stmt := topS 28
theorem sc__law_timed : FnScope ["_law_one", "_law_other"] ["_law_one", "_law_other"] (defScope s__law_timed) := ⟨rfl, rfl, rfl, by decide +kernel, rfl, by decide +kernel, by decide +kernel⟩
theorem bt__law_timed : BindsTxt ["_law_one", "_law_other"] "_law_timed" "_law_timed" s__law_timed := fun _ _ _ _ _ _ us hl => match us, hl with | [_, _], _ => rfl
abbrev s__law_is_share : Stmt := topS 29
theorem sc__law_is_share : FnScope ["_law_found"] ["_law_found"] (defScope s__law_is_share) := ⟨rfl, rfl, rfl, by decide +kernel, rfl, by decide +kernel, by decide +kernel⟩
theorem bt__law_is_share : BindsTxt ["_law_found"] "_law_is_share" "_law_is_share" s__law_is_share := fun _ _ _ _ _ _ us hl => match us, hl with | [_], _ => rfl
abbrev s__law_drawn : Stmt := topS 30
theorem sc__law_drawn : FnScope ["_law_dice_here", "_law_many", "_law_ways", "_law_ends_here", "_law_k", "_law_parts", "_law_j", "_law_whole_here", "_law_part", "_law_one", "_law_other"] ["_law_dice_here", "_law_many"] (defScope s__law_drawn) := ⟨rfl, rfl, rfl, by decide +kernel, rfl, by decide +kernel, by decide +kernel⟩
theorem bt__law_drawn : BindsTxt ["_law_dice_here", "_law_many"] "_law_drawn" "_law_drawn" s__law_drawn := fun _ _ _ _ _ _ us hl => match us, hl with | [_, _], _ => rfl
abbrev s__law_ends : Stmt := topS 31
theorem sc__law_ends : FnScope ["_law_ways", "_law_rows", "_law_row", "_law_at", "_law_own", "_law_rest", "_law_k", "_law_factor", "_law_j"] ["_law_ways"] (defScope s__law_ends) := ⟨rfl, rfl, rfl, by decide +kernel, rfl, by decide +kernel, by decide +kernel⟩
theorem bt__law_ends : BindsTxt ["_law_ways"] "_law_ends" "_law_ends" s__law_ends := fun _ _ _ _ _ _ us hl => match us, hl with | [_], _ => rfl
abbrev s__law_refused : Stmt := topS 32
theorem sc__law_refused : FnScope ["_law_ways", "_law_ends_here", "e", "_law_beside"] ["_law_ways", "_law_ends_here"] (defScope s__law_refused) := ⟨rfl, rfl, rfl, by decide +kernel, rfl, by decide +kernel, by decide +kernel⟩
theorem bt__law_refused : BindsTxt ["_law_ways", "_law_ends_here"] "_law_refused" "_law_refused" s__law_refused := fun _ _ _ _ _ _ us hl => match us, hl with | [_, _], _ => rfl
abbrev s_law : Stmt := topS 33
theorem sc_law : FnScope ["_law_script", "_law_dice_here", "_law_ways", "_law_ends_here", "_law_handed", "_law_row", "_law_found", "_law_one", "_law_k", "_law_due", "_law_j"] ["_law_script"] (defScope s_law) := ⟨rfl, rfl, rfl, by decide +kernel, rfl, by decide +kernel, by decide +kernel⟩
theorem bt_law : BindsTxt ["_law_script"] "law" "law" s_law := fun _ _ _ _ _ _ us hl => match us, hl with | [_], _ => rfl
/-- what the top leaves -/
structure Tx (P : Program) (K : PySem.W.Frag) (mg : Str → Option Value) : Prop where
  sys : SysOk P K
  z_len : mg "len" = none
  z_range : mg "range" = none
  z_list : mg "list" = none
  z_bool : mg "bool" = none
  z_int : mg "int" = none
  z_isinstance : mg "isinstance" = none
  z_tuple : mg "tuple" = none
  z_sum : mg "sum" = none
  z_ValueError : mg "ValueError" = none
  e_NoShare : ExcX K mg "NoShare"
  e_NoEnd : ExcX K mg "NoEnd"
  e_NoGrammar : ExcX K mg "NoGrammar"
  e_NoText : ExcX K mg "NoText"
  e_NoTree : ExcX K mg "NoTree"
  e_ScoreError : ExcX K mg "ScoreError"
  km_NoShare_NoEnd : PySem.W.exmOne K (.ref (ga K "NoShare")) (.ref (ga K "NoEnd")) = some false
  xc_NoShare : ExcC K (ga K "NoShare")
  ki_NoShare_NoGrammar : PySem.W.kitOne K (.ref (ga K "NoShare")) (.ref (ga K "NoGrammar")) = some false
  ki_NoShare_NoShare : PySem.W.kitOne K (.ref (ga K "NoShare")) (.ref (ga K "NoShare")) = some true
  ki_NoShare_NoText : PySem.W.kitOne K (.ref (ga K "NoShare")) (.ref (ga K "NoText")) = some false
  ki_NoShare_NoTree : PySem.W.kitOne K (.ref (ga K "NoShare")) (.ref (ga K "NoTree")) = some false
  ki_NoShare_ScoreError : PySem.W.kitOne K (.ref (ga K "NoShare")) (.ref (ga K "ScoreError")) = some true
  ki_NoShare_ValueError : PySem.W.kitOne K (.ref (ga K "NoShare")) (.type "ValueError") = some true
  km_NoEnd_NoEnd : PySem.W.exmOne K (.ref (ga K "NoEnd")) (.ref (ga K "NoEnd")) = some true
  xc_NoEnd : ExcC K (ga K "NoEnd")
  ki_NoEnd_NoGrammar : PySem.W.kitOne K (.ref (ga K "NoEnd")) (.ref (ga K "NoGrammar")) = some false
  ki_NoEnd_NoShare : PySem.W.kitOne K (.ref (ga K "NoEnd")) (.ref (ga K "NoShare")) = some false
  ki_NoEnd_NoText : PySem.W.kitOne K (.ref (ga K "NoEnd")) (.ref (ga K "NoText")) = some false
  ki_NoEnd_NoTree : PySem.W.kitOne K (.ref (ga K "NoEnd")) (.ref (ga K "NoTree")) = some false
  ki_NoEnd_ScoreError : PySem.W.kitOne K (.ref (ga K "NoEnd")) (.ref (ga K "ScoreError")) = some true
  ki_NoEnd_ValueError : PySem.W.kitOne K (.ref (ga K "NoEnd")) (.type "ValueError") = some true
  c_NONE : mg "NONE" = some (.ref (ga K "NONE"))
  v_NONE : ∀ H : Hp, SqT K H (ga K "NONE") [.int 0, .int 1]
  c_ALL : mg "ALL" = some (.ref (ga K "ALL"))
  v_ALL : ∀ H : Hp, SqT K H (ga K "ALL") [.int 1, .int 1]
  f_divisor : mg "divisor" = some (.ref (ga K "divisor"))
  d_divisor : Df K "divisor" "divisor" s_divisor (ga K "divisor")
  f_share : mg "share" = some (.ref (ga K "share"))
  d_share : Df K "share" "share" s_share (ga K "share")
  f_added : mg "added" = some (.ref (ga K "added"))
  d_added : Df K "added" "added" s_added (ga K "added")
  f_timed : mg "timed" = some (.ref (ga K "timed"))
  d_timed : Df K "timed" "timed" s_timed (ga K "timed")
  f_lessened : mg "lessened" = some (.ref (ga K "lessened"))
  d_lessened : Df K "lessened" "lessened" s_lessened (ga K "lessened")
  f_parted : mg "parted" = some (.ref (ga K "parted"))
  d_parted : Df K "parted" "parted" s_parted (ga K "parted")
  f_is_less : mg "is_less" = some (.ref (ga K "is_less"))
  d_is_less : Df K "is_less" "is_less" s_is_less (ga K "is_less")
  f_put_in : mg "put_in" = some (.ref (ga K "put_in"))
  d_put_in : Df K "put_in" "put_in" s_put_in (ga K "put_in")
  f_left_alone : mg "left_alone" = some (.ref (ga K "left_alone"))
  d_left_alone : Df K "left_alone" "left_alone" s_left_alone (ga K "left_alone")
  f_solved : mg "solved" = some (.ref (ga K "solved"))
  d_solved : Df K "solved" "solved" s_solved (ga K "solved")
  f__law_cell_at : mg "_law_cell_at" = some (.ref (ga K "_law_cell_at"))
  d__law_cell_at : Df K "_law_cell_at" "_law_cell_at" s__law_cell_at (ga K "_law_cell_at")
  f__law_dice : mg "_law_dice" = some (.ref (ga K "_law_dice"))
  d__law_dice : Df K "_law_dice" "_law_dice" s__law_dice (ga K "_law_dice")
  f__law_roll : mg "_law_roll" = some (.ref (ga K "_law_roll"))
  d__law_roll : Df K "_law_roll" "_law_roll" s__law_roll (ga K "_law_roll")
  f__law_whole : mg "_law_whole" = some (.ref (ga K "_law_whole"))
  d__law_whole : Df K "_law_whole" "_law_whole" s__law_whole (ga K "_law_whole")
  f__law_share : mg "_law_share" = some (.ref (ga K "_law_share"))
  d__law_share : Df K "_law_share" "_law_share" s__law_share (ga K "_law_share")
  f__law_added : mg "_law_added" = some (.ref (ga K "_law_added"))
  d__law_added : Df K "_law_added" "_law_added" s__law_added (ga K "_law_added")
  f__law_timed : mg "_law_timed" = some (.ref (ga K "_law_timed"))
  d__law_timed : Df K "_law_timed" "_law_timed" s__law_timed (ga K "_law_timed")
  f__law_is_share : mg "_law_is_share" = some (.ref (ga K "_law_is_share"))
  d__law_is_share : Df K "_law_is_share" "_law_is_share" s__law_is_share (ga K "_law_is_share")
  f__law_drawn : mg "_law_drawn" = some (.ref (ga K "_law_drawn"))
  d__law_drawn : Df K "_law_drawn" "_law_drawn" s__law_drawn (ga K "_law_drawn")
  f__law_ends : mg "_law_ends" = some (.ref (ga K "_law_ends"))
  d__law_ends : Df K "_law_ends" "_law_ends" s__law_ends (ga K "_law_ends")
  f__law_refused : mg "_law_refused" = some (.ref (ga K "_law_refused"))
  d__law_refused : Df K "_law_refused" "_law_refused" s__law_refused (ga K "_law_refused")
  f_law : mg "law" = some (.ref (ga K "law"))
  d_law : Df K "law" "law" s_law (ga K "law")
local macro_rules | `(tactic| walk_at "shp") => `(tactic| first | rfl | (with_reducible apply shaped_shD) | (with_reducible assumption))
local macro_rules | `(tactic| walk_at "num") => `(tactic| first | omega | (with_reducible assumption) | decide)
local macro_rules | `(tactic| walk_at "st") => `(tactic| first
  | (with_reducible refine ws_seq ?_) | (with_reducible refine ws_asg ?_) | (with_reducible refine ws_ret ?_) | (with_reducible refine ws_drop ?_)
  | (with_reducible refine we_var rfl ?_) | (with_reducible refine we_int ?_) | (with_reducible refine we_str ?_) | (with_reducible refine we_bl ?_) | (with_reducible refine we_non ?_)
  | (with_reducible refine we_op ?_) | (with_reducible refine we_un ?_) | (with_reducible refine wa_nil ?_) | (with_reducible refine wa_cons ?_) | (with_reducible refine we_call0 ?_) | (with_reducible refine we_cb ?_)
  | (with_reducible refine r2_addI ?_) | (with_reducible refine r2_lt ?_) | (with_reducible refine r2_le ?_) | (with_reducible refine r2_gt ?_) | (with_reducible refine r2_ge ?_) | (with_reducible refine r2_sub ?_)
  | (with_reducible refine ws_next ?_) | (with_reducible refine we_sh0 (by assumption) ?_) | (with_reducible refine we_sh1 (by assumption) ?_) | (with_reducible refine we_raw ?_)
  | (with_reducible refine rc_lenScr ?_) | (with_reducible refine rc_lenT ?_) | (with_reducible refine rc_lenRow (RL.sh _) ?_) | (with_reducible refine rc_lenL (RL.sh _) ?_) | (refine rc_isiF (by rfl) ?_)
  | (refine r2_mod (by walk_at "num") ?_)
  | (refine r2_eqD (DR.sh _) (DR.sh _) (by walk_at "shp") (by walk_at "shp") ?_) | (refine r2_neD (DR.sh _) (DR.sh _) (by walk_at "shp") (by walk_at "shp") ?_)
  | (refine r2_pow (by decide) (by decide) (by decide) ?_)
  | (refine r2_ixT (by rfl) ?_))
local macro_rules | `(tactic| walk_at "run") => `(tactic| repeat walk_at "st")
local macro_rules | `(tactic| walk_at "ep") => `(tactic| first
  | ((with_reducible apply ep_andV); walk_at "ep"; (intro _; walk_at "ep")) | ((with_reducible apply ep_orV); walk_at "ep"; (intro _; walk_at "ep")) | ((with_reducible apply ep_notV); walk_at "ep")
  | (unfold EP1; (repeat walk_at "st"); exact ⟨rfl, rfl⟩))
local macro_rules | `(tactic| walk_at "tp") => `(tactic| first
  | ((with_reducible apply tp_and); walk_at "tp"; (intro _; walk_at "tp")) | ((with_reducible apply tp_or); walk_at "tp"; (intro _; walk_at "tp")) | ((with_reducible apply tp_not); walk_at "tp")
  | ((with_reducible apply tp_test); walk_at "ep") | ((with_reducible apply tp_B); walk_at "ep"))
local macro_rules | `(tactic| walk_at "we") => `(tactic| refine' we_P (by walk_at "ep") ?_)
/-! divisor, share -/
def sp_divisor (_ : PySem.W.Frag) : SpD := fun as M k _ => ∃ a b : Int, as = [.va (.int a), .va (.int b)] ∧ 0 ≤ a ∧ 0 ≤ b ∧ k (.va (.int (Int.gcd a b))) M
/-! divisor -/
def t_divisor (K : PySem.W.Frag) (E : XK) : TS :=
  (tSeq (tWhile (tTest (tOp rGtI (tVar 1) (tC (.int 0))))
  (tSeq (tAsg (tOp rModN (tVar 0) (tVar 1)) (gName 2))
  (tSeq (tAsg (tVar 1) (gName 0))
  (tAsg (tVar 2) (gName 1)))))
  (tRet (tVar 0)))
set_option maxHeartbeats 4000000 in
theorem p_divisor {P : Program} {w : World} {K : PySem.W.Frag} {mg : Str → Option Value} {base : Heap} (T : Tx P K mg) {f : Addr} {cdv : Value} {A : Around} {outer : List Env} {s : Shared} {H : Hp} {E : XK} (hr : Room 0 (A.deeper (envOfC "divisor" (defScope s_divisor) s.heap.objs.size f cdv))) :
    PSs (cxOf (L2.CX P w) P w K mg base ["one", "other", "rest"] "divisor" (defScope s_divisor) f cdv A outer s H E) (defBody s_divisor) (t_divisor K E) := by
  have hu1 := hu_of hr
  have hu := hr.units
  have hu65 := hu_65 hr
  exact (pss_cons (ps_while (passes_of rfl) (pt_cmpR op_gt (pv 1) pe_int (nomark _))
  (pss_cons (ps_set (i := 2) sc_divisor.nd rfl (by first | exact Or.inl rfl | exact Or.inr rfl) (pe_op op_modN (pv 0) (pv 1)))
  (pss_cons (ps_set (i := 0) sc_divisor.nd rfl (by first | exact Or.inl rfl | exact Or.inr rfl) (pv 1))
  (pss_one (ps_set (i := 1) sc_divisor.nd rfl (by first | exact Or.inl rfl | exact Or.inr rfl) (pv 2))))))
  (pss_one (ps_ret (pv 0))))
theorem ini_divisor {K : PySem.W.Frag} {sp : SpD} (h : ∀ as M k e, sp as M k e → ∃ a0 a1, as = [a0, a1] ∧ ∀ P0 E, XL K P0 E e → WS K P0 (t_divisor K E) [some a0, some a1, none] M (fun _ M' => k (.va .none) M') k (fun _ _ => False) (fun _ _ => False)) : Keeps K ["one", "other", "rest"] ["one", "other"] (t_divisor K) sp := fun as M k e hs => by
  obtain ⟨a0, a1, rfl, h⟩ := h as M k e hs
  exact ⟨rfl, fun P0 E hE => h P0 E hE⟩
theorem mk_divisor {P : Program} {w : World} {K : PySem.W.Frag} {mg : Str → Option Value} {base : Heap} (T : Tx P K mg) (hv : Keeps K ["one", "other", "rest"] ["one", "other"] (t_divisor K) (sp_divisor K)) : Cal P w K mg base "divisor" 1 (lift K (sp_divisor K)) :=
  cal_mk T.d_divisor T.f_divisor sc_divisor bt_divisor (by decide) (fun cdv A outer s H E hr => p_divisor T  hr) hv

theorem gcd_walk {K : PySem.W.Frag} {P0 : Ent} {E : XK} {M : Mm} {k : Sv → Mm → Prop} {a b : Int} (ha : 0 ≤ a) (hb : 0 ≤ b) (hk : k (.va (.int (Int.gcd a b))) M) : WS K P0 (t_divisor K E) [some (.va (.int a)), some (.va (.int b)), none] M (fun _ M' => k (.va .none) M') k (fun _ _ => False) (fun _ _ => False) := by
  unfold t_divisor
  refine ws_seq (ws_while (fun m G' M' => ∃ (x y : Int) (z : Option Sv), G' = [some (.va (.int x)), some (.va (.int y)), z] ∧ M' = M ∧ 0 ≤ x ∧ 0 ≤ y ∧ Int.gcd x y = Int.gcd a b ∧ m = y.toNat) b.toNat ⟨a, b, none, rfl, rfl, ha, hb, rfl, rfl⟩ ?_)
  rintro m G' M' ⟨x, y, z, rfl, rfl, hx, hy, hg, rfl⟩
  refine' wt_P (by walk_at "tp") ⟨fun h => ?_, fun h => ?_⟩
  · have h : 0 < y := of_decide_eq_true h
    walk_at "run"
    have h1 := Int.emod_nonneg x (show y ≠ 0 by omega)
    have h2 := Int.emod_lt_of_pos x h
    exact ⟨(x % y).toNat, by omega, y, x % y, _, rfl, rfl, hy, h1, (gcd_step hx h).trans hg, rfl⟩
  · have h : ¬ 0 < y := of_decide_eq_false h
    walk_at "run"
    have e : y = 0 := by omega
    subst e
    rw [← hg, gcd_zero_r hx] at hk
    exact hk
theorem v_divisor {K : PySem.W.Frag} : Keeps K ["one", "other", "rest"] ["one", "other"] (t_divisor K) (sp_divisor K) := by
  refine ini_divisor ?_
  rintro as M k e ⟨a, b, rfl, ha, hb, hk⟩
  exact ⟨_, _, rfl, fun P0 E hE => gcd_walk (E := E) ha hb hk⟩
/-- share(top, bottom) -/
def sp_share (K : PySem.W.Frag) : SpD := fun as M k e => ∃ t b : Int, as = [.va (.int t), .va (.int b)] ∧ ((t < 0 ∨ b < 1) → e (.ref (ga K "NoShare")) M) ∧ (0 ≤ t → 1 ≤ b → k (.va (shD (shr t b))) M)
/-! share -/
def t_share (K : PySem.W.Frag) (E : XK) : TS :=
  (tSeq (tIfS (tOr (tTest (tOp rLtI (tVar 0) (tC (.int 0)))) (tTest (tOp rLtI (tVar 1) (tC (.int 1)))))
  (tRaiseX (.ref (ga K "NoShare")) E)
  tNext)
  (tSeq (tAsg (tCall (lift K (sp_divisor K)) [] E0 (tCons (tVar 0) (tCons (tVar 1) tNil))) (gName 2))
  (tRet (tTup (tCons (tOp rDivR (tVar 0) (tVar 2)) (tCons (tOp rDivR (tVar 1) (tVar 2)) tNil))))))
set_option maxHeartbeats 4000000 in
theorem p_share {P : Program} {w : World} {K : PySem.W.Frag} {mg : Str → Option Value} {base : Heap} (T : Tx P K mg) (c_divisor : Cal P w K mg base "divisor" 1 (lift K (sp_divisor K))) {f : Addr} {cdv : Value} {A : Around} {outer : List Env} {s : Shared} {H : Hp} {E : XK} (hr : Room 33 (A.deeper (envOfC "share" (defScope s_share) s.heap.objs.size f cdv))) :
    PSs (cxOf (L2.CX P w) P w K mg base ["top", "bottom", "common"] "share" (defScope s_share) f cdv A outer s H E) (defBody s_share) (t_share K E) := by
  have hu1 := hu_of hr
  have hu := hr.units
  have hu65 := hu_65 hr
  exact (pss_cons (ps_if (PW.pt (pw_or (pt_cmpR op_lt (pv 0) pe_int (nomark _)) (pw_or1 (pt_cmpR op_lt (pv 1) pe_int (nomark _)))))
  (pss_one (praise rfl T.e_NoShare (takes_of rfl rfl rfl rfl) (by rfl)))
  pss_nil)
  (pss_cons (ps_set (i := 2) sc_share.nd rfl (by first | exact Or.inl rfl | exact Or.inr rfl) (pcall c_divisor hr (by decide) (by rfl) passL (pa_cons (pv 0) (pa_cons (pv 1) pa_nil))))
  (pss_one (ps_ret (pe_tup (pa_cons (pe_op (op_fdivR T.sys (hr.mono (by decide)) rfl rfl rfl) (pv 0) (pv 2)) (pa_cons (pe_op (op_fdivR T.sys (hr.mono (by decide)) rfl rfl rfl) (pv 1) (pv 2)) pa_nil)))))))
theorem ini_share {K : PySem.W.Frag} {sp : SpD} (h : ∀ as M k e, sp as M k e → ∃ a0 a1, as = [a0, a1] ∧ ∀ P0 E, XL K P0 E e → WS K P0 (t_share K E) [some a0, some a1, none] M (fun _ M' => k (.va .none) M') k (fun _ _ => False) (fun _ _ => False)) : Keeps K ["top", "bottom", "common"] ["top", "bottom"] (t_share K) sp := fun as M k e hs => by
  obtain ⟨a0, a1, rfl, h⟩ := h as M k e hs
  exact ⟨rfl, fun P0 E hE => h P0 E hE⟩
theorem mk_share {P : Program} {w : World} {K : PySem.W.Frag} {mg : Str → Option Value} {base : Heap} (T : Tx P K mg) (c_divisor : Cal P w K mg base "divisor" 1 (lift K (sp_divisor K))) (hv : Keeps K ["top", "bottom", "common"] ["top", "bottom"] (t_share K) (sp_share K)) : Cal P w K mg base "share" 34 (lift K (sp_share K)) :=
  cal_mk T.d_share T.f_share sc_share bt_share (by decide) (fun cdv A outer s H E hr => p_share T c_divisor hr) hv

theorem v_share {K : PySem.W.Frag} : Keeps K ["top", "bottom", "common"] ["top", "bottom"] (t_share K) (sp_share K) := by
  refine ini_share ?_
  rintro as M k e ⟨t, b, rfl, he, hk⟩
  refine ⟨_, _, rfl, fun P0 E hE => ?_⟩
  unfold t_share
  walk_at "run"
  refine' ws_ifP (by walk_at "tp") (fun h => ?_) (fun h => ?_)
  · simp only [Bool.or_eq_true, decide_eq_true_eq] at h
    exact ws_raiseX hE (he h)
  · simp only [Bool.or_eq_false_iff, decide_eq_false_iff_not] at h
    have ht : 0 ≤ t := by omega
    have hb : 1 ≤ b := by omega
    have hg : 0 < (Int.gcd t b : Int) := by
      have : Int.gcd t b ≠ 0 := fun z => by rw [Int.gcd_eq_zero_iff] at z; omega
      omega
    walk_at "run"
    refine ⟨t, b, rfl, ht, by omega, ?_⟩
    walk_at "run"
    refine we_tup ?_
    walk_at "run"
    refine r2_divR hg ?_
    walk_at "run"
    refine r2_divR hg ?_
    walk_at "run"
    refine ⟨[_, _], rfl, by simp, ?_⟩
    rw [← shD_shr (show 0 < b by omega)]
    exact hk ht hb

/-! added, timed -/
theorem cl_share {K : PySem.W.Frag} {t b : Int} {M : Mm} {k : Sv → Mm → Prop} {e : Value → Mm → Prop} (h1 : 0 ≤ t) (h2 : 1 ≤ b) (hk : k (.va (shD (shr t b))) M) : sp_share K [.va (.int t), .va (.int b)] M k e := ⟨t, b, rfl, fun h => by omega, fun _ _ => hk⟩
def sp_added (_ : PySem.W.Frag) : SpD := fun as M k _ => ∃ r s : Rat, as = [.va (shD r), .va (shD s)] ∧ 0 ≤ r ∧ 0 ≤ s ∧ Fit r ∧ Fit s ∧ k (.va (shD (r + s))) M
theorem cl_added {K : PySem.W.Frag} {r s : Rat} {M : Mm} {k : Sv → Mm → Prop} {e : Value → Mm → Prop} (h1 : 0 ≤ r ∧ Fit r) (h2 : 0 ≤ s ∧ Fit s) (hk : k (.va (shD (r + s))) M) : sp_added K [.va (shD r), .va (shD s)] M k e := ⟨r, s, rfl, h1.1, h2.1, h1.2, h2.2, hk⟩
/-! added -/
def t_added (K : PySem.W.Frag) (E : XK) : TS :=
  (tRet (tCall (lift K (sp_share K)) [] E0 (tCons (tOp (rAddA K) (tOp (rMulA K) (tOp (rIx K) (tVar 0) (tC (.int 0))) (tOp (rIx K) (tVar 1) (tC (.int 1)))) (tOp (rMulA K) (tOp (rIx K) (tVar 1) (tC (.int 0))) (tOp (rIx K) (tVar 0) (tC (.int 1))))) (tCons (tOp (rMulA K) (tOp (rIx K) (tVar 0) (tC (.int 1))) (tOp (rIx K) (tVar 1) (tC (.int 1)))) tNil))))
set_option maxHeartbeats 4000000 in
theorem p_added {P : Program} {w : World} {K : PySem.W.Frag} {mg : Str → Option Value} {base : Heap} (T : Tx P K mg) (c_share : Cal P w K mg base "share" 34 (lift K (sp_share K))) {f : Addr} {cdv : Value} {A : Around} {outer : List Env} {s : Shared} {H : Hp} {E : XK} (hr : Room 34 (A.deeper (envOfC "added" (defScope s_added) s.heap.objs.size f cdv))) :
    PSs (cxOf (L2.CX P w) P w K mg base ["one", "other"] "added" (defScope s_added) f cdv A outer s H E) (defBody s_added) (t_added K E) := by
  have hu1 := hu_of hr
  have hu := hr.units
  have hu65 := hu_65 hr
  exact (pss_one (ps_ret (pcall c_share hr (by decide) (by rfl) passL (pa_cons (pe_op op_addA (pe_op op_mulA (pe_ix ix_seq (pv 0) pe_int (fun _ _ => rfl)) (pe_ix ix_seq (pv 1) pe_int (fun _ _ => rfl))) (pe_op op_mulA (pe_ix ix_seq (pv 1) pe_int (fun _ _ => rfl)) (pe_ix ix_seq (pv 0) pe_int (fun _ _ => rfl)))) (pa_cons (pe_op op_mulA (pe_ix ix_seq (pv 0) pe_int (fun _ _ => rfl)) (pe_ix ix_seq (pv 1) pe_int (fun _ _ => rfl))) pa_nil)))))
theorem ini_added {K : PySem.W.Frag} {sp : SpD} (h : ∀ as M k e, sp as M k e → ∃ a0 a1, as = [a0, a1] ∧ ∀ P0 E, XL K P0 E e → WS K P0 (t_added K E) [some a0, some a1] M (fun _ M' => k (.va .none) M') k (fun _ _ => False) (fun _ _ => False)) : Keeps K ["one", "other"] ["one", "other"] (t_added K) sp := fun as M k e hs => by
  obtain ⟨a0, a1, rfl, h⟩ := h as M k e hs
  exact ⟨rfl, fun P0 E hE => h P0 E hE⟩
theorem mk_added {P : Program} {w : World} {K : PySem.W.Frag} {mg : Str → Option Value} {base : Heap} (T : Tx P K mg) (c_share : Cal P w K mg base "share" 34 (lift K (sp_share K))) (hv : Keeps K ["one", "other"] ["one", "other"] (t_added K) (sp_added K)) : Cal P w K mg base "added" 35 (lift K (sp_added K)) :=
  cal_mk T.d_added T.f_added sc_added bt_added (by decide) (fun cdv A outer s H E hr => p_added T c_share hr) hv

theorem v_added {K : PySem.W.Frag} : Keeps K ["one", "other"] ["one", "other"] (t_added K) (sp_added K) := by
  refine ini_added ?_
  rintro as M k e ⟨r, s, rfl, hr, hs, fr, fs, hk⟩
  refine ⟨_, _, rfl, fun P0 E hE => ?_⟩
  unfold t_added
  walk_at "run"
  refine r2_mulI (mul_ok fr.1 fs.2) ?_
  walk_at "run"
  refine r2_mulI (mul_ok fs.1 fr.2) ?_
  walk_at "run"
  refine r2_mulI (mul_ok fr.2 fs.2) ?_
  walk_at "run"
  have h1 := num_nn hr
  have h2 := num_nn hs
  have h3 := den_pos r
  have h4 := den_pos s
  have h5 := Int.mul_nonneg h1 (Int.le_of_lt h4)
  have h6 := Int.mul_nonneg h2 (Int.le_of_lt h3)
  have h7 := Int.mul_pos h3 h4
  refine cl_share (by omega) (by omega) ?_
  rw [shr_add]
  exact hk
def sp_timed (_ : PySem.W.Frag) : SpD := fun as M k _ => ∃ r s : Rat, as = [.va (shD r), .va (shD s)] ∧ 0 ≤ r ∧ 0 ≤ s ∧ Fit r ∧ Fit s ∧ k (.va (shD (r * s))) M
theorem cl_timed {K : PySem.W.Frag} {r s : Rat} {M : Mm} {k : Sv → Mm → Prop} {e : Value → Mm → Prop} (h1 : 0 ≤ r ∧ Fit r) (h2 : 0 ≤ s ∧ Fit s) (hk : k (.va (shD (r * s))) M) : sp_timed K [.va (shD r), .va (shD s)] M k e := ⟨r, s, rfl, h1.1, h2.1, h1.2, h2.2, hk⟩
/-! timed -/
def t_timed (K : PySem.W.Frag) (E : XK) : TS :=
  (tRet (tCall (lift K (sp_share K)) [] E0 (tCons (tOp (rMulA K) (tOp (rIx K) (tVar 0) (tC (.int 0))) (tOp (rIx K) (tVar 1) (tC (.int 0)))) (tCons (tOp (rMulA K) (tOp (rIx K) (tVar 0) (tC (.int 1))) (tOp (rIx K) (tVar 1) (tC (.int 1)))) tNil))))
set_option maxHeartbeats 4000000 in
theorem p_timed {P : Program} {w : World} {K : PySem.W.Frag} {mg : Str → Option Value} {base : Heap} (T : Tx P K mg) (c_share : Cal P w K mg base "share" 34 (lift K (sp_share K))) {f : Addr} {cdv : Value} {A : Around} {outer : List Env} {s : Shared} {H : Hp} {E : XK} (hr : Room 34 (A.deeper (envOfC "timed" (defScope s_timed) s.heap.objs.size f cdv))) :
    PSs (cxOf (L2.CX P w) P w K mg base ["one", "other"] "timed" (defScope s_timed) f cdv A outer s H E) (defBody s_timed) (t_timed K E) := by
  have hu1 := hu_of hr
  have hu := hr.units
  have hu65 := hu_65 hr
  exact (pss_one (ps_ret (pcall c_share hr (by decide) (by rfl) passL (pa_cons (pe_op op_mulA (pe_ix ix_seq (pv 0) pe_int (fun _ _ => rfl)) (pe_ix ix_seq (pv 1) pe_int (fun _ _ => rfl))) (pa_cons (pe_op op_mulA (pe_ix ix_seq (pv 0) pe_int (fun _ _ => rfl)) (pe_ix ix_seq (pv 1) pe_int (fun _ _ => rfl))) pa_nil)))))
theorem ini_timed {K : PySem.W.Frag} {sp : SpD} (h : ∀ as M k e, sp as M k e → ∃ a0 a1, as = [a0, a1] ∧ ∀ P0 E, XL K P0 E e → WS K P0 (t_timed K E) [some a0, some a1] M (fun _ M' => k (.va .none) M') k (fun _ _ => False) (fun _ _ => False)) : Keeps K ["one", "other"] ["one", "other"] (t_timed K) sp := fun as M k e hs => by
  obtain ⟨a0, a1, rfl, h⟩ := h as M k e hs
  exact ⟨rfl, fun P0 E hE => h P0 E hE⟩
theorem mk_timed {P : Program} {w : World} {K : PySem.W.Frag} {mg : Str → Option Value} {base : Heap} (T : Tx P K mg) (c_share : Cal P w K mg base "share" 34 (lift K (sp_share K))) (hv : Keeps K ["one", "other"] ["one", "other"] (t_timed K) (sp_timed K)) : Cal P w K mg base "timed" 35 (lift K (sp_timed K)) :=
  cal_mk T.d_timed T.f_timed sc_timed bt_timed (by decide) (fun cdv A outer s H E hr => p_timed T c_share hr) hv

theorem v_timed {K : PySem.W.Frag} : Keeps K ["one", "other"] ["one", "other"] (t_timed K) (sp_timed K) := by
  refine ini_timed ?_
  rintro as M k e ⟨r, s, rfl, hr, hs, fr, fs, hk⟩
  refine ⟨_, _, rfl, fun P0 E hE => ?_⟩
  unfold t_timed
  walk_at "run"
  refine r2_mulI (mul_ok fr.1 fs.1) ?_
  walk_at "run"
  refine r2_mulI (mul_ok fr.2 fs.2) ?_
  walk_at "run"
  have h5 := Int.mul_nonneg (num_nn hr) (num_nn hs)
  have h7 := Int.mul_pos (den_pos r) (den_pos s)
  refine cl_share (by omega) (by omega) ?_
  rw [shr_mul]
  exact hk

/-! lessened, parted -/
def sp_lessened (K : PySem.W.Frag) : SpD := fun as M k e => ∃ r s : Rat, as = [.va (shD r), .va (shD s)] ∧ Fit r ∧ Fit s ∧ (r < s → e (.ref (ga K "NoShare")) M) ∧ (s ≤ r → k (.va (shD (r - s))) M)
/-! lessened -/
def t_lessened (K : PySem.W.Frag) (E : XK) : TS :=
  (tRet (tCall (lift K (sp_share K)) [] E (tCons (tOp rSubI (tOp (rMulA K) (tOp (rIx K) (tVar 0) (tC (.int 0))) (tOp (rIx K) (tVar 1) (tC (.int 1)))) (tOp (rMulA K) (tOp (rIx K) (tVar 1) (tC (.int 0))) (tOp (rIx K) (tVar 0) (tC (.int 1))))) (tCons (tOp (rMulA K) (tOp (rIx K) (tVar 0) (tC (.int 1))) (tOp (rIx K) (tVar 1) (tC (.int 1)))) tNil))))
set_option maxHeartbeats 4000000 in
theorem p_lessened {P : Program} {w : World} {K : PySem.W.Frag} {mg : Str → Option Value} {base : Heap} (T : Tx P K mg) (c_share : Cal P w K mg base "share" 34 (lift K (sp_share K))) {f : Addr} {cdv : Value} {A : Around} {outer : List Env} {s : Shared} {H : Hp} {E : XK} (hr : Room 34 (A.deeper (envOfC "lessened" (defScope s_lessened) s.heap.objs.size f cdv))) :
    PSs (cxOf (L2.CX P w) P w K mg base ["one", "other"] "lessened" (defScope s_lessened) f cdv A outer s H E) (defBody s_lessened) (t_lessened K E) := by
  have hu1 := hu_of hr
  have hu := hr.units
  have hu65 := hu_65 hr
  exact (pss_one (ps_ret (pcall c_share hr (by decide) (by rfl) (passes_call (takes_of rfl rfl rfl rfl) fun _ _ _ _ z => z) (pa_cons (pe_op op_sub (pe_op op_mulA (pe_ix ix_seq (pv 0) pe_int (fun _ _ => rfl)) (pe_ix ix_seq (pv 1) pe_int (fun _ _ => rfl))) (pe_op op_mulA (pe_ix ix_seq (pv 1) pe_int (fun _ _ => rfl)) (pe_ix ix_seq (pv 0) pe_int (fun _ _ => rfl)))) (pa_cons (pe_op op_mulA (pe_ix ix_seq (pv 0) pe_int (fun _ _ => rfl)) (pe_ix ix_seq (pv 1) pe_int (fun _ _ => rfl))) pa_nil)))))
theorem ini_lessened {K : PySem.W.Frag} {sp : SpD} (h : ∀ as M k e, sp as M k e → ∃ a0 a1, as = [a0, a1] ∧ ∀ P0 E, XL K P0 E e → WS K P0 (t_lessened K E) [some a0, some a1] M (fun _ M' => k (.va .none) M') k (fun _ _ => False) (fun _ _ => False)) : Keeps K ["one", "other"] ["one", "other"] (t_lessened K) sp := fun as M k e hs => by
  obtain ⟨a0, a1, rfl, h⟩ := h as M k e hs
  exact ⟨rfl, fun P0 E hE => h P0 E hE⟩
theorem mk_lessened {P : Program} {w : World} {K : PySem.W.Frag} {mg : Str → Option Value} {base : Heap} (T : Tx P K mg) (c_share : Cal P w K mg base "share" 34 (lift K (sp_share K))) (hv : Keeps K ["one", "other"] ["one", "other"] (t_lessened K) (sp_lessened K)) : Cal P w K mg base "lessened" 35 (lift K (sp_lessened K)) :=
  cal_mk T.d_lessened T.f_lessened sc_lessened bt_lessened (by decide) (fun cdv A outer s H E hr => p_lessened T c_share hr) hv

theorem v_lessened {K : PySem.W.Frag} : Keeps K ["one", "other"] ["one", "other"] (t_lessened K) (sp_lessened K) := by
  refine ini_lessened ?_
  rintro as M k e ⟨r, s, rfl, fr, fs, he, hk⟩
  refine ⟨_, _, rfl, fun P0 E hE => ?_⟩
  unfold t_lessened
  refine ws_ret (we_call hE ?_)
  walk_at "run"
  refine r2_mulI (mul_ok fr.1 fs.2) ?_
  walk_at "run"
  refine r2_mulI (mul_ok fs.1 fr.2) ?_
  walk_at "run"
  refine r2_mulI (mul_ok fr.2 fs.2) ?_
  walk_at "run"
  have h7 := Int.mul_pos (den_pos r) (den_pos s)
  refine ⟨_, _, rfl, fun h => he ?_, fun h1 h2 => ?_⟩
  · rw [← lt_cross]
    omega
  · rw [shr_sub]
    refine hk ?_
    rw [← Rat.not_lt, ← lt_cross]
    omega
theorem cl_lessened {K : PySem.W.Frag} {r s : Rat} {M : Mm} {k : Sv → Mm → Prop} {e : Value → Mm → Prop} (h1 : Fit r) (h2 : Fit s) (h : s ≤ r) (hk : k (.va (shD (r - s))) M) : sp_lessened K [.va (shD r), .va (shD s)] M k e := ⟨r, s, rfl, h1, h2, fun z => absurd h (Rat.not_le.mpr z), fun _ => hk⟩
def sp_parted (K : PySem.W.Frag) : SpD := fun as M k e => ∃ r s : Rat, as = [.va (shD r), .va (shD s)] ∧ 0 ≤ r ∧ 0 ≤ s ∧ Fit r ∧ Fit s ∧ (s = 0 → e (.ref (ga K "NoShare")) M) ∧ (0 < s → k (.va (shD (r / s))) M)
/-! parted -/
def t_parted (K : PySem.W.Frag) (E : XK) : TS :=
  (tSeq (tIfS (tTest (tOp (rEqD K) (tOp (rIx K) (tVar 1) (tC (.int 0))) (tC (.int 0))))
  (tRaiseX (.ref (ga K "NoShare")) E)
  tNext)
  (tRet (tCall (lift K (sp_share K)) [] E0 (tCons (tOp (rMulA K) (tOp (rIx K) (tVar 0) (tC (.int 0))) (tOp (rIx K) (tVar 1) (tC (.int 1)))) (tCons (tOp (rMulA K) (tOp (rIx K) (tVar 0) (tC (.int 1))) (tOp (rIx K) (tVar 1) (tC (.int 0)))) tNil)))))
set_option maxHeartbeats 4000000 in
theorem p_parted {P : Program} {w : World} {K : PySem.W.Frag} {mg : Str → Option Value} {base : Heap} (T : Tx P K mg) (c_share : Cal P w K mg base "share" 34 (lift K (sp_share K))) {f : Addr} {cdv : Value} {A : Around} {outer : List Env} {s : Shared} {H : Hp} {E : XK} (hr : Room 34 (A.deeper (envOfC "parted" (defScope s_parted) s.heap.objs.size f cdv))) :
    PSs (cxOf (L2.CX P w) P w K mg base ["one", "other"] "parted" (defScope s_parted) f cdv A outer s H E) (defBody s_parted) (t_parted K E) := by
  have hu1 := hu_of hr
  have hu := hr.units
  have hu65 := hu_65 hr
  exact (pss_cons (ps_if (pt_cmpR (op_eqD hu) (pe_ix ix_seq (pv 1) pe_int (fun _ _ => rfl)) pe_int (nomark _))
  (pss_one (praise rfl T.e_NoShare (takes_of rfl rfl rfl rfl) (by rfl)))
  pss_nil)
  (pss_one (ps_ret (pcall c_share hr (by decide) (by rfl) passL (pa_cons (pe_op op_mulA (pe_ix ix_seq (pv 0) pe_int (fun _ _ => rfl)) (pe_ix ix_seq (pv 1) pe_int (fun _ _ => rfl))) (pa_cons (pe_op op_mulA (pe_ix ix_seq (pv 0) pe_int (fun _ _ => rfl)) (pe_ix ix_seq (pv 1) pe_int (fun _ _ => rfl))) pa_nil))))))
theorem ini_parted {K : PySem.W.Frag} {sp : SpD} (h : ∀ as M k e, sp as M k e → ∃ a0 a1, as = [a0, a1] ∧ ∀ P0 E, XL K P0 E e → WS K P0 (t_parted K E) [some a0, some a1] M (fun _ M' => k (.va .none) M') k (fun _ _ => False) (fun _ _ => False)) : Keeps K ["one", "other"] ["one", "other"] (t_parted K) sp := fun as M k e hs => by
  obtain ⟨a0, a1, rfl, h⟩ := h as M k e hs
  exact ⟨rfl, fun P0 E hE => h P0 E hE⟩
theorem mk_parted {P : Program} {w : World} {K : PySem.W.Frag} {mg : Str → Option Value} {base : Heap} (T : Tx P K mg) (c_share : Cal P w K mg base "share" 34 (lift K (sp_share K))) (hv : Keeps K ["one", "other"] ["one", "other"] (t_parted K) (sp_parted K)) : Cal P w K mg base "parted" 35 (lift K (sp_parted K)) :=
  cal_mk T.d_parted T.f_parted sc_parted bt_parted (by decide) (fun cdv A outer s H E hr => p_parted T c_share hr) hv

theorem v_parted {K : PySem.W.Frag} : Keeps K ["one", "other"] ["one", "other"] (t_parted K) (sp_parted K) := by
  refine ini_parted ?_
  rintro as M k e ⟨r, s, rfl, hr, hs, fr, fs, he, hk⟩
  refine ⟨_, _, rfl, fun P0 E hE => ?_⟩
  unfold t_parted
  walk_at "run"
  refine' ws_ifP (by walk_at "tp") (fun h => ?_) (fun h => ?_)
  · rw [eqv_int2] at h
    have h : s.num = 0 := of_decide_eq_true h
    exact ws_raiseX hE (he (Rat.num_eq_zero.mp h))
  rw [eqv_int2] at h
  have h0 : s.num ≠ 0 := of_decide_eq_false h
  have h1 := num_nn hs
  have hp : 0 < s := by
    refine Rat.lt_of_le_of_ne hs fun z => h0 ?_
    rw [← z] <;> rfl
  walk_at "run"
  refine r2_mulI (mul_ok fr.1 fs.2) ?_
  walk_at "run"
  refine r2_mulI (mul_ok fr.2 fs.1) ?_
  walk_at "run"
  have h5 := Int.mul_nonneg (num_nn hr) (Int.le_of_lt (den_pos s))
  have h7 := Int.mul_pos (den_pos r) (num_pos_of hp)
  refine cl_share (by omega) (by omega) ?_
  rw [shr_div _ _ hp]
  exact hk hp
theorem cl_parted {K : PySem.W.Frag} {r s : Rat} {M : Mm} {k : Sv → Mm → Prop} {e : Value → Mm → Prop} (h1 : 0 ≤ r ∧ Fit r) (h2 : Fit s) (h : 0 < s) (hk : k (.va (shD (r / s))) M) : sp_parted K [.va (shD r), .va (shD s)] M k e := ⟨r, s, rfl, h1.1, Rat.le_of_lt h, h1.2, h2, fun z => absurd (z ▸ h) (by decide), fun _ => hk⟩

/-! is_less -/
def sp_is_less (_ : PySem.W.Frag) : SpD := fun as M k _ => ∃ r s : Rat, as = [.va (shD r), .va (shD s)] ∧ Fit r ∧ Fit s ∧ k (.va (.bool (decide (r < s)))) M
/-! is_less -/
def t_is_less (K : PySem.W.Frag) (E : XK) : TS :=
  (tRet (tOp rLtI (tOp (rMulA K) (tOp (rIx K) (tVar 0) (tC (.int 0))) (tOp (rIx K) (tVar 1) (tC (.int 1)))) (tOp (rMulA K) (tOp (rIx K) (tVar 1) (tC (.int 0))) (tOp (rIx K) (tVar 0) (tC (.int 1))))))
set_option maxHeartbeats 4000000 in
theorem p_is_less {P : Program} {w : World} {K : PySem.W.Frag} {mg : Str → Option Value} {base : Heap} (T : Tx P K mg) {f : Addr} {cdv : Value} {A : Around} {outer : List Env} {s : Shared} {H : Hp} {E : XK} (hr : Room 0 (A.deeper (envOfC "is_less" (defScope s_is_less) s.heap.objs.size f cdv))) :
    PSs (cxOf (L2.CX P w) P w K mg base ["one", "other"] "is_less" (defScope s_is_less) f cdv A outer s H E) (defBody s_is_less) (t_is_less K E) := by
  have hu1 := hu_of hr
  have hu := hr.units
  have hu65 := hu_65 hr
  exact (pss_one (ps_ret (pe_cmpR op_lt (pe_op op_mulA (pe_ix ix_seq (pv 0) pe_int (fun _ _ => rfl)) (pe_ix ix_seq (pv 1) pe_int (fun _ _ => rfl))) (pe_op op_mulA (pe_ix ix_seq (pv 1) pe_int (fun _ _ => rfl)) (pe_ix ix_seq (pv 0) pe_int (fun _ _ => rfl))) (nomark _))))
theorem ini_is_less {K : PySem.W.Frag} {sp : SpD} (h : ∀ as M k e, sp as M k e → ∃ a0 a1, as = [a0, a1] ∧ ∀ P0 E, XL K P0 E e → WS K P0 (t_is_less K E) [some a0, some a1] M (fun _ M' => k (.va .none) M') k (fun _ _ => False) (fun _ _ => False)) : Keeps K ["one", "other"] ["one", "other"] (t_is_less K) sp := fun as M k e hs => by
  obtain ⟨a0, a1, rfl, h⟩ := h as M k e hs
  exact ⟨rfl, fun P0 E hE => h P0 E hE⟩
theorem mk_is_less {P : Program} {w : World} {K : PySem.W.Frag} {mg : Str → Option Value} {base : Heap} (T : Tx P K mg) (hv : Keeps K ["one", "other"] ["one", "other"] (t_is_less K) (sp_is_less K)) : Cal P w K mg base "is_less" 1 (lift K (sp_is_less K)) :=
  cal_mk T.d_is_less T.f_is_less sc_is_less bt_is_less (by decide) (fun cdv A outer s H E hr => p_is_less T  hr) hv

theorem v_is_less {K : PySem.W.Frag} : Keeps K ["one", "other"] ["one", "other"] (t_is_less K) (sp_is_less K) := by
  refine ini_is_less ?_
  rintro as M k e ⟨r, s, rfl, fr, fs, hk⟩
  refine ⟨_, _, rfl, fun P0 E hE => ?_⟩
  unfold t_is_less
  walk_at "run"
  refine r2_mulI (mul_ok fr.1 fs.2) ?_
  walk_at "run"
  refine r2_mulI (mul_ok fs.1 fr.2) ?_
  walk_at "run"
  rw [show decide (r.num * (s.den : Int) < s.num * (r.den : Int)) = decide (r < s) from decide_eq_decide.mpr (lt_cross r s)]
  exact hk
theorem cl_is_less {K : PySem.W.Frag} {r s : Rat} {M : Mm} {k : Sv → Mm → Prop} {e : Value → Mm → Prop} (h1 : Fit r) (h2 : Fit s) (hk : k (.va (.bool (decide (r < s)))) M) : sp_is_less K [.va (shD r), .va (shD s)] M k e := ⟨r, s, rfl, h1, h2, hk⟩

/-! put_in, left_alone, solved -/
def sp_put_in (_ : PySem.W.Frag) : SpD := fun as M k _ => ∃ (n at_ : Nat) (w u : Nat → Rat) (v c : Rat) (a p q : Addr), as = [.rf (.ref a), .va (shD v), .rf (.ref q), .va (.int (at_ : Int))] ∧ at_ < n ∧ n ≤ 1000 ∧
  M a = some (.lst ((rowD n w).map Sv.va)) ∧ M q = some (.tup [.rf (.ref p), .va (shD c)]) ∧ M p = some (.lst ((rowD n u).map Sv.va)) ∧ a ≠ p ∧
  (∀ j, j < n → Ok1 (w j)) ∧ (∀ j, j < n → 0 ≤ u j ∧ Bt 20000000 (u j)) ∧ Ok1 v ∧ (0 ≤ c ∧ Bt 20000000 c) ∧
  k (.va (shD (v + w at_ * c))) (mup M a (.lst ((rowD n fun j => (if j = at_ then 0 else w j) + w at_ * u j).map Sv.va)))
theorem ok_fit {r : Rat} (h : Ok1 r) : 0 ≤ r ∧ Fit r := ⟨h.1, h.2.fit (by decide)⟩
theorem ok0 : Ok1 0 := ⟨nn0, bt0.mono (by decide)⟩
theorem ok1 : Ok1 1 := ⟨nn1, bt1.mono (by decide)⟩
/-! put_in -/
def t_put_in (K : PySem.W.Frag) (E : XK) : TS :=
  (tSeq (tAsg (tOp (rIx K) (tVar 0) (tVar 3)) (gName 4))
  (tSeq (tIfS (tTest (tOp (rEqD K) (tVar 4) (tC (.ref (ga K "NONE")))))
  (tRet (tVar 1))
  tNext)
  (tSeq (tAsg (tC (.ref (ga K "NONE"))) (gSub (tVar 0) (tVar 3) rSetL))
  (tSeq (tFor (iRng1 (tCons (tCB (rLenC K) (tCons (tVar 0) tNil)) tNil)) (gName 5)
  (tAsg (tCall (lift K (sp_added K)) [] E0 (tCons (tOp (rIx K) (tVar 0) (tVar 5)) (tCons (tCall (lift K (sp_timed K)) [] E0 (tCons (tVar 4) (tCons (tOp (rIx K) (tOp (rIx K) (tVar 2) (tC (.int 0))) (tVar 5)) tNil))) tNil))) (gSub (tVar 0) (tVar 5) rSetL)))
  (tRet (tCall (lift K (sp_added K)) [] E0 (tCons (tVar 1) (tCons (tCall (lift K (sp_timed K)) [] E0 (tCons (tVar 4) (tCons (tOp (rIx K) (tVar 2) (tC (.int 1))) tNil))) tNil))))))))
set_option maxHeartbeats 4000000 in
theorem p_put_in {P : Program} {w : World} {K : PySem.W.Frag} {mg : Str → Option Value} {base : Heap} (T : Tx P K mg) (c_added : Cal P w K mg base "added" 35 (lift K (sp_added K))) (c_timed : Cal P w K mg base "timed" 35 (lift K (sp_timed K))) {f : Addr} {cdv : Value} {A : Around} {outer : List Env} {s : Shared} {H : Hp} {E : XK} (hr : Room 35 (A.deeper (envOfC "put_in" (defScope s_put_in) s.heap.objs.size f cdv))) :
    PSs (cxOf (L2.CX P w) P w K mg base ["row", "end", "own", "at", "factor", "k"] "put_in" (defScope s_put_in) f cdv A outer s H E) (defBody s_put_in) (t_put_in K E) := by
  have hu1 := hu_of hr
  have hu := hr.units
  have hu65 := hu_65 hr
  exact (pss_cons (ps_set (i := 4) sc_put_in.nd rfl (by first | exact Or.inl rfl | exact Or.inr rfl) (pe_ix ix_seq (pv 0) (pv 3) (fun _ _ => rfl)))
  (pss_cons (ps_if (pt_cmpR (op_eqD hu) (pv 4) (pgref T.c_NONE (by rfl)) (nomark _))
  (pss_one (ps_ret (pv 1)))
  pss_nil)
  (pss_cons (ps_asg (pgref T.c_NONE (by rfl)) (pg_sub (pv 0) (pv 3) set_list))
  (pss_cons (ps_for (passes_of rfl) rfl (pi_range1 rfl T.z_range (pa_cons (pe_callB call_len (by rfl) T.z_len (by decide +kernel) (pa_cons (pv 0) pa_nil)) pa_nil)) (pg_name (i := 5) sc_put_in.nd rfl (by first | exact Or.inl rfl | exact Or.inr rfl))
  (pss_one (ps_asg (pcall c_added hr (by decide) (by rfl) passL (pa_cons (pe_ix ix_seq (pv 0) (pv 5) (fun _ _ => rfl)) (pa_cons (pcall c_timed hr (by decide) (by rfl) passL (pa_cons (pv 4) (pa_cons (pe_ix ix_seq (pe_ix ix_seq (pv 2) pe_int (fun _ _ => rfl)) (pv 5) (fun _ _ => rfl)) pa_nil))) pa_nil))) (pg_sub (pv 0) (pv 5) set_list))))
  (pss_one (ps_ret (pcall c_added hr (by decide) (by rfl) passL (pa_cons (pv 1) (pa_cons (pcall c_timed hr (by decide) (by rfl) passL (pa_cons (pv 4) (pa_cons (pe_ix ix_seq (pv 2) pe_int (fun _ _ => rfl)) pa_nil))) pa_nil)))))))))
theorem ini_put_in {K : PySem.W.Frag} {sp : SpD} (h : ∀ as M k e, sp as M k e → ∃ a0 a1 a2 a3, as = [a0, a1, a2, a3] ∧ ∀ P0 E, XL K P0 E e → WS K P0 (t_put_in K E) [some a0, some a1, some a2, some a3, none, none] M (fun _ M' => k (.va .none) M') k (fun _ _ => False) (fun _ _ => False)) : Keeps K ["row", "end", "own", "at", "factor", "k"] ["row", "end", "own", "at"] (t_put_in K) sp := fun as M k e hs => by
  obtain ⟨a0, a1, a2, a3, rfl, h⟩ := h as M k e hs
  exact ⟨rfl, fun P0 E hE => h P0 E hE⟩
theorem mk_put_in {P : Program} {w : World} {K : PySem.W.Frag} {mg : Str → Option Value} {base : Heap} (T : Tx P K mg) (c_added : Cal P w K mg base "added" 35 (lift K (sp_added K))) (c_timed : Cal P w K mg base "timed" 35 (lift K (sp_timed K))) (hv : Keeps K ["row", "end", "own", "at", "factor", "k"] ["row", "end", "own", "at"] (t_put_in K) (sp_put_in K)) : Cal P w K mg base "put_in" 36 (lift K (sp_put_in K)) :=
  cal_mk T.d_put_in T.f_put_in sc_put_in bt_put_in (by decide) (fun cdv A outer s H E hr => p_put_in T c_added c_timed hr) hv

theorem v_put_in {P : Program} {K : PySem.W.Frag} {mg : Str → Option Value} (T : Tx P K mg) : Keeps K ["row", "end", "own", "at", "factor", "k"] ["row", "end", "own", "at"] (t_put_in K) (sp_put_in K) := by
  refine ini_put_in ?_
  rintro as M k e ⟨n, at_, w, u, v, c, a, p, q, rfl, hat, hn, ha, hq, hp, hap, hw, hu, hv, hc, hk⟩
  refine ⟨_, _, _, _, rfl, fun P0 E hE => ?_⟩
  have hNONE := T.v_NONE
  have haq : a ≠ q := fun z => by rw [z, hq] at ha; cases ha
  have hfac := hw at_ hat
  unfold t_put_in
  walk_at "run"
  refine r2_ixRow (RL.ow ha) hat ?_
  walk_at "run"
  refine' ws_ifP (tp_test (b := decide (w at_ = 0)) ?_) (fun h => ?_) (fun h => ?_)
  · unfold EP1
    walk_at "run"
    rw [eqv_shD]
    exact ⟨rfl, rfl⟩
  · have h : w at_ = 0 := of_decide_eq_true h
    walk_at "run"
    have e1 : v + w at_ * c = v := by rw [h]; grind
    have e2 : (rowD n fun j => (if j = at_ then 0 else w j) + w at_ * u j) = rowD n w := rowD_congr fun j _ => by
      rw [h]
      split
      · rename_i e; rw [e, h]; grind
      · grind
    rw [e1, e2, mup_id ha] at hk
    exact hk
  clear h
  walk_at "run"
  refine ws_asgG (we_sh0 T.v_NONE (wg_subL ?_))
  walk_at "run"
  refine ⟨a, _, _, at_, rfl, rfl, ha, ixN_row hat, ?_⟩
  rw [rowS_set]
  walk_at "run"
  refine ws_for (wi_rng1 ?_)
  walk_at "run"
  refine rc_lenRow (RL.ow mup_same) ?_
  walk_at "run"
  refine ⟨_, rfl, by omega, by omega, ?_⟩
  rw [Int.toNat_natCast]
  refine ⟨fun i G' M' => (∃ z, G' = [some (.rf (.ref a)), some (.va (shD v)), some (.rf (.ref q)), some (.va (.int (at_ : Int))), some (.va (shD (w at_))), z]) ∧
    M' = mup M a (.lst ((rowD n fun j => (if j = at_ then 0 else w j) + if j < i then w at_ * u j else 0).map Sv.va)), ⟨⟨_, rfl⟩, ?_⟩, fun _ _ _ _ _ => trivial, ?_, ?_⟩
  · have : (rowD n fun i => if i = at_ then 0 else w i) = rowD n fun j => (if j = at_ then 0 else w j) + if j < 0 then w at_ * u j else 0 := rowD_congr fun j _ => by
      rw [if_neg (Nat.not_lt_zero j)]; grind
    rw [this]
  · rintro i G' M' hi ⟨⟨z, rfl⟩, rfl⟩
    refine wg_name ?_
    refine ws_asgG ?_
    walk_at "run"
    refine r2_ixRow (RL.ow mup_same) hi ?_
    walk_at "run"
    refine r2_ixTO (t := .rf (.ref p)) (by rw [mup_ne (Ne.symm haq)]; exact hq) rfl ?_
    walk_at "run"
    refine r2_ixRow (RL.ow (by rw [mup_ne (Ne.symm hap)]; exact hp)) hi ?_
    walk_at "run"
    have hui := hu i hi
    refine cl_timed (ok_fit hfac) ⟨hui.1, hui.2.fit (by decide)⟩ ?_
    walk_at "run"
    have hpr : 0 ≤ w at_ * u i ∧ Fit (w at_ * u i) := ⟨Rat.mul_nonneg hfac.1 hui.1, (hfac.2.mul hui.2).fit (by decide)⟩
    have h0 : Ok1 (if i = at_ then 0 else w i) := by
      split
      · exact ok0
      · exact hw i hi
    refine cl_added ?_ hpr (wg_subL ?_)
    · rw [if_neg (Nat.lt_irrefl i)]
      have e : (if i = at_ then 0 else w i) + (0 : Rat) = if i = at_ then 0 else w i := by grind
      rw [e]
      exact ok_fit h0
    walk_at "run"
    refine ⟨a, _, _, i, rfl, rfl, mup_same, ixN_row hi, ?_⟩
    rw [rowS_set, mup_mup]
    refine ⟨⟨_, rfl⟩, ?_⟩
    congr 3
    refine rowD_congr fun j _ => ?_
    by_cases e : j = i
    · subst e
      rw [if_pos rfl, if_neg (Nat.lt_irrefl j), if_pos (Nat.lt_succ_self j)]
      grind
    · rw [if_neg e]
      by_cases e2 : j < i
      · rw [if_pos e2, if_pos (Nat.lt_succ_of_lt e2)]
      · rw [if_neg e2, if_neg (show ¬ j < i + 1 by omega)]
  · rintro G' M' ⟨⟨z, rfl⟩, rfl⟩
    walk_at "run"
    refine r2_ixTO (t := .va (shD c)) (by rw [mup_ne (Ne.symm haq)]; exact hq) rfl ?_
    walk_at "run"
    refine cl_timed (ok_fit hfac) ⟨hc.1, hc.2.fit (by decide)⟩ ?_
    walk_at "run"
    refine cl_added (ok_fit hv) ⟨Rat.mul_nonneg hfac.1 hc.1, (hfac.2.mul hc.2).fit (by decide)⟩ ?_
    have e2 : (rowD n fun j => (if j = at_ then 0 else w j) + if j < n then w at_ * u j else 0) = rowD n fun j => (if j = at_ then 0 else w j) + w at_ * u j := rowD_congr fun j hj => by rw [if_pos hj]
    rw [e2]
    exact hk
def sp_left_alone (K : PySem.W.Frag) : SpD := fun as M k e => ∃ (n at_ : Nat) (w : Nat → Rat) (v : Rat) (a : Addr), as = [.rf (.ref a), .va (shD v), .va (.int (at_ : Int))] ∧ at_ < n ∧ n ≤ 1000 ∧ M a = some (.lst ((rowD n w).map Sv.va)) ∧
  (∀ j, j < n → Ok1 (w j)) ∧ Ok1 v ∧ (1 ≤ w at_ → e (.ref (ga K "NoEnd")) M) ∧
  (w at_ < 1 → ∀ (M' : Mm) (p q : Addr), Mex (fun b => b = a) M M' → M p = none → M q = none → p ≠ q → M' p = some (.lst ((rowD n (ownW w at_)).map Sv.va)) → M' q = some (.tup [.rf (.ref p), .va (shD (v / (1 - w at_)))]) → k (.rf (.ref q)) M')
/-! left_alone -/
def t_left_alone (K : PySem.W.Frag) (E : XK) : TS :=
  (tSeq (tIfS (tNot (tB (tCall (lift K (sp_is_less K)) [] E0 (tCons (tOp (rIx K) (tVar 0) (tVar 2)) (tCons (tC (.ref (ga K "ALL"))) tNil)))))
  (tRaiseX (.ref (ga K "NoEnd")) E)
  tNext)
  (tSeq (tAsg (tCall (lift K (sp_lessened K)) [] E0 (tCons (tC (.ref (ga K "ALL"))) (tCons (tOp (rIx K) (tVar 0) (tVar 2)) tNil))) (gName 3))
  (tSeq (tAsg (tC (.ref (ga K "NONE"))) (gSub (tVar 0) (tVar 2) rSetL))
  (tRet (tTup (tCons (tLc (iSeq K (tVar 0)) (gName 4) tYes (tCall (lift K (sp_parted K)) [] E0 (tCons (tVar 4) (tCons (tVar 3) tNil))) [4]) (tCons (tCall (lift K (sp_parted K)) [] E0 (tCons (tVar 1) (tCons (tVar 3) tNil))) tNil)))))))
set_option maxHeartbeats 4000000 in
theorem p_left_alone {P : Program} {w : World} {K : PySem.W.Frag} {mg : Str → Option Value} {base : Heap} (T : Tx P K mg) (c_parted : Cal P w K mg base "parted" 35 (lift K (sp_parted K))) (c_lessened : Cal P w K mg base "lessened" 35 (lift K (sp_lessened K))) (c_is_less : Cal P w K mg base "is_less" 1 (lift K (sp_is_less K))) {f : Addr} {cdv : Value} {A : Around} {outer : List Env} {s : Shared} {H : Hp} {E : XK} (hr : Room 35 (A.deeper (envOfC "left_alone" (defScope s_left_alone) s.heap.objs.size f cdv))) :
    PSs (cxOf (L2.CX P w) P w K mg base ["row", "end", "at", "rest", "way"] "left_alone" (defScope s_left_alone) f cdv A outer s H E) (defBody s_left_alone) (t_left_alone K E) := by
  have hu1 := hu_of hr
  have hu := hr.units
  have hu65 := hu_65 hr
  exact (pss_cons (ps_if (pt_not (pt_val (pcall c_is_less hr (by decide) (by rfl) passL (pa_cons (pe_ix ix_seq (pv 0) (pv 2) (fun _ _ => rfl)) (pa_cons (pgref T.c_ALL (by rfl)) pa_nil)))))
  (pss_one (praise rfl T.e_NoEnd (takes_of rfl rfl rfl rfl) (by rfl)))
  pss_nil)
  (pss_cons (ps_set (i := 3) sc_left_alone.nd rfl (by first | exact Or.inl rfl | exact Or.inr rfl) (pcall c_lessened hr (by decide) (by rfl) passL (pa_cons (pgref T.c_ALL (by rfl)) (pa_cons (pe_ix ix_seq (pv 0) (pv 2) (fun _ _ => rfl)) pa_nil))))
  (pss_cons (ps_asg (pgref T.c_NONE (by rfl)) (pg_sub (pv 0) (pv 2) set_list))
  (pss_one (ps_ret (pe_tup (pa_cons (pe_lc (own := [("way", 4)]) (g := (gName 4)) (tt := tYes) (te := (tCall (lift K (sp_parted K)) [] E0 (tCons (tVar 4) (tCons (tVar 3) tNil)))) rfl sc_left_alone.nd (pi_seq (pv 0)) (blkOk_by (by first | decide +kernel | rfl)) (fun _ _ _ _ _ => (pg_name (i := 4) sc_left_alone.nd rfl (by first | exact Or.inl rfl | exact Or.inr rfl))) (fun _ _ _ _ _ => pts_nil) (fun _ _ _ _ _ => (pcall c_parted hr (by decide) (by rfl) passL (pa_cons (pv 4) (pa_cons (pv 3) pa_nil))))) (pa_cons (pcall c_parted hr (by decide) (by rfl) passL (pa_cons (pv 1) (pa_cons (pv 3) pa_nil))) pa_nil))))))))
theorem ini_left_alone {K : PySem.W.Frag} {sp : SpD} (h : ∀ as M k e, sp as M k e → ∃ a0 a1 a2, as = [a0, a1, a2] ∧ ∀ P0 E, XL K P0 E e → WS K P0 (t_left_alone K E) [some a0, some a1, some a2, none, none] M (fun _ M' => k (.va .none) M') k (fun _ _ => False) (fun _ _ => False)) : Keeps K ["row", "end", "at", "rest", "way"] ["row", "end", "at"] (t_left_alone K) sp := fun as M k e hs => by
  obtain ⟨a0, a1, a2, rfl, h⟩ := h as M k e hs
  exact ⟨rfl, fun P0 E hE => h P0 E hE⟩
theorem mk_left_alone {P : Program} {w : World} {K : PySem.W.Frag} {mg : Str → Option Value} {base : Heap} (T : Tx P K mg) (c_parted : Cal P w K mg base "parted" 35 (lift K (sp_parted K))) (c_lessened : Cal P w K mg base "lessened" 35 (lift K (sp_lessened K))) (c_is_less : Cal P w K mg base "is_less" 1 (lift K (sp_is_less K))) (hv : Keeps K ["row", "end", "at", "rest", "way"] ["row", "end", "at"] (t_left_alone K) (sp_left_alone K)) : Cal P w K mg base "left_alone" 36 (lift K (sp_left_alone K)) :=
  cal_mk T.d_left_alone T.f_left_alone sc_left_alone bt_left_alone (by decide) (fun cdv A outer s H E hr => p_left_alone T c_parted c_lessened c_is_less hr) hv

theorem v_left_alone {P : Program} {K : PySem.W.Frag} {mg : Str → Option Value} (T : Tx P K mg) : Keeps K ["row", "end", "at", "rest", "way"] ["row", "end", "at"] (t_left_alone K) (sp_left_alone K) := by
  refine ini_left_alone ?_
  rintro as M k e ⟨n, at_, w, v, a, rfl, hat, hn, ha, hw, hv, he, hk⟩
  refine ⟨_, _, _, rfl, fun P0 E hE => ?_⟩
  have hNONE := T.v_NONE
  have hALL := T.v_ALL
  have hwa := hw at_ hat
  unfold t_left_alone
  walk_at "run"
  refine' ws_ifP (tp_not (tp_B (b := decide (w at_ < 1)) ?_)) (fun h => ?_) (fun h => ?_)
  · unfold EP1
    walk_at "run"
    refine r2_ixRow (RL.ow ha) hat ?_
    walk_at "run"
    exact cl_is_less (ok_fit hwa).2 fit1 ⟨rfl, rfl⟩
  · simp only [Bool.not_eq_true', decide_eq_false_iff_not] at h
    exact ws_raiseX hE (he (Rat.not_lt.mp h))
  simp only [Bool.not_eq_false', decide_eq_true_eq] at h
  obtain ⟨h1, h2⟩ := hwa.rest h
  walk_at "run"
  refine r2_ixRow (RL.ow ha) hat ?_
  walk_at "run"
  refine cl_lessened fit1 (ok_fit hwa).2 (Rat.le_of_lt h) ?_
  walk_at "run"
  refine ws_asgG ?_
  walk_at "run"
  refine wg_subL ?_
  walk_at "run"
  refine ⟨a, _, _, at_, rfl, rfl, ha, ixN_row hat, ?_⟩
  rw [rowS_set]
  walk_at "run"
  refine we_tupO ?_
  refine wa_cons ?_
  refine we_lcPO (gon_name (by decide)) (wi_seqL ?_)
  walk_at "run"
  refine ⟨_, RL.ow mup_same, fun i => some (shD (ownW w at_ i)), by rw [rowS_len]; omega, fun M' hM => RL.ow (hM _ _ mup_same), ?_, ?_⟩
  · rw [rowS_len]
    intro i M' hi hM
    refine wg_name ⟨rfl, wt_yes ⟨rfl, fun _ => ?_, fun z => by cases z⟩⟩
    simp only [rowS_getD hi]
    walk_at "run"
    have h0 : Ok1 (if i = at_ then 0 else w i) := by
      split
      · exact ok0
      · exact hw i hi
    refine cl_parted (ok_fit h0) (h2.fit (by decide)) h1 ⟨rfl, _, rfl, ?_⟩
    unfold ownW
    split
    · congr 2
      grind
    · rfl
  intro p hp
  walk_at "run"
  refine cl_parted (ok_fit hv) (h2.fit (by decide)) h1 ?_
  walk_at "run"
  refine ⟨by simp, fun q hq => ?_⟩
  have hpa : p ≠ a := fun z => by rw [z, mup_same] at hp; cases hp
  have hqp : q ≠ p := fun z => by rw [z, mup_same] at hq; cases hq
  have hqa : q ≠ a := fun z => by rw [z, mup_ne (Ne.symm hpa), mup_same] at hq; cases hq
  rw [mup_ne hpa] at hp
  have hq0 := hq
  rw [mup_ne hqp, mup_ne hqa] at hq0
  refine hk h _ p q (fun b o hb hba => ?_) hp hq0 (Ne.symm hqp) ?_ mup_same
  · rw [mup_ne (mne hb hq0), mup_ne (mne hb hp), mup_ne hba]
    exact hb
  · rw [mup_ne (Ne.symm hqp), mup_same, rowS_len, filterMap_all fun i _ => rfl]
    rfl
def sp_solved (K : PySem.W.Frag) : SpD := fun as M k e => ∃ (n t0 : Nat) (S : Sy), as = [.va (sysD n S), .va (.list (rowD n S.F))] ∧ n ≤ 1000 ∧ t0 ≤ n ∧ (∀ t, t < t0 → SyOk n (gSt S t) ∧ (gSt S t).R t t < 1) ∧
  (t0 = n → k (.va (.list (rowD n (gSt S n).F))) M) ∧ (t0 < n → SyOk n (gSt S t0) ∧ 1 ≤ (gSt S t0).R t0 t0 ∧ ∀ M', Mext M M' → e (.ref (ga K "NoEnd")) M')
/-! solved -/
def t_solved (K : PySem.W.Frag) (E : XK) : TS :=
  (tSeq (tAsg (tLc (iSeq K (tVar 0)) (gName 3) tYes (tCB (rListC K) (tCons (tVar 3) tNil)) [3]) (gName 2))
  (tSeq (tAsg (tCB (rListC K) (tCons (tVar 1) tNil)) (gName 4))
  (tSeq (tFor (iRng1 (tCons (tCB (rLenC K) (tCons (tVar 4) tNil)) tNil)) (gName 5)
  (tSeq (tAsg (tCall (lift K (sp_left_alone K)) [] E (tCons (tOp (rIx K) (tVar 2) (tVar 5)) (tCons (tOp (rIx K) (tVar 4) (tVar 5)) (tCons (tVar 5) tNil)))) (gName 6))
  (tSeq (tAsg (tOp (rIx K) (tVar 6) (tC (.int 0))) (gSub (tVar 2) (tVar 5) rSetL))
  (tSeq (tAsg (tOp (rIx K) (tVar 6) (tC (.int 1))) (gSub (tVar 4) (tVar 5) rSetL))
  (tFor (iRng1 (tCons (tCB (rLenC K) (tCons (tVar 4) tNil)) tNil)) (gName 7)
  (tIfS (tTest (tOp (rNeD K) (tVar 7) (tVar 5)))
  (tAsg (tCall (lift K (sp_put_in K)) [] E0 (tCons (tOp (rIx K) (tVar 2) (tVar 7)) (tCons (tOp (rIx K) (tVar 4) (tVar 7)) (tCons (tVar 6) (tCons (tVar 5) tNil))))) (gSub (tVar 4) (tVar 7) rSetL))
  tNext))))))
  (tRet (tVar 4)))))
set_option maxHeartbeats 4000000 in
theorem p_solved {P : Program} {w : World} {K : PySem.W.Frag} {mg : Str → Option Value} {base : Heap} (T : Tx P K mg) (c_put_in : Cal P w K mg base "put_in" 36 (lift K (sp_put_in K))) (c_left_alone : Cal P w K mg base "left_alone" 36 (lift K (sp_left_alone K))) {f : Addr} {cdv : Value} {A : Around} {outer : List Env} {s : Shared} {H : Hp} {E : XK} (hr : Room 36 (A.deeper (envOfC "solved" (defScope s_solved) s.heap.objs.size f cdv))) :
    PSs (cxOf (L2.CX P w) P w K mg base ["ways", "ends", "rows", "row", "found", "at", "own", "k"] "solved" (defScope s_solved) f cdv A outer s H E) (defBody s_solved) (t_solved K E) := by
  have hu1 := hu_of hr
  have hu := hr.units
  have hu65 := hu_65 hr
  exact (pss_cons (ps_setLc (i := 2) (own := [("row", 3)]) (g := (gName 3)) (tt := tYes) (te := (tCB (rListC K) (tCons (tVar 3) tNil))) rfl sc_solved.nd rfl rfl (sw_true rfl rfl rfl (by decide +kernel)) (pi_seq (pv 0)) (blkOk_by (by first | decide +kernel | rfl)) (fun _ _ _ _ _ => (pg_name (i := 3) sc_solved.nd rfl (by first | exact Or.inl rfl | exact Or.inr rfl))) (fun _ _ _ _ _ => pts_nil) (fun _ _ _ _ _ => (pe_callTy call_listA (by rfl) T.z_list (by decide +kernel) (pa_cons (pv 3) pa_nil))))
  (pss_cons (ps_set (i := 4) sc_solved.nd rfl (by first | exact Or.inl rfl | exact Or.inr rfl) (pe_callTy call_listA (by rfl) T.z_list (by decide +kernel) (pa_cons (pv 1) pa_nil)))
  (pss_cons (ps_for (passes_of rfl) rfl (pi_range1 rfl T.z_range (pa_cons (pe_callB call_len (by rfl) T.z_len (by decide +kernel) (pa_cons (pv 4) pa_nil)) pa_nil)) (pg_name (i := 5) sc_solved.nd rfl (by first | exact Or.inl rfl | exact Or.inr rfl))
  (pss_cons (ps_set (i := 6) sc_solved.nd rfl (by first | exact Or.inl rfl | exact Or.inr rfl) (pcall c_left_alone hr (by decide) (by rfl) (passes_call (takes_of rfl rfl rfl rfl) fun _ _ _ _ z => z) (pa_cons (pe_ix ix_seq (pv 2) (pv 5) (fun _ _ => rfl)) (pa_cons (pe_ix ix_seq (pv 4) (pv 5) (fun _ _ => rfl)) (pa_cons (pv 5) pa_nil)))))
  (pss_cons (ps_asg (pe_ix ix_seq (pv 6) pe_int (fun _ _ => rfl)) (pg_sub (pv 2) (pv 5) set_list))
  (pss_cons (ps_asg (pe_ix ix_seq (pv 6) pe_int (fun _ _ => rfl)) (pg_sub (pv 4) (pv 5) set_list))
  (pss_one (ps_for (passes_of rfl) rfl (pi_range1 rfl T.z_range (pa_cons (pe_callB call_len (by rfl) T.z_len (by decide +kernel) (pa_cons (pv 4) pa_nil)) pa_nil)) (pg_name (i := 7) sc_solved.nd rfl (by first | exact Or.inl rfl | exact Or.inr rfl))
  (pss_one (ps_if (pt_cmpR (op_neD hu) (pv 7) (pv 5) (nomark _))
  (pss_one (ps_asg (pcall c_put_in hr (by decide) (by rfl) passL (pa_cons (pe_ix ix_seq (pv 2) (pv 7) (fun _ _ => rfl)) (pa_cons (pe_ix ix_seq (pv 4) (pv 7) (fun _ _ => rfl)) (pa_cons (pv 6) (pa_cons (pv 5) pa_nil))))) (pg_sub (pv 4) (pv 7) set_list)))
  pss_nil))))))))
  (pss_one (ps_ret (pv 4))))))
theorem ini_solved {K : PySem.W.Frag} {sp : SpD} (h : ∀ as M k e, sp as M k e → ∃ a0 a1, as = [a0, a1] ∧ ∀ P0 E, XL K P0 E e → WS K P0 (t_solved K E) [some a0, some a1, none, none, none, none, none, none] M (fun _ M' => k (.va .none) M') k (fun _ _ => False) (fun _ _ => False)) : Keeps K ["ways", "ends", "rows", "row", "found", "at", "own", "k"] ["ways", "ends"] (t_solved K) sp := fun as M k e hs => by
  obtain ⟨a0, a1, rfl, h⟩ := h as M k e hs
  exact ⟨rfl, fun P0 E hE => h P0 E hE⟩
theorem mk_solved {P : Program} {w : World} {K : PySem.W.Frag} {mg : Str → Option Value} {base : Heap} (T : Tx P K mg) (c_put_in : Cal P w K mg base "put_in" 36 (lift K (sp_put_in K))) (c_left_alone : Cal P w K mg base "left_alone" 36 (lift K (sp_left_alone K))) (hv : Keeps K ["ways", "ends", "rows", "row", "found", "at", "own", "k"] ["ways", "ends"] (t_solved K) (sp_solved K)) : Cal P w K mg base "solved" 37 (lift K (sp_solved K)) :=
  cal_mk T.d_solved T.f_solved sc_solved bt_solved (by decide) (fun cdv A outer s H E hr => p_solved T c_put_in c_left_alone hr) hv

theorem v_solved {P : Program} {K : PySem.W.Frag} {mg : Str → Option Value} (T : Tx P K mg) : Keeps K ["ways", "ends", "rows", "row", "found", "at", "own", "k"] ["ways", "ends"] (t_solved K) (sp_solved K) := by
  refine ini_solved ?_
  rintro as M k e ⟨n, t0, S, rfl, hn, ht0, hok, hk, he⟩
  refine ⟨_, _, rfl, fun P0 E hE => ?_⟩
  unfold t_solved sysD
  walk_at "run"
  refine we_lc (gon_name (by decide)) (wi_seqL ?_)
  walk_at "run"
  refine ⟨_, RL.sh _, fun R hR => ⟨fun i M' acc => ∃ ad, acc = adL i ad ∧ Rw M M' n S.R i ad ∧ Mext M M' ∧ M' R = none ∧ ∀ j, j < i → ad j ≠ R, ⟨fun _ => 0, rfl, ⟨fun j h => by omega, fun j h => by omega, fun j l h => by omega⟩, Mext.refl M, hR, fun j h => by omega⟩, ?_, ?_, ?_⟩⟩
  · rintro i M' acc hi ⟨ad, rfl, hrw, hx, hRn, hne⟩
    refine ⟨RL.sh _, hRn, ?_⟩
    rw [adL_len]
    simp at hi
    omega
  · rintro i M' acc hi ⟨ad, rfl, hrw, hx, hRn, hne⟩
    have hi : i < n := by simpa using hi
    refine wg_name (wt_yes ⟨fun _ => ?_, fun z => by cases z⟩)
    have e0 : (List.map Sv.va (List.map (fun i => PyData.list (rowD n (S.R i))) (List.range n))).getD i (.va .none) = .va (.list (rowD n (S.R i))) := by
      rw [List.getD_eq_getElem?_getD]
      simp [hi]
    simp only [e0]
    walk_at "run"
    refine rc_listL (RL.sh _) fun q hq => ?_
    have hqR : q ≠ R := fun z => by rw [z, mup_same] at hq; cases hq
    rw [mup_ne hqR] at hq
    have hq0 : M q = none := by
      cases z : M q with
      | none => rfl
      | some o => rw [hx q o z] at hq; cases hq
    have hnq : ∀ j, j < i → ad j ≠ q := fun j hj z => by
      have := hrw.is_ j hj
      rw [z, hq] at this; cases this
    refine ⟨mup M' q (.lst ((rowD n (S.R i)).map Sv.va)), mup_comm (Ne.symm hqR), fun j => if j = i then q else ad j, adL_succ, hrw.push hq0 mup_same hnq (fun j hj => mup_ne (hnq j hj)), fun a o h => ?_, ?_, ?_⟩
    · rw [mup_ne (mne h hq0)]; exact hx a o h
    · rw [mup_ne (Ne.symm hqR)]; exact hRn
    · intro j hj
      show (if j = i then q else ad j) ≠ R
      by_cases z : j = i
      · rw [if_pos z]; exact hqR
      · rw [if_neg z]; exact hne j (by omega)
  rintro M1 acc ⟨ad, rfl, hrw, hx, hRn, hne⟩
  have elen : (List.map Sv.va (List.map (fun i => PyData.list (rowD n (S.R i))) (List.range n))).length = n := by simp
  rw [elen] at hrw hne ⊢
  have hR : M R = none := hR
  walk_at "run"
  refine rc_listL (RL.sh _) fun F hF => ?_
  have hFR : F ≠ R := fun z => by rw [z, mup_same] at hF; cases hF
  rw [mup_ne hFR] at hF
  have hF0 : M F = none := by
    cases z : M F with
    | none => rfl
    | some o => rw [hx F o z] at hF; cases hF
  have hSA : SyAt M (mup (mup M1 R (.lst (adL n ad))) F (.lst ((rowD n S.F).map Sv.va))) n S R F ad := by
    have d1 : ∀ j, j < n → ad j ≠ F := fun j hj z => by
      have := hrw.is_ j hj
      rw [z, hF] at this; cases this
    exact ⟨hrw.mono fun j hj => by rw [mup_ne (d1 j hj), mup_ne (hne j hj)], by rw [mup_ne (Ne.symm hFR), mup_same], mup_same, fun a o h => by rw [mup_ne (mne h hF0), mup_ne (mne h hR)]; exact hx a o h, hR, hF0, hne, d1, Ne.symm hFR⟩
  generalize mup (mup M1 R (.lst (adL n ad))) F (.lst ((rowD n S.F).map Sv.va)) = M2 at hSA
  clear hF hRn hx hrw hne M1
  walk_at "run"
  refine ws_for (wi_rng1 ?_)
  walk_at "run"
  refine rc_lenRow (RL.ow hSA.fl) ?_
  walk_at "run"
  refine ⟨_, rfl, by omega, by omega, ?_⟩
  rw [Int.toNat_natCast]
  refine ⟨fun t G' M' => t ≤ t0 ∧ (∃ z5 z6 z7, G' = [some (.va (sysD n S)), some (.va (.list (rowD n S.F))), some (.rf (.ref R)), none, some (.rf (.ref F)), z5, z6, z7]) ∧ ∃ ad, SyAt M M' n (gSt S t) R F ad,
    ⟨Nat.zero_le _, ⟨_, _, _, rfl⟩, ad, hSA⟩, fun _ _ _ _ _ => trivial, ?_, ?_⟩
  · clear hSA ad M2
    rintro t G' M' ht ⟨htt, ⟨z5, z6, z7, rfl⟩, ad, A⟩
    refine wg_name ?_
    walk_at "run"
    refine we_call hE ?_
    walk_at "run"
    refine r2_ixL (RL.ow A.rl) (atI_nat (adL_at ht)) ?_
    walk_at "run"
    refine r2_ixRow (RL.ow A.fl) ht ?_
    walk_at "run"
    have hSO : SyOk n (gSt S t) := by
      rcases Nat.lt_or_ge t t0 with h | h
      · exact (hok t h).1
      · have : t = t0 := by omega
        subst this
        exact (he ht).1
    generalize hgS : gSt S t = S1 at *
    refine ⟨n, t, S1.R t, S1.F t, ad t, rfl, ht, hn, A.rows.is_ t ht, (hSO t ht).1, (hSO t ht).2, fun h1 => ?_, fun hlt M3 p q hmx hp hq hpq h3p h3q => ?_⟩
    · rcases Nat.lt_or_ge t t0 with h | h
      · have := (hok t h).2
        rw [hgS] at this
        exact absurd h1 (Rat.not_le.mpr this)
      · have : t = t0 := by omega
        subst this
        exact (he ht).2.2 _ A.ext
    have htl : t < t0 := by
      rcases Nat.lt_or_ge t t0 with h | h
      · exact h
      · have : t = t0 := by omega
        subst this
        have := (he ht).2.1
        rw [hgS] at this
        exact absurd this (Rat.not_le.mpr hlt)
    have new0 : ∀ b, M' b = none → M b = none := fun b hb => by
      cases z : M b with
      | none => rfl
      | some o => rw [A.ext b o z] at hb; cases hb
    have hpR : p ≠ R := fun z => by rw [z, A.rl] at hp; cases hp
    have hpF : p ≠ F := fun z => by rw [z, A.fl] at hp; cases hp
    have hqR : q ≠ R := fun z => by rw [z, A.rl] at hq; cases hq
    have hqF : q ≠ F := fun z => by rw [z, A.fl] at hq; cases hq
    have hap : ∀ j, j < n → ad j ≠ p := fun j hj z => by
      have := A.rows.is_ j hj
      rw [z, hp] at this; cases this
    have haq : ∀ j, j < n → ad j ≠ q := fun j hj z => by
      have := A.rows.is_ j hj
      rw [z, hq] at this; cases this
    have h3R : M3 R = some (.lst (adL n ad)) := hmx R _ A.rl (Ne.symm (A.dR t ht))
    have h3F : M3 F = some (.lst ((rowD n S1.F).map Sv.va)) := hmx F _ A.fl (Ne.symm (A.dF t ht))
    walk_at "run"
    refine ws_asgG ?_
    walk_at "run"
    refine r2_ixTO (t := .rf (.ref p)) h3q rfl (wg_subL ?_)
    walk_at "run"
    refine ⟨R, _, _, t, rfl, rfl, h3R, by rw [adL_len, ixN_nat (by omega) (by omega), Int.toNat_natCast], ?_⟩
    rw [adL_set]
    walk_at "run"
    refine ws_asgG ?_
    walk_at "run"
    refine r2_ixTO (t := .va (shD (S1.F t / (1 - S1.R t t)))) (by rw [mup_ne hqR]; exact h3q) rfl (wg_subL ?_)
    walk_at "run"
    refine ⟨F, _, _, t, rfl, rfl, by rw [mup_ne (Ne.symm A.RF)]; exact h3F, ixN_row ht, ?_⟩
    rw [rowS_set]
    have B : SyAt M (mup (mup M3 R (.lst (adL n fun i => if i = t then p else ad i))) F (.lst ((rowD n fun i => if i = t then S1.F t / (1 - S1.R t t) else S1.F i).map Sv.va))) n (midSy S1 t 0) R F (fun i => if i = t then p else ad i) := by
      refine ⟨(A.rows.put ht (new0 p hp) (w := ownW (S1.R t) t) ?_ (fun j hj _ => hap j hj) fun j hj hjt => ?_).congr fun j l hj hl => ?_, by rw [mup_ne A.RF, mup_same], ?_, fun b o h => ?_, A.nR, A.nF, fun i hi => ?_, fun i hi => ?_, A.RF⟩
      · rw [mup_ne hpF, mup_ne hpR]; exact h3p
      · have := A.rows.is_ j hj
        rw [mup_ne (A.dF j hj), mup_ne (A.dR j hj), this]
        exact hmx _ _ this (A.rows.inj j t hj ht hjt)
      · show (if j = t then ownW (S1.R t) t else S1.R j) l = (if j < 0 then (gStep S1 t).R j l else if j = t then ownW (S1.R t) t l else S1.R j l)
        rw [if_neg (Nat.not_lt_zero j)]
        split <;> rfl
      · rw [mup_same]
        congr 3
      · have hb := A.ext b o h
        rw [mup_ne (mne h A.nF), mup_ne (mne h A.nR)]
        exact hmx b o hb fun z => by rw [z, A.rows.nw t ht] at h; cases h
      · show (if i = t then p else ad i) ≠ R
        by_cases z : i = t
        · rw [if_pos z]; exact hpR
        · rw [if_neg z]; exact A.dR i hi
      · show (if i = t then p else ad i) ≠ F
        by_cases z : i = t
        · rw [if_pos z]; exact hpF
        · rw [if_neg z]; exact A.dF i hi
    have Bq : (mup (mup M3 R (.lst (adL n fun i => if i = t then p else ad i))) F (.lst ((rowD n fun i => if i = t then S1.F t / (1 - S1.R t t) else S1.F i).map Sv.va))) q = some (.tup [.rf (.ref p), .va (shD (gEnd S1 t))]) := by
      rw [mup_ne hqF, mup_ne hqR]; exact h3q
    have hap' : ∀ j, j < n → j ≠ t → (fun i => if i = t then p else ad i) j ≠ p := fun j hj hjt => by
      show (if j = t then p else ad j) ≠ p
      rw [if_neg hjt]; exact hap j hj
    have haq' : ∀ j, j < n → (fun i => if i = t then p else ad i) j ≠ q := fun j hj => by
      show (if j = t then p else ad j) ≠ q
      by_cases z : j = t
      · rw [if_pos z]; exact hpq
      · rw [if_neg z]; exact haq j hj
    have hpt : (fun i => if i = t then p else ad i) t = p := if_pos rfl
    generalize (fun i => if i = t then p else ad i) = ad' at B Bq hap' haq' hpt ⊢
    generalize mup (mup M3 R (.lst (adL n ad'))) F (.lst ((rowD n fun i => if i = t then S1.F t / (1 - S1.R t t) else S1.F i).map Sv.va)) = M4 at B Bq ⊢
    clear h3R h3F hmx h3p h3q haq hap hpR hpF hqR hqF hp hq A
    refine ws_for (wi_rng1 ?_)
    walk_at "run"
    refine rc_lenRow (RL.ow B.fl) ?_
    walk_at "run"
    refine ⟨_, rfl, by omega, by omega, ?_⟩
    rw [Int.toNat_natCast]
    refine ⟨fun i G' M' => (∃ z7, G' = [some (.va (sysD n S)), some (.va (.list (rowD n S.F))), some (.rf (.ref R)), none, some (.rf (.ref F)), some (.va (.int (t : Int))), some (.rf (.ref q)), z7]) ∧
      SyAt M M' n (midSy S1 t i) R F ad' ∧ M' q = some (.tup [.rf (.ref p), .va (shD (gEnd S1 t))]), ⟨⟨_, rfl⟩, B, Bq⟩, fun _ _ _ _ _ => trivial, ?_, ?_⟩
    · clear B Bq M4
      rintro i G' M' hi ⟨⟨z, rfl⟩, B, Bq⟩
      refine wg_name ?_
      walk_at "run"
      refine' ws_ifP (by walk_at "tp") (fun h => ?_) (fun h => ?_)
      · rw [eqv_int2] at h
        have hit : i ≠ t := fun z => by subst z; simp at h
        have eR : ∀ j, (midSy S1 t i).R i j = S1.R i j := fun j => by
          show (if i < i then (gStep S1 t).R i j else if i = t then ownW (S1.R t) t j else S1.R i j) = _
          rw [if_neg (Nat.lt_irrefl i), if_neg hit]
        have eF : (midSy S1 t i).F i = S1.F i := by
          show (if i < i then (gStep S1 t).F i else if i = t then gEnd S1 t else S1.F i) = _
          rw [if_neg (Nat.lt_irrefl i), if_neg hit]
        refine ws_asgG ?_
        walk_at "run"
        refine r2_ixL (RL.ow B.rl) (atI_nat (adL_at hi)) ?_
        walk_at "run"
        refine r2_ixRow (RL.ow B.fl) hi ?_
        walk_at "run"
        rw [eF]
        have hrow := B.rows.is_ i hi
        rw [rowD_congr (fun j _ => eR j)] at hrow
        have hpo := B.rows.is_ t ht
        rw [hpt] at hpo
        have hpo2 : M' p = some (.lst ((rowD n (ownW (S1.R t) t)).map Sv.va)) := by
          rw [hpo, rowD_congr fun j hj => ?_]
          show (if t < i then (gStep S1 t).R t j else if t = t then ownW (S1.R t) t j else S1.R t j) = _
          rw [if_pos (rfl : t = t)]
          show (if t < i then (if t = t then gOwn S1 t j else _) else _) = _
          rw [if_pos (rfl : t = t)]
          show (if t < i then ownW (S1.R t) t j else _) = _
          split <;> rfl
        have hO := hSO i hi
        refine ⟨n, t, S1.R i, ownW (S1.R t) t, S1.F i, gEnd S1 t, ad' i, p, q, rfl, ht, hn, hrow, Bq, hpo2, hap' i hi hit, hO.1, fun j hj => ownW_ok (hSO t ht).1 ht hlt hj, hO.2, endW_ok (hSO t ht).2 ((hSO t ht).1 t ht) hlt, ?_⟩
        refine wg_subL ?_
        walk_at "run"
        have diF := B.dF i hi
        have diR := B.dR i hi
        have dqF : q ≠ F := fun z => by rw [z, B.fl] at Bq; cases Bq
        refine ⟨F, _, _, i, rfl, rfl, by rw [mup_ne (Ne.symm diF)]; exact B.fl, ixN_row hi, ?_⟩
        rw [rowS_set]
        refine ⟨⟨_, rfl⟩, ⟨(B.rows.set hi (w := fun j => (if j = t then 0 else S1.R i j) + S1.R i t * ownW (S1.R t) t j) ?_ fun j hj hji => ?_).congr fun j l hj hl => ?_, ?_, ?_, fun b o h => ?_, B.nR, B.nF, B.dR, B.dF, B.RF⟩, ?_⟩
        · rw [mup_ne diF, mup_same]
        · rw [mup_ne (B.dF j hj), mup_ne (B.rows.inj j i hj hi hji)]
        · show (if j = i then fun j => (if j = t then 0 else S1.R i j) + S1.R i t * ownW (S1.R t) t j else (midSy S1 t i).R j) l = (if j < i + 1 then (gStep S1 t).R j l else if j = t then ownW (S1.R t) t l else S1.R j l)
          by_cases e : j = i
          · subst e
            rw [if_pos rfl, if_pos (Nat.lt_succ_self j)]
            show _ = (if j = t then gOwn S1 t l else (if l = t then 0 else S1.R j l) + S1.R j t * gOwn S1 t l)
            rw [if_neg hit]
            rfl
          · rw [if_neg e]
            show (if j < i then (gStep S1 t).R j l else if j = t then ownW (S1.R t) t l else S1.R j l) = _
            by_cases e2 : j < i
            · rw [if_pos e2, if_pos (Nat.lt_succ_of_lt e2)]
            · rw [if_neg e2, if_neg (show ¬ j < i + 1 by omega)]
        · rw [mup_ne B.RF, mup_ne (Ne.symm diR)]
          exact B.rl
        · rw [mup_same]
          congr 3
          refine rowD_congr fun j hj => ?_
          show (if j = i then S1.F i + S1.R i t * gEnd S1 t else if j < i then (gStep S1 t).F j else if j = t then gEnd S1 t else S1.F j) = (if j < i + 1 then (gStep S1 t).F j else if j = t then gEnd S1 t else S1.F j)
          by_cases e : j = i
          · subst e
            rw [if_pos rfl, if_pos (Nat.lt_succ_self j)]
            show _ = (if j = t then gEnd S1 t else S1.F j + S1.R j t * gEnd S1 t)
            rw [if_neg hit]
          · rw [if_neg e]
            by_cases e2 : j < i
            · rw [if_pos e2, if_pos (Nat.lt_succ_of_lt e2)]
            · rw [if_neg e2, if_neg (show ¬ j < i + 1 by omega)]
        · rw [mup_ne (mne h B.nF), mup_ne (mne h (B.rows.nw i hi))]
          exact B.ext b o h
        · have dqi : q ≠ ad' i := Ne.symm (haq' i hi)
          rw [mup_ne dqF, mup_ne dqi]
          exact Bq
      · rw [eqv_int2] at h
        have hit : i = t := by
          simp at h
          omega
        subst hit
        walk_at "run"
        have emid : ∀ j, (midSy S1 i i).F j = (midSy S1 i (i + 1)).F j := fun j => by
          show (if j < i then (gStep S1 i).F j else if j = i then gEnd S1 i else S1.F j) = (if j < i + 1 then (if j = i then gEnd S1 i else _) else if j = i then gEnd S1 i else S1.F j)
          by_cases e : j = i
          · subst e
            rw [if_neg (Nat.lt_irrefl j), if_pos rfl, if_pos (Nat.lt_succ_self j), if_pos rfl]
          · by_cases e2 : j < i
            · rw [if_pos e2, if_pos (Nat.lt_succ_of_lt e2), if_neg e]
              show (if j = i then gEnd S1 i else _) = _
              rw [if_neg e]
            · rw [if_neg e2, if_neg (show ¬ j < i + 1 by omega)]
        refine ⟨⟨_, rfl⟩, ⟨B.rows.congr fun j l hj hl => ?_, B.rl, by rw [B.fl, rowD_congr fun j _ => emid j], B.ext, B.nR, B.nF, B.dR, B.dF, B.RF⟩, Bq⟩
        show (if j < i then (gStep S1 i).R j l else if j = i then ownW (S1.R i) i l else S1.R j l) = (if j < i + 1 then (gStep S1 i).R j l else if j = i then ownW (S1.R i) i l else S1.R j l)
        by_cases e : j = i
        · subst e
          rw [if_neg (Nat.lt_irrefl j), if_pos rfl, if_pos (Nat.lt_succ_self j)]
          show _ = (if j = j then gOwn S1 j l else _)
          rw [if_pos rfl]
          rfl
        · by_cases e2 : j < i
          · rw [if_pos e2, if_pos (Nat.lt_succ_of_lt e2)]
          · rw [if_neg e2, if_neg (show ¬ j < i + 1 by omega)]
    · rintro G' M' ⟨⟨z, rfl⟩, B, Bq⟩
      refine ⟨by omega, ⟨_, _, _, rfl⟩, ad', ⟨B.rows.congr fun j l hj hl => ?_, B.rl, ?_, B.ext, B.nR, B.nF, B.dR, B.dF, B.RF⟩⟩
      · show (if j < n then (gStep S1 t).R j l else _) = (gStep (gSt S t) t).R j l
        rw [if_pos hj, hgS]
      · rw [B.fl, rowD_congr fun j hj => ?_]
        show (if j < n then (gStep S1 t).F j else _) = (gStep (gSt S t) t).F j
        rw [if_pos hj, hgS]
  · rintro G' M' ⟨htt, ⟨z5, z6, z7, rfl⟩, ad, A⟩
    refine ws_ret (we_frz ?_)
    walk_at "run"
    exact ⟨M, _, A.ext, .lst A.fl A.nF (deepFs_va _), hk (by omega)⟩

/-! the script's cells -/
def sp__law_cell_at (_ : PySem.W.Frag) : SpD := fun as M k _ => ∃ (ns : List Int) (i : Int), as = [.va (scD ns), .va (.int i)] ∧ 0 ≤ i ∧ k (.va (.int (cell ns i))) M
/-! _law_cell_at -/
def t__law_cell_at (K : PySem.W.Frag) (E : XK) : TS :=
  (tSeq (tIfS (tTest (tOp rLtI (tVar 1) (tCB (rLenC K) (tCons (tVar 0) tNil))))
  (tRet (tOp (rIx K) (tVar 0) (tVar 1)))
  tNext)
  (tRet (tC (.int 0))))
set_option maxHeartbeats 4000000 in
theorem p__law_cell_at {P : Program} {w : World} {K : PySem.W.Frag} {mg : Str → Option Value} {base : Heap} (T : Tx P K mg) {f : Addr} {cdv : Value} {A : Around} {outer : List Env} {s : Shared} {H : Hp} {E : XK} (hr : Room 0 (A.deeper (envOfC "_law_cell_at" (defScope s__law_cell_at) s.heap.objs.size f cdv))) :
    PSs (cxOf (L2.CX P w) P w K mg base ["_law_script", "_law_k"] "_law_cell_at" (defScope s__law_cell_at) f cdv A outer s H E) (defBody s__law_cell_at) (t__law_cell_at K E) := by
  have hu1 := hu_of hr
  have hu := hr.units
  have hu65 := hu_65 hr
  exact (pss_cons (ps_if (pt_cmpR op_lt (pv 1) (pe_callB call_len (by rfl) T.z_len (by decide +kernel) (pa_cons (pv 0) pa_nil)) (nomark _))
  (pss_one (ps_ret (pe_ix ix_seq (pv 0) (pv 1) (fun _ _ => rfl))))
  pss_nil)
  (pss_one (ps_ret pe_int)))
theorem ini__law_cell_at {K : PySem.W.Frag} {sp : SpD} (h : ∀ as M k e, sp as M k e → ∃ a0 a1, as = [a0, a1] ∧ ∀ P0 E, XL K P0 E e → WS K P0 (t__law_cell_at K E) [some a0, some a1] M (fun _ M' => k (.va .none) M') k (fun _ _ => False) (fun _ _ => False)) : Keeps K ["_law_script", "_law_k"] ["_law_script", "_law_k"] (t__law_cell_at K) sp := fun as M k e hs => by
  obtain ⟨a0, a1, rfl, h⟩ := h as M k e hs
  exact ⟨rfl, fun P0 E hE => h P0 E hE⟩
theorem mk__law_cell_at {P : Program} {w : World} {K : PySem.W.Frag} {mg : Str → Option Value} {base : Heap} (T : Tx P K mg) (hv : Keeps K ["_law_script", "_law_k"] ["_law_script", "_law_k"] (t__law_cell_at K) (sp__law_cell_at K)) : Cal P w K mg base "_law_cell_at" 1 (lift K (sp__law_cell_at K)) :=
  cal_mk T.d__law_cell_at T.f__law_cell_at sc__law_cell_at bt__law_cell_at (by decide) (fun cdv A outer s H E hr => p__law_cell_at T  hr) hv

theorem v__law_cell_at {K : PySem.W.Frag} : Keeps K ["_law_script", "_law_k"] ["_law_script", "_law_k"] (t__law_cell_at K) (sp__law_cell_at K) := by
  refine ini__law_cell_at ?_
  rintro as M k e ⟨ns, i, rfl, hi, hk⟩
  refine ⟨_, _, rfl, fun P0 E hE => ?_⟩
  unfold t__law_cell_at
  walk_at "run"
  refine' ws_ifP (by walk_at "tp") (fun h => ?_) (fun h => ?_)
  · have h : i < (ns.length : Int) := of_decide_eq_true h
    walk_at "run"
    exact r2_ixCell hi h hk
  · have h : ¬ i < (ns.length : Int) := of_decide_eq_false h
    walk_at "run"
    have e : cell ns i = 0 := by
      unfold cell
      rw [List.getD_eq_getElem?_getD, List.getElem?_eq_none (by omega)] <;> rfl
    rw [e] at hk
    exact hk
theorem cl_cell {K : PySem.W.Frag} {ns : List Int} {i : Int} {M : Mm} {k : Sv → Mm → Prop} {e : Value → Mm → Prop} (hi : 0 ≤ i) (hk : k (.va (.int (cell ns i))) M) : sp__law_cell_at K [.va (scD ns), .va (.int i)] M k e := ⟨ns, i, rfl, hi, hk⟩
local macro_rules | `(tactic| walk_at "st") => `(tactic| with_reducible refine cl_cell (by walk_at "num") ?_)

/-! dice -/
def DiceAt (M : Mm) (p : Addr) : Prop := ∃ d : Int, M p = some (.lst [.va (.int d)]) ∧ 0 ≤ d ∧ d < 2147483647
def diceO (d : Int) : Ob := .lst [.va (.int d)]
def sp__law_dice (_ : PySem.W.Frag) : SpD := fun as M k _ => ∃ c : Int, as = [.va (.int c)] ∧ ∀ (p : Addr) (d : Int), M p = none → 0 ≤ d → d < 2147483647 → k (.rf (.ref p)) (mup M p (diceO d))
/-! _law_dice -/
def t__law_dice (K : PySem.W.Frag) (E : XK) : TS :=
  (tRet (tLst (tCons (tOp rModN (tVar 0) (tC (.int 2147483647))) tNil)))
set_option maxHeartbeats 4000000 in
theorem p__law_dice {P : Program} {w : World} {K : PySem.W.Frag} {mg : Str → Option Value} {base : Heap} (T : Tx P K mg) {f : Addr} {cdv : Value} {A : Around} {outer : List Env} {s : Shared} {H : Hp} {E : XK} (hr : Room 0 (A.deeper (envOfC "_law_dice" (defScope s__law_dice) s.heap.objs.size f cdv))) :
    PSs (cxOf (L2.CX P w) P w K mg base ["_law_cell"] "_law_dice" (defScope s__law_dice) f cdv A outer s H E) (defBody s__law_dice) (t__law_dice K E) := by
  have hu1 := hu_of hr
  have hu := hr.units
  have hu65 := hu_65 hr
  exact (pss_one (ps_ret (pe_lst (pa_cons (pe_op op_modN (pv 0) pe_int) pa_nil))))
theorem ini__law_dice {K : PySem.W.Frag} {sp : SpD} (h : ∀ as M k e, sp as M k e → ∃ a0, as = [a0] ∧ ∀ P0 E, XL K P0 E e → WS K P0 (t__law_dice K E) [some a0] M (fun _ M' => k (.va .none) M') k (fun _ _ => False) (fun _ _ => False)) : Keeps K ["_law_cell"] ["_law_cell"] (t__law_dice K) sp := fun as M k e hs => by
  obtain ⟨a0, rfl, h⟩ := h as M k e hs
  exact ⟨rfl, fun P0 E hE => h P0 E hE⟩
theorem mk__law_dice {P : Program} {w : World} {K : PySem.W.Frag} {mg : Str → Option Value} {base : Heap} (T : Tx P K mg) (hv : Keeps K ["_law_cell"] ["_law_cell"] (t__law_dice K) (sp__law_dice K)) : Cal P w K mg base "_law_dice" 1 (lift K (sp__law_dice K)) :=
  cal_mk T.d__law_dice T.f__law_dice sc__law_dice bt__law_dice (by decide) (fun cdv A outer s H E hr => p__law_dice T  hr) hv

theorem v__law_dice {K : PySem.W.Frag} : Keeps K ["_law_cell"] ["_law_cell"] (t__law_dice K) (sp__law_dice K) := by
  refine ini__law_dice ?_
  rintro as M k e ⟨c, rfl, hk⟩
  refine ⟨_, rfl, fun P0 E hE => ?_⟩
  unfold t__law_dice
  refine ws_ret (we_lst ?_)
  walk_at "run"
  exact ⟨by simp, fun p hp => hk p _ hp (Int.emod_nonneg _ (by decide)) (Int.emod_lt_of_pos _ (by decide))⟩
def sp__law_roll (_ : PySem.W.Frag) : SpD := fun as M k _ => ∃ (p : Addr) (d m : Int), as = [.rf (.ref p), .va (.int m)] ∧ M p = some (diceO d) ∧ 0 ≤ d ∧ d < 2147483647 ∧ 1 ≤ m ∧ m < 1073741824 ∧
  ∀ d' r : Int, 0 ≤ d' → d' < 2147483647 → 0 ≤ r → r < m → k (.va (.int r)) (mup M p (diceO d'))
/-! _law_roll -/
def t__law_roll (K : PySem.W.Frag) (E : XK) : TS :=
  (tSeq (tAsg (tOp rModN (tOp (rAddA K) (tOp (rMulA K) (tOp (rIx K) (tVar 0) (tC (.int 0))) (tC (.int 48271))) (tC (.int 11))) (tC (.int 2147483647))) (gSub (tVar 0) (tC (.int 0)) rSetL))
  (tRet (tOp rModN (tOp rDivN (tOp (rIx K) (tVar 0) (tC (.int 0))) (tC (.int 7))) (tVar 1))))
set_option maxHeartbeats 4000000 in
theorem p__law_roll {P : Program} {w : World} {K : PySem.W.Frag} {mg : Str → Option Value} {base : Heap} (T : Tx P K mg) {f : Addr} {cdv : Value} {A : Around} {outer : List Env} {s : Shared} {H : Hp} {E : XK} (hr : Room 0 (A.deeper (envOfC "_law_roll" (defScope s__law_roll) s.heap.objs.size f cdv))) :
    PSs (cxOf (L2.CX P w) P w K mg base ["_law_dice_here", "_law_most"] "_law_roll" (defScope s__law_roll) f cdv A outer s H E) (defBody s__law_roll) (t__law_roll K E) := by
  have hu1 := hu_of hr
  have hu := hr.units
  have hu65 := hu_65 hr
  exact (pss_cons (ps_asg (pe_op op_modN (pe_op op_addA (pe_op op_mulA (pe_ix ix_seq (pv 0) pe_int (fun _ _ => rfl)) pe_int) pe_int) pe_int) (pg_sub (pv 0) pe_int set_list))
  (pss_one (ps_ret (pe_op op_modN (pe_op op_fdivN (pe_ix ix_seq (pv 0) pe_int (fun _ _ => rfl)) pe_int) (pv 1)))))
theorem ini__law_roll {K : PySem.W.Frag} {sp : SpD} (h : ∀ as M k e, sp as M k e → ∃ a0 a1, as = [a0, a1] ∧ ∀ P0 E, XL K P0 E e → WS K P0 (t__law_roll K E) [some a0, some a1] M (fun _ M' => k (.va .none) M') k (fun _ _ => False) (fun _ _ => False)) : Keeps K ["_law_dice_here", "_law_most"] ["_law_dice_here", "_law_most"] (t__law_roll K) sp := fun as M k e hs => by
  obtain ⟨a0, a1, rfl, h⟩ := h as M k e hs
  exact ⟨rfl, fun P0 E hE => h P0 E hE⟩
theorem mk__law_roll {P : Program} {w : World} {K : PySem.W.Frag} {mg : Str → Option Value} {base : Heap} (T : Tx P K mg) (hv : Keeps K ["_law_dice_here", "_law_most"] ["_law_dice_here", "_law_most"] (t__law_roll K) (sp__law_roll K)) : Cal P w K mg base "_law_roll" 1 (lift K (sp__law_roll K)) :=
  cal_mk T.d__law_roll T.f__law_roll sc__law_roll bt__law_roll (by decide) (fun cdv A outer s H E hr => p__law_roll T  hr) hv

theorem v__law_roll {K : PySem.W.Frag} {x : Str} : Keeps K ["_law_dice_here", x] ["_law_dice_here", x] (t__law_roll K) (sp__law_roll K) := by
  rintro as M k e ⟨p, d, m, rfl, hp, h1, h2, h3, h4, hk⟩
  refine ⟨rfl, fun P0 E hE => ?_⟩
  unfold t__law_roll
  unfold diceO at hp
  walk_at "run"
  refine ws_asgG ?_
  walk_at "run"
  refine r2_ixL (RL.ow hp) (i := ((0 : Nat) : Int)) (atI_nat rfl) ?_
  walk_at "run"
  refine r2_mulI (mul_l (by omega)) ?_
  walk_at "run"
  refine wg_subL ?_
  walk_at "run"
  refine ⟨p, _, _, 0, rfl, rfl, hp, rfl, ?_⟩
  walk_at "run"
  have h5 := Int.emod_nonneg (d * 48271 + 11) (show (2147483647 : Int) ≠ 0 by decide)
  have h6 := Int.emod_lt_of_pos (d * 48271 + 11) (show (0 : Int) < 2147483647 by decide)
  refine r2_ixL (RL.ow mup_same) (i := ((0 : Nat) : Int)) (atI_nat rfl) ?_
  walk_at "run"
  refine r2_divN (by decide) (by decide) ?_
  walk_at "run"
  exact hk _ _ h5 h6 (Int.emod_nonneg _ (by omega)) (Int.emod_lt_of_pos _ (by omega))
theorem cl_roll {K : PySem.W.Frag} {p : Addr} {d m : Int} {M : Mm} {k : Sv → Mm → Prop} {e : Value → Mm → Prop} (hp : M p = some (diceO d) ∧ 0 ≤ d ∧ d < 2147483647) (h1 : 1 ≤ m) (h2 : m < 1073741824)
    (hk : ∀ d' r : Int, (0 ≤ d' ∧ d' < 2147483647) → 0 ≤ r → r < m → k (.va (.int r)) (mup M p (diceO d'))) : sp__law_roll K [.rf (.ref p), .va (.int m)] M k e := ⟨p, d, m, rfl, hp.1, hp.2.1, hp.2.2, h1, h2, fun d' r a b c e => hk d' r ⟨a, b⟩ c e⟩

def sp__law_whole (_ : PySem.W.Frag) : SpD := fun as M k _ => ∃ i : Int, as = [.va (.int i)] ∧ k (.va (.bool true)) M
/-! _law_whole -/
def t__law_whole (K : PySem.W.Frag) (E : XK) : TS :=
  (tRet (tAndV (tCB (rIsi K) (tCons (tVar 0) (tCons (tC (.ty "int")) tNil))) (tNotV (tCB (rIsi K) (tCons (tVar 0) (tCons (tC (.ty "bool")) tNil))))))
set_option maxHeartbeats 4000000 in
theorem p__law_whole {P : Program} {w : World} {K : PySem.W.Frag} {mg : Str → Option Value} {base : Heap} (T : Tx P K mg) {f : Addr} {cdv : Value} {A : Around} {outer : List Env} {s : Shared} {H : Hp} {E : XK} (hr : Room 0 (A.deeper (envOfC "_law_whole" (defScope s__law_whole) s.heap.objs.size f cdv))) :
    PSs (cxOf (L2.CX P w) P w K mg base ["_law_found"] "_law_whole" (defScope s__law_whole) f cdv A outer s H E) (defBody s__law_whole) (t__law_whole K E) := by
  have hu1 := hu_of hr
  have hu := hr.units
  have hu65 := hu_65 hr
  exact (pss_one (ps_ret (pe_and (pe_callB call_isi (by rfl) T.z_isinstance (by decide +kernel) (pa_cons (pv 0) (pa_cons (pe_bltn (by rfl) T.z_int (by decide +kernel) rfl) pa_nil))) (pe_one (pe_not (pe_callB call_isi (by rfl) T.z_isinstance (by decide +kernel) (pa_cons (pv 0) (pa_cons (pe_bltn (by rfl) T.z_bool (by decide +kernel) rfl) pa_nil))))))))
theorem ini__law_whole {K : PySem.W.Frag} {sp : SpD} (h : ∀ as M k e, sp as M k e → ∃ a0, as = [a0] ∧ ∀ P0 E, XL K P0 E e → WS K P0 (t__law_whole K E) [some a0] M (fun _ M' => k (.va .none) M') k (fun _ _ => False) (fun _ _ => False)) : Keeps K ["_law_found"] ["_law_found"] (t__law_whole K) sp := fun as M k e hs => by
  obtain ⟨a0, rfl, h⟩ := h as M k e hs
  exact ⟨rfl, fun P0 E hE => h P0 E hE⟩
theorem mk__law_whole {P : Program} {w : World} {K : PySem.W.Frag} {mg : Str → Option Value} {base : Heap} (T : Tx P K mg) (hv : Keeps K ["_law_found"] ["_law_found"] (t__law_whole K) (sp__law_whole K)) : Cal P w K mg base "_law_whole" 1 (lift K (sp__law_whole K)) :=
  cal_mk T.d__law_whole T.f__law_whole sc__law_whole bt__law_whole (by decide) (fun cdv A outer s H E hr => p__law_whole T  hr) hv

theorem v__law_whole {K : PySem.W.Frag} : Keeps K ["_law_found"] ["_law_found"] (t__law_whole K) (sp__law_whole K) := by
  refine ini__law_whole ?_
  rintro as M k e ⟨i, rfl, hk⟩
  refine ⟨_, rfl, fun P0 E hE => ?_⟩
  unfold t__law_whole
  refine ws_ret ?_
  walk_at "we"
  exact hk
theorem cl_whole {K : PySem.W.Frag} {i : Int} {M : Mm} {k : Sv → Mm → Prop} {e : Value → Mm → Prop} (hk : k (.va (.bool true)) M) : sp__law_whole K [.va (.int i)] M k e := ⟨i, rfl, hk⟩
local macro_rules | `(tactic| walk_at "st") => `(tactic| with_reducible refine cl_whole ?_)

/-! the law's own shares -/
def sp__law_share (_ : PySem.W.Frag) : SpD := fun as M k _ => ∃ t b : Int, as = [.va (.int t), .va (.int b)] ∧ 0 ≤ t ∧ 1 ≤ b ∧ k (.va (shD (shr t b))) M
/-! _law_share -/
def t__law_share (K : PySem.W.Frag) (E : XK) : TS :=
  (tSeq (tAsg (tVar 0) (gName 2))
  (tSeq (tAsg (tVar 1) (gName 3))
  (tSeq (tWhile (tTest (tOp rGtI (tVar 3) (tC (.int 0))))
  (tSeq (tAsg (tOp rModN (tVar 2) (tVar 3)) (gName 4))
  (tSeq (tAsg (tVar 3) (gName 2))
  (tAsg (tVar 4) (gName 3)))))
  (tRet (tTup (tCons (tOp rDivR (tVar 0) (tVar 2)) (tCons (tOp rDivR (tVar 1) (tVar 2)) tNil)))))))
set_option maxHeartbeats 4000000 in
theorem p__law_share {P : Program} {w : World} {K : PySem.W.Frag} {mg : Str → Option Value} {base : Heap} (T : Tx P K mg) {f : Addr} {cdv : Value} {A : Around} {outer : List Env} {s : Shared} {H : Hp} {E : XK} (hr : Room 33 (A.deeper (envOfC "_law_share" (defScope s__law_share) s.heap.objs.size f cdv))) :
    PSs (cxOf (L2.CX P w) P w K mg base ["_law_top", "_law_bottom", "_law_one", "_law_other", "_law_rest"] "_law_share" (defScope s__law_share) f cdv A outer s H E) (defBody s__law_share) (t__law_share K E) := by
  have hu1 := hu_of hr
  have hu := hr.units
  have hu65 := hu_65 hr
  exact (pss_cons (ps_set (i := 2) sc__law_share.nd rfl (by first | exact Or.inl rfl | exact Or.inr rfl) (pv 0))
  (pss_cons (ps_set (i := 3) sc__law_share.nd rfl (by first | exact Or.inl rfl | exact Or.inr rfl) (pv 1))
  (pss_cons (ps_while (passes_of rfl) (pt_cmpR op_gt (pv 3) pe_int (nomark _))
  (pss_cons (ps_set (i := 4) sc__law_share.nd rfl (by first | exact Or.inl rfl | exact Or.inr rfl) (pe_op op_modN (pv 2) (pv 3)))
  (pss_cons (ps_set (i := 2) sc__law_share.nd rfl (by first | exact Or.inl rfl | exact Or.inr rfl) (pv 3))
  (pss_one (ps_set (i := 3) sc__law_share.nd rfl (by first | exact Or.inl rfl | exact Or.inr rfl) (pv 4))))))
  (pss_one (ps_ret (pe_tup (pa_cons (pe_op (op_fdivR T.sys (hr.mono (by decide)) rfl rfl rfl) (pv 0) (pv 2)) (pa_cons (pe_op (op_fdivR T.sys (hr.mono (by decide)) rfl rfl rfl) (pv 1) (pv 2)) pa_nil))))))))
theorem ini__law_share {K : PySem.W.Frag} {sp : SpD} (h : ∀ as M k e, sp as M k e → ∃ a0 a1, as = [a0, a1] ∧ ∀ P0 E, XL K P0 E e → WS K P0 (t__law_share K E) [some a0, some a1, none, none, none] M (fun _ M' => k (.va .none) M') k (fun _ _ => False) (fun _ _ => False)) : Keeps K ["_law_top", "_law_bottom", "_law_one", "_law_other", "_law_rest"] ["_law_top", "_law_bottom"] (t__law_share K) sp := fun as M k e hs => by
  obtain ⟨a0, a1, rfl, h⟩ := h as M k e hs
  exact ⟨rfl, fun P0 E hE => h P0 E hE⟩
theorem mk__law_share {P : Program} {w : World} {K : PySem.W.Frag} {mg : Str → Option Value} {base : Heap} (T : Tx P K mg) (hv : Keeps K ["_law_top", "_law_bottom", "_law_one", "_law_other", "_law_rest"] ["_law_top", "_law_bottom"] (t__law_share K) (sp__law_share K)) : Cal P w K mg base "_law_share" 34 (lift K (sp__law_share K)) :=
  cal_mk T.d__law_share T.f__law_share sc__law_share bt__law_share (by decide) (fun cdv A outer s H E hr => p__law_share T  hr) hv

theorem v__law_share {K : PySem.W.Frag} : Keeps K ["_law_top", "_law_bottom", "_law_one", "_law_other", "_law_rest"] ["_law_top", "_law_bottom"] (t__law_share K) (sp__law_share K) := by
  refine ini__law_share ?_
  rintro as M k e ⟨a, b, rfl, ha, hb, hk⟩
  refine ⟨_, _, rfl, fun P0 E hE => ?_⟩
  unfold t__law_share
  walk_at "run"
  refine ws_while (fun m G' M' => ∃ (x y : Int) (z : Option Sv), G' = [some (.va (.int a)), some (.va (.int b)), some (.va (.int x)), some (.va (.int y)), z] ∧ M' = M ∧ 0 ≤ x ∧ 0 ≤ y ∧ Int.gcd x y = Int.gcd a b ∧ m = y.toNat) b.toNat ⟨a, b, none, rfl, rfl, ha, by omega, rfl, rfl⟩ ?_
  rintro m G' M' ⟨x, y, z, rfl, rfl, hx, hy, hg, rfl⟩
  refine' wt_P (by walk_at "tp") ⟨fun h => ?_, fun h => ?_⟩
  · have h : 0 < y := of_decide_eq_true h
    walk_at "run"
    have h1 := Int.emod_nonneg x (show y ≠ 0 by omega)
    have h2 := Int.emod_lt_of_pos x h
    exact ⟨(x % y).toNat, by omega, y, x % y, _, rfl, rfl, hy, h1, (gcd_step hx h).trans hg, rfl⟩
  · have h : ¬ 0 < y := of_decide_eq_false h
    have e : y = 0 := by omega
    subst e
    have ex : x = Int.gcd a b := by rw [← hg, gcd_zero_r hx]
    have hp : (0 : Int) < (Int.gcd a b : Int) := by
      have : Int.gcd a b ≠ 0 := fun z => by rw [Int.gcd_eq_zero_iff] at z; omega
      omega
    subst ex
    refine ws_ret (we_tup ?_)
    walk_at "run"
    refine r2_divR hp ?_
    walk_at "run"
    refine r2_divR hp ?_
    walk_at "run"
    refine ⟨[_, _], rfl, by simp, ?_⟩
    rw [← shD_shr (show 0 < b by omega)]
    exact hk
theorem cl_lshare {K : PySem.W.Frag} {t b : Int} {M : Mm} {k : Sv → Mm → Prop} {e : Value → Mm → Prop} (h1 : 0 ≤ t) (h2 : 1 ≤ b) (hk : k (.va (shD (shr t b))) M) : sp__law_share K [.va (.int t), .va (.int b)] M k e := ⟨t, b, rfl, h1, h2, hk⟩

def sp__law_added (_ : PySem.W.Frag) : SpD := fun as M k _ => ∃ r s : Rat, as = [.va (shD r), .va (shD s)] ∧ 0 ≤ r ∧ 0 ≤ s ∧ Fit r ∧ Fit s ∧ k (.va (shD (r + s))) M
theorem cl_ladded {K : PySem.W.Frag} {r s : Rat} {M : Mm} {k : Sv → Mm → Prop} {e : Value → Mm → Prop} (h1 : 0 ≤ r ∧ Fit r) (h2 : 0 ≤ s ∧ Fit s) (hk : k (.va (shD (r + s))) M) : sp__law_added K [.va (shD r), .va (shD s)] M k e := ⟨r, s, rfl, h1.1, h2.1, h1.2, h2.2, hk⟩
/-! _law_added -/
def t__law_added (K : PySem.W.Frag) (E : XK) : TS :=
  (tRet (tCall (lift K (sp__law_share K)) [] E0 (tCons (tOp (rAddA K) (tOp (rMulA K) (tOp (rIx K) (tVar 0) (tC (.int 0))) (tOp (rIx K) (tVar 1) (tC (.int 1)))) (tOp (rMulA K) (tOp (rIx K) (tVar 1) (tC (.int 0))) (tOp (rIx K) (tVar 0) (tC (.int 1))))) (tCons (tOp (rMulA K) (tOp (rIx K) (tVar 0) (tC (.int 1))) (tOp (rIx K) (tVar 1) (tC (.int 1)))) tNil))))
set_option maxHeartbeats 4000000 in
theorem p__law_added {P : Program} {w : World} {K : PySem.W.Frag} {mg : Str → Option Value} {base : Heap} (T : Tx P K mg) (c__law_share : Cal P w K mg base "_law_share" 34 (lift K (sp__law_share K))) {f : Addr} {cdv : Value} {A : Around} {outer : List Env} {s : Shared} {H : Hp} {E : XK} (hr : Room 34 (A.deeper (envOfC "_law_added" (defScope s__law_added) s.heap.objs.size f cdv))) :
    PSs (cxOf (L2.CX P w) P w K mg base ["_law_one", "_law_other"] "_law_added" (defScope s__law_added) f cdv A outer s H E) (defBody s__law_added) (t__law_added K E) := by
  have hu1 := hu_of hr
  have hu := hr.units
  have hu65 := hu_65 hr
  exact (pss_one (ps_ret (pcall c__law_share hr (by decide) (by rfl) passL (pa_cons (pe_op op_addA (pe_op op_mulA (pe_ix ix_seq (pv 0) pe_int (fun _ _ => rfl)) (pe_ix ix_seq (pv 1) pe_int (fun _ _ => rfl))) (pe_op op_mulA (pe_ix ix_seq (pv 1) pe_int (fun _ _ => rfl)) (pe_ix ix_seq (pv 0) pe_int (fun _ _ => rfl)))) (pa_cons (pe_op op_mulA (pe_ix ix_seq (pv 0) pe_int (fun _ _ => rfl)) (pe_ix ix_seq (pv 1) pe_int (fun _ _ => rfl))) pa_nil)))))
theorem ini__law_added {K : PySem.W.Frag} {sp : SpD} (h : ∀ as M k e, sp as M k e → ∃ a0 a1, as = [a0, a1] ∧ ∀ P0 E, XL K P0 E e → WS K P0 (t__law_added K E) [some a0, some a1] M (fun _ M' => k (.va .none) M') k (fun _ _ => False) (fun _ _ => False)) : Keeps K ["_law_one", "_law_other"] ["_law_one", "_law_other"] (t__law_added K) sp := fun as M k e hs => by
  obtain ⟨a0, a1, rfl, h⟩ := h as M k e hs
  exact ⟨rfl, fun P0 E hE => h P0 E hE⟩
theorem mk__law_added {P : Program} {w : World} {K : PySem.W.Frag} {mg : Str → Option Value} {base : Heap} (T : Tx P K mg) (c__law_share : Cal P w K mg base "_law_share" 34 (lift K (sp__law_share K))) (hv : Keeps K ["_law_one", "_law_other"] ["_law_one", "_law_other"] (t__law_added K) (sp__law_added K)) : Cal P w K mg base "_law_added" 35 (lift K (sp__law_added K)) :=
  cal_mk T.d__law_added T.f__law_added sc__law_added bt__law_added (by decide) (fun cdv A outer s H E hr => p__law_added T c__law_share hr) hv

theorem v__law_added {K : PySem.W.Frag} : Keeps K ["_law_one", "_law_other"] ["_law_one", "_law_other"] (t__law_added K) (sp__law_added K) := by
  refine ini__law_added ?_
  rintro as M k e ⟨r, s, rfl, hr, hs, fr, fs, hk⟩
  refine ⟨_, _, rfl, fun P0 E hE => ?_⟩
  unfold t__law_added
  walk_at "run"
  refine r2_mulI (mul_ok fr.1 fs.2) ?_
  walk_at "run"
  refine r2_mulI (mul_ok fs.1 fr.2) ?_
  walk_at "run"
  refine r2_mulI (mul_ok fr.2 fs.2) ?_
  walk_at "run"
  have h1 := num_nn hr
  have h2 := num_nn hs
  have h3 := den_pos r
  have h4 := den_pos s
  have h5 := Int.mul_nonneg h1 (Int.le_of_lt h4)
  have h6 := Int.mul_nonneg h2 (Int.le_of_lt h3)
  have h7 := Int.mul_pos h3 h4
  refine cl_lshare (by omega) (by omega) ?_
  rw [shr_add]
  exact hk
def sp__law_timed (_ : PySem.W.Frag) : SpD := fun as M k _ => ∃ r s : Rat, as = [.va (shD r), .va (shD s)] ∧ 0 ≤ r ∧ 0 ≤ s ∧ Fit r ∧ Fit s ∧ k (.va (shD (r * s))) M
theorem cl_ltimed {K : PySem.W.Frag} {r s : Rat} {M : Mm} {k : Sv → Mm → Prop} {e : Value → Mm → Prop} (h1 : 0 ≤ r ∧ Fit r) (h2 : 0 ≤ s ∧ Fit s) (hk : k (.va (shD (r * s))) M) : sp__law_timed K [.va (shD r), .va (shD s)] M k e := ⟨r, s, rfl, h1.1, h2.1, h1.2, h2.2, hk⟩
/-! _law_timed -/
def t__law_timed (K : PySem.W.Frag) (E : XK) : TS :=
  (tRet (tCall (lift K (sp__law_share K)) [] E0 (tCons (tOp (rMulA K) (tOp (rIx K) (tVar 0) (tC (.int 0))) (tOp (rIx K) (tVar 1) (tC (.int 0)))) (tCons (tOp (rMulA K) (tOp (rIx K) (tVar 0) (tC (.int 1))) (tOp (rIx K) (tVar 1) (tC (.int 1)))) tNil))))
set_option maxHeartbeats 4000000 in
theorem p__law_timed {P : Program} {w : World} {K : PySem.W.Frag} {mg : Str → Option Value} {base : Heap} (T : Tx P K mg) (c__law_share : Cal P w K mg base "_law_share" 34 (lift K (sp__law_share K))) {f : Addr} {cdv : Value} {A : Around} {outer : List Env} {s : Shared} {H : Hp} {E : XK} (hr : Room 34 (A.deeper (envOfC "_law_timed" (defScope s__law_timed) s.heap.objs.size f cdv))) :
    PSs (cxOf (L2.CX P w) P w K mg base ["_law_one", "_law_other"] "_law_timed" (defScope s__law_timed) f cdv A outer s H E) (defBody s__law_timed) (t__law_timed K E) := by
  have hu1 := hu_of hr
  have hu := hr.units
  have hu65 := hu_65 hr
  exact (pss_one (ps_ret (pcall c__law_share hr (by decide) (by rfl) passL (pa_cons (pe_op op_mulA (pe_ix ix_seq (pv 0) pe_int (fun _ _ => rfl)) (pe_ix ix_seq (pv 1) pe_int (fun _ _ => rfl))) (pa_cons (pe_op op_mulA (pe_ix ix_seq (pv 0) pe_int (fun _ _ => rfl)) (pe_ix ix_seq (pv 1) pe_int (fun _ _ => rfl))) pa_nil)))))
theorem ini__law_timed {K : PySem.W.Frag} {sp : SpD} (h : ∀ as M k e, sp as M k e → ∃ a0 a1, as = [a0, a1] ∧ ∀ P0 E, XL K P0 E e → WS K P0 (t__law_timed K E) [some a0, some a1] M (fun _ M' => k (.va .none) M') k (fun _ _ => False) (fun _ _ => False)) : Keeps K ["_law_one", "_law_other"] ["_law_one", "_law_other"] (t__law_timed K) sp := fun as M k e hs => by
  obtain ⟨a0, a1, rfl, h⟩ := h as M k e hs
  exact ⟨rfl, fun P0 E hE => h P0 E hE⟩
theorem mk__law_timed {P : Program} {w : World} {K : PySem.W.Frag} {mg : Str → Option Value} {base : Heap} (T : Tx P K mg) (c__law_share : Cal P w K mg base "_law_share" 34 (lift K (sp__law_share K))) (hv : Keeps K ["_law_one", "_law_other"] ["_law_one", "_law_other"] (t__law_timed K) (sp__law_timed K)) : Cal P w K mg base "_law_timed" 35 (lift K (sp__law_timed K)) :=
  cal_mk T.d__law_timed T.f__law_timed sc__law_timed bt__law_timed (by decide) (fun cdv A outer s H E hr => p__law_timed T c__law_share hr) hv

theorem v__law_timed {K : PySem.W.Frag} : Keeps K ["_law_one", "_law_other"] ["_law_one", "_law_other"] (t__law_timed K) (sp__law_timed K) := by
  refine ini__law_timed ?_
  rintro as M k e ⟨r, s, rfl, hr, hs, fr, fs, hk⟩
  refine ⟨_, _, rfl, fun P0 E hE => ?_⟩
  unfold t__law_timed
  walk_at "run"
  refine r2_mulI (mul_ok fr.1 fs.1) ?_
  walk_at "run"
  refine r2_mulI (mul_ok fr.2 fs.2) ?_
  walk_at "run"
  have h5 := Int.mul_nonneg (num_nn hr) (num_nn hs)
  have h7 := Int.mul_pos (den_pos r) (den_pos s)
  refine cl_lshare (by omega) (by omega) ?_
  rw [shr_mul]
  exact hk

def sp__law_is_share (_ : PySem.W.Frag) : SpD := fun as M k _ => ∃ r : Rat, as = [.va (shD r)] ∧ 0 ≤ r ∧ k (.va (.bool true)) M
/-! _law_is_share -/
def t__law_is_share (K : PySem.W.Frag) (E : XK) : TS :=
  (tSeq (tIfS (tOr (tNot (tB (tCB (rIsi K) (tCons (tVar 0) (tCons (tC (.ty "tuple")) tNil))))) (tTest (tOp (rNeD K) (tCB (rLenC K) (tCons (tVar 0) tNil)) (tC (.int 2)))))
  (tRet (tC (.bl false)))
  tNext)
  (tRet (tAndV (tCall (lift K (sp__law_whole K)) [] E0 (tCons (tOp (rIx K) (tVar 0) (tC (.int 0))) tNil)) (tAndV (tCall (lift K (sp__law_whole K)) [] E0 (tCons (tOp (rIx K) (tVar 0) (tC (.int 1))) tNil)) (tAndV (tOp rGeI (tOp (rIx K) (tVar 0) (tC (.int 0))) (tC (.int 0))) (tOp rGeI (tOp (rIx K) (tVar 0) (tC (.int 1))) (tC (.int 1))))))))
set_option maxHeartbeats 4000000 in
theorem p__law_is_share {P : Program} {w : World} {K : PySem.W.Frag} {mg : Str → Option Value} {base : Heap} (T : Tx P K mg) (c__law_whole : Cal P w K mg base "_law_whole" 1 (lift K (sp__law_whole K))) {f : Addr} {cdv : Value} {A : Around} {outer : List Env} {s : Shared} {H : Hp} {E : XK} (hr : Room 1 (A.deeper (envOfC "_law_is_share" (defScope s__law_is_share) s.heap.objs.size f cdv))) :
    PSs (cxOf (L2.CX P w) P w K mg base ["_law_found"] "_law_is_share" (defScope s__law_is_share) f cdv A outer s H E) (defBody s__law_is_share) (t__law_is_share K E) := by
  have hu1 := hu_of hr
  have hu := hr.units
  have hu65 := hu_65 hr
  exact (pss_cons (ps_if (PW.pt (pw_or (pt_not (pt_val (pe_callB call_isi (by rfl) T.z_isinstance (by decide +kernel) (pa_cons (pv 0) (pa_cons (pe_bltn (by rfl) T.z_tuple (by decide +kernel) rfl) pa_nil))))) (pw_or1 (pt_cmpR (op_neD hu) (pe_callB call_len (by rfl) T.z_len (by decide +kernel) (pa_cons (pv 0) pa_nil)) pe_int (nomark _)))))
  (pss_one (ps_ret pe_bl))
  pss_nil)
  (pss_one (ps_ret (pe_and (pcall c__law_whole hr (by decide) (by rfl) passL (pa_cons (pe_ix ix_seq (pv 0) pe_int (fun _ _ => rfl)) pa_nil)) (pe_and (pcall c__law_whole hr (by decide) (by rfl) passL (pa_cons (pe_ix ix_seq (pv 0) pe_int (fun _ _ => rfl)) pa_nil)) (pe_and (pe_cmpR op_ge (pe_ix ix_seq (pv 0) pe_int (fun _ _ => rfl)) pe_int (nomark _)) (pe_one (pe_cmpR op_ge (pe_ix ix_seq (pv 0) pe_int (fun _ _ => rfl)) pe_int (nomark _)))))))))
theorem ini__law_is_share {K : PySem.W.Frag} {sp : SpD} (h : ∀ as M k e, sp as M k e → ∃ a0, as = [a0] ∧ ∀ P0 E, XL K P0 E e → WS K P0 (t__law_is_share K E) [some a0] M (fun _ M' => k (.va .none) M') k (fun _ _ => False) (fun _ _ => False)) : Keeps K ["_law_found"] ["_law_found"] (t__law_is_share K) sp := fun as M k e hs => by
  obtain ⟨a0, rfl, h⟩ := h as M k e hs
  exact ⟨rfl, fun P0 E hE => h P0 E hE⟩
theorem mk__law_is_share {P : Program} {w : World} {K : PySem.W.Frag} {mg : Str → Option Value} {base : Heap} (T : Tx P K mg) (c__law_whole : Cal P w K mg base "_law_whole" 1 (lift K (sp__law_whole K))) (hv : Keeps K ["_law_found"] ["_law_found"] (t__law_is_share K) (sp__law_is_share K)) : Cal P w K mg base "_law_is_share" 2 (lift K (sp__law_is_share K)) :=
  cal_mk T.d__law_is_share T.f__law_is_share sc__law_is_share bt__law_is_share (by decide) (fun cdv A outer s H E hr => p__law_is_share T c__law_whole hr) hv

theorem v__law_is_share {K : PySem.W.Frag} : Keeps K ["_law_found"] ["_law_found"] (t__law_is_share K) (sp__law_is_share K) := by
  refine ini__law_is_share ?_
  rintro as M k e ⟨r, rfl, hr, hk⟩
  refine ⟨_, rfl, fun P0 E hE => ?_⟩
  unfold t__law_is_share
  walk_at "run"
  refine' ws_ifP (by walk_at "tp") (fun h => ?_) (fun h => ?_)
  · cases h
  clear h
  walk_at "run"
  walk_at "we"
  rw [decide_eq_true (num_nn hr), decide_eq_true (show (1 : Int) ≤ (r.den : Int) from den_pos r)]
  exact hk
theorem cl_is_share {K : PySem.W.Frag} {r : Rat} {M : Mm} {k : Sv → Mm → Prop} {e : Value → Mm → Prop} (h : 0 ≤ r) (hk : k (.va (.bool true)) M) : sp__law_is_share K [.va (shD r)] M k e := ⟨r, rfl, h, hk⟩

/-! law k03 -/
structure DrAt (M M' : Mm) (p : Addr) (n i : Nat) (S : Sy) (W F : Addr) (ad : Nat → Addr) : Prop where
  dice : ∃ d, M' p = some (diceO d) ∧ 0 ≤ d ∧ d < 2147483647
  rows : Rw M M' n S.R i ad
  rl : M' W = some (.lst (adL i ad))
  fl : M' F = some (.lst ((rowD i S.F).map Sv.va))
  ext : Mex (fun b => b = p) M M'
  nW : M W = none
  nF : M F = none
  dW : ∀ j, j < i → ad j ≠ W
  dF : ∀ j, j < i → ad j ≠ F
  WF : W ≠ F
theorem bits_small {z : Int} {m : Nat} (h : z.natAbs < 2 ^ m) : Builtin.Int.intBits z ≤ m := intBits_le_iff.mpr h
def sp__law_drawn (_ : PySem.W.Frag) : SpD := fun as M k _ => ∃ (p : Addr) (d : Int) (n : Nat), as = [.rf (.ref p), .va (.int (n : Int))] ∧ M p = some (diceO d) ∧ 0 ≤ d ∧ d < 2147483647 ∧ n ≤ 6 ∧
  ∀ (S : Sy) (d' : Int), SyB 10 10 n S → k (.va (.tuple [sysD n S, .list (rowD n S.F)])) (mup M p (diceO d'))
/-! _law_drawn -/
def t__law_drawn (K : PySem.W.Frag) (E : XK) : TS :=
  (tSeq (tAsg (tLst tNil) (gName 2))
  (tSeq (tAsg (tLst tNil) (gName 3))
  (tSeq (tFor (iRng1 (tCons (tVar 1) tNil)) (gName 4)
  (tSeq (tAsg (tLc (iRng1 (tCons (tVar 1) tNil)) (gName 6) tYes (tCall (lift K (sp__law_roll K)) [] E0 (tCons (tVar 0) (tCons (tC (.int 4)) tNil))) [6]) (gName 5))
  (tSeq (tAsg (tOp (rAddA K) (tOp (rAddA K) (tCB (rSum K) (tCons (tVar 5) tNil)) (tC (.int 1))) (tCall (lift K (sp__law_roll K)) [] E0 (tCons (tVar 0) (tCons (tC (.int 3)) tNil)))) (gName 7))
  (tSeq (tDrop (tBM K "list" rAppend (tVar 2) (tCons (tLc (iSeq K (tVar 5)) (gName 8) tYes (tCall (lift K (sp__law_share K)) [] E0 (tCons (tVar 8) (tCons (tVar 7) tNil))) [8]) tNil)))
  (tDrop (tBM K "list" rAppend (tVar 3) (tCons (tCall (lift K (sp__law_share K)) [] E0 (tCons (tCall (lift K (sp__law_roll K)) [] E0 (tCons (tVar 0) (tCons (tC (.int 10)) tNil))) (tCons (tOp (rAddA K) (tC (.int 1)) (tCall (lift K (sp__law_roll K)) [] E0 (tCons (tVar 0) (tCons (tC (.int 9)) tNil)))) tNil))) tNil)))))))
  (tSeq (tIfS (tAnd (tTest (tOp rGtI (tVar 1) (tC (.int 0)))) (tTest (tOp (rEqD K) (tCall (lift K (sp__law_roll K)) [] E0 (tCons (tVar 0) (tCons (tC (.int 3)) tNil))) (tC (.int 0)))))
  (tSeq (tAsg (tCall (lift K (sp__law_roll K)) [] E0 (tCons (tVar 0) (tCons (tVar 1) tNil))) (gName 9))
  (tSeq (tAsg (tCall (lift K (sp__law_roll K)) [] E0 (tCons (tVar 0) (tCons (tVar 1) tNil))) (gName 10))
  (tSeq (tAsg (tTup (tCons (tOp (rAddA K) (tC (.int 1)) (tCall (lift K (sp__law_roll K)) [] E0 (tCons (tVar 0) (tCons (tC (.int 2)) tNil)))) (tCons (tC (.int 1)) tNil))) (gSub (tOp (rIx K) (tVar 2) (tVar 9)) (tVar 10) rSetL))
  (tAsg (tTup (tCons (tC (.int 1)) (tCons (tOp (rAddA K) (tC (.int 1)) (tCall (lift K (sp__law_roll K)) [] E0 (tCons (tVar 0) (tCons (tC (.int 2)) tNil)))) tNil))) (gSub (tOp (rIx K) (tVar 2) (tVar 10)) (tVar 9) rSetL)))))
  tNext)
  (tRet (tTup (tCons (tVar 2) (tCons (tVar 3) tNil))))))))
set_option maxHeartbeats 4000000 in
theorem p__law_drawn {P : Program} {w : World} {K : PySem.W.Frag} {mg : Str → Option Value} {base : Heap} (T : Tx P K mg) (c__law_roll : Cal P w K mg base "_law_roll" 1 (lift K (sp__law_roll K))) (c__law_share : Cal P w K mg base "_law_share" 34 (lift K (sp__law_share K))) {f : Addr} {cdv : Value} {A : Around} {outer : List Env} {s : Shared} {H : Hp} {E : XK} (hr : Room 34 (A.deeper (envOfC "_law_drawn" (defScope s__law_drawn) s.heap.objs.size f cdv))) :
    PSs (cxOf (L2.CX P w) P w K mg base ["_law_dice_here", "_law_many", "_law_ways", "_law_ends_here", "_law_k", "_law_parts", "_law_j", "_law_whole_here", "_law_part", "_law_one", "_law_other"] "_law_drawn" (defScope s__law_drawn) f cdv A outer s H E) (defBody s__law_drawn) (t__law_drawn K E) := by
  have hu1 := hu_of hr
  have hu := hr.units
  have hu65 := hu_65 hr
  exact (pss_cons (ps_set (i := 2) sc__law_drawn.nd rfl (by first | exact Or.inl rfl | exact Or.inr rfl) (pe_lst pa_nil))
  (pss_cons (ps_set (i := 3) sc__law_drawn.nd rfl (by first | exact Or.inl rfl | exact Or.inr rfl) (pe_lst pa_nil))
  (pss_cons (ps_for (passes_of rfl) rfl (pi_range1 rfl T.z_range (pa_cons (pv 1) pa_nil)) (pg_name (i := 4) sc__law_drawn.nd rfl (by first | exact Or.inl rfl | exact Or.inr rfl))
  (pss_cons (ps_setLc (i := 5) (own := [("_law_j", 6)]) (g := (gName 6)) (tt := tYes) (te := (tCall (lift K (sp__law_roll K)) [] E0 (tCons (tVar 0) (tCons (tC (.int 4)) tNil)))) rfl sc__law_drawn.nd rfl rfl (sw_true rfl rfl rfl (by decide +kernel)) (pi_range1 rfl T.z_range (pa_cons (pv 1) pa_nil)) (blkOk_by (by first | decide +kernel | rfl)) (fun _ _ _ _ _ => (pg_name (i := 6) sc__law_drawn.nd rfl (by first | exact Or.inl rfl | exact Or.inr rfl))) (fun _ _ _ _ _ => pts_nil) (fun _ _ _ _ _ => (pcall c__law_roll hr (by decide) (by rfl) passL (pa_cons (pv 0) (pa_cons pe_int pa_nil)))))
  (pss_cons (ps_set (i := 7) sc__law_drawn.nd rfl (by first | exact Or.inl rfl | exact Or.inr rfl) (pe_op op_addA (pe_op op_addA (pe_callB (cr_sum rfl) (by rfl) T.z_sum (by decide +kernel) (pa_cons (pv 5) pa_nil)) pe_int) (pcall c__law_roll hr (by decide) (by rfl) passL (pa_cons (pv 0) (pa_cons pe_int pa_nil)))))
  (pss_cons (ps_expr (pe_bm PySem.F.plainAttrs_list PySem.F.slot_list_append PySem.F.type_list_append mt_append (pv 2) (pa_cons (pe_lc (own := [("_law_part", 8)]) (g := (gName 8)) (tt := tYes) (te := (tCall (lift K (sp__law_share K)) [] E0 (tCons (tVar 8) (tCons (tVar 7) tNil)))) rfl sc__law_drawn.nd (pi_seq (pv 5)) (blkOk_by (by first | decide +kernel | rfl)) (fun _ _ _ _ _ => (pg_name (i := 8) sc__law_drawn.nd rfl (by first | exact Or.inl rfl | exact Or.inr rfl))) (fun _ _ _ _ _ => pts_nil) (fun _ _ _ _ _ => (pcall c__law_share hr (by decide) (by rfl) passL (pa_cons (pv 8) (pa_cons (pv 7) pa_nil))))) pa_nil)))
  (pss_one (ps_expr (pe_bm PySem.F.plainAttrs_list PySem.F.slot_list_append PySem.F.type_list_append mt_append (pv 3) (pa_cons (pcall c__law_share hr (by decide) (by rfl) passL (pa_cons (pcall c__law_roll hr (by decide) (by rfl) passL (pa_cons (pv 0) (pa_cons pe_int pa_nil))) (pa_cons (pe_op op_addA pe_int (pcall c__law_roll hr (by decide) (by rfl) passL (pa_cons (pv 0) (pa_cons pe_int pa_nil)))) pa_nil))) pa_nil))))))))
  (pss_cons (ps_if (PW.pt (pw_and (pt_cmpR op_gt (pv 1) pe_int (nomark _)) (pw_and1 (pt_cmpR (op_eqD hu) (pcall c__law_roll hr (by decide) (by rfl) passL (pa_cons (pv 0) (pa_cons pe_int pa_nil))) pe_int (nomark _)))))
  (pss_cons (ps_set (i := 9) sc__law_drawn.nd rfl (by first | exact Or.inl rfl | exact Or.inr rfl) (pcall c__law_roll hr (by decide) (by rfl) passL (pa_cons (pv 0) (pa_cons (pv 1) pa_nil))))
  (pss_cons (ps_set (i := 10) sc__law_drawn.nd rfl (by first | exact Or.inl rfl | exact Or.inr rfl) (pcall c__law_roll hr (by decide) (by rfl) passL (pa_cons (pv 0) (pa_cons (pv 1) pa_nil))))
  (pss_cons (ps_asg (pe_tup (pa_cons (pe_op op_addA pe_int (pcall c__law_roll hr (by decide) (by rfl) passL (pa_cons (pv 0) (pa_cons pe_int pa_nil)))) (pa_cons pe_int pa_nil))) (pg_sub (pe_ix ix_seq (pv 2) (pv 9) (fun _ _ => rfl)) (pv 10) set_list))
  (pss_one (ps_asg (pe_tup (pa_cons pe_int (pa_cons (pe_op op_addA pe_int (pcall c__law_roll hr (by decide) (by rfl) passL (pa_cons (pv 0) (pa_cons pe_int pa_nil)))) pa_nil))) (pg_sub (pe_ix ix_seq (pv 2) (pv 10) (fun _ _ => rfl)) (pv 9) set_list))))))
  pss_nil)
  (pss_one (ps_ret (pe_tup (pa_cons (pv 2) (pa_cons (pv 3) pa_nil)))))))))
theorem ini__law_drawn {K : PySem.W.Frag} {sp : SpD} (h : ∀ as M k e, sp as M k e → ∃ a0 a1, as = [a0, a1] ∧ ∀ P0 E, XL K P0 E e → WS K P0 (t__law_drawn K E) [some a0, some a1, none, none, none, none, none, none, none, none, none] M (fun _ M' => k (.va .none) M') k (fun _ _ => False) (fun _ _ => False)) : Keeps K ["_law_dice_here", "_law_many", "_law_ways", "_law_ends_here", "_law_k", "_law_parts", "_law_j", "_law_whole_here", "_law_part", "_law_one", "_law_other"] ["_law_dice_here", "_law_many"] (t__law_drawn K) sp := fun as M k e hs => by
  obtain ⟨a0, a1, rfl, h⟩ := h as M k e hs
  exact ⟨rfl, fun P0 E hE => h P0 E hE⟩
theorem mk__law_drawn {P : Program} {w : World} {K : PySem.W.Frag} {mg : Str → Option Value} {base : Heap} (T : Tx P K mg) (c__law_roll : Cal P w K mg base "_law_roll" 1 (lift K (sp__law_roll K))) (c__law_share : Cal P w K mg base "_law_share" 34 (lift K (sp__law_share K))) (hv : Keeps K ["_law_dice_here", "_law_many", "_law_ways", "_law_ends_here", "_law_k", "_law_parts", "_law_j", "_law_whole_here", "_law_part", "_law_one", "_law_other"] ["_law_dice_here", "_law_many"] (t__law_drawn K) (sp__law_drawn K)) : Cal P w K mg base "_law_drawn" 35 (lift K (sp__law_drawn K)) :=
  cal_mk T.d__law_drawn T.f__law_drawn sc__law_drawn bt__law_drawn (by decide) (fun cdv A outer s H E hr => p__law_drawn T c__law_roll c__law_share hr) hv

theorem v__law_drawn {K : PySem.W.Frag} : Keeps K ["_law_dice_here", "_law_many", "_law_ways", "_law_ends_here", "_law_k", "_law_parts", "_law_j", "_law_whole_here", "_law_part", "_law_one", "_law_other"] ["_law_dice_here", "_law_many"] (t__law_drawn K) (sp__law_drawn K) := by
  refine ini__law_drawn ?_
  rintro as M k e ⟨p, d, n, rfl, hp, hd0, hd1, hn, hk⟩
  refine ⟨_, _, rfl, fun P0 E hE => ?_⟩
  unfold t__law_drawn
  walk_at "run"
  refine we_lst (wa_nil ⟨by simp, fun W hW => ?_⟩)
  walk_at "run"
  refine we_lst (wa_nil ⟨by simp, fun F hF => ?_⟩)
  have hFW : F ≠ W := fun z => by rw [z, mup_same] at hF; cases hF
  rw [mup_ne hFW] at hF
  have hp0 : M p ≠ none := by rw [hp]; intro z; cases z
  have npW : p ≠ W := mne hp hW
  have npF : p ≠ F := mne hp hF
  walk_at "run"
  refine ws_for (wi_rng1 ?_)
  walk_at "run"
  refine ⟨_, rfl, by omega, by omega, ?_⟩
  rw [Int.toNat_natCast]
  refine ⟨fun i G' M' => (∃ z4 z5 z6 z7 z8, G' = [some (.rf (.ref p)), some (.va (.int (n : Int))), some (.rf (.ref W)), some (.rf (.ref F)), z4, z5, z6, z7, z8, none, none]) ∧
    ∃ (S : Sy) (ad : Nat → Addr), DrAt M M' p n i S W F ad ∧ ∀ j, j < i → Row 6 n (S.R j) ∧ 0 ≤ S.F j ∧ Bt 10 (S.F j),
    ⟨⟨_, _, _, _, _, rfl⟩, ⟨fun _ _ => 0, fun _ => 0⟩, fun _ => 0, ⟨⟨d, by rw [mup_ne npF, mup_ne npW]; exact hp, hd0, hd1⟩, ⟨fun j h => by omega, fun j h => by omega, fun j l h => by omega⟩, by rw [mup_ne (Ne.symm hFW), mup_same]; rfl, by rw [mup_same]; rfl,
      fun a o h _ => by rw [mup_ne (mne h hF), mup_ne (mne h hW)]; exact h, hW, hF, fun j h => by omega, fun j h => by omega, Ne.symm hFW⟩, fun j h => by omega⟩, fun _ _ _ _ _ => trivial, ?_, ?_⟩
  · clear hd0 hd1 hp d
    rintro i G' M' hi ⟨⟨z4, z5, z6, z7, z8, rfl⟩, S, ad, A, hS⟩
    obtain ⟨d, hp, hd0, hd1⟩ := A.dice
    refine wg_name ?_
    walk_at "run"
    refine we_lcF (gon_name (by decide)) (wi_rng1 ?_)
    walk_at "run"
    refine ⟨_, rfl, by omega, by omega, fun q hq => ?_⟩
    have npq : p ≠ q := mne hp hq
    refine ⟨fun i M'' acc => ∃ (d' : Int) (zs : List Int), M'' = mup M' p (diceO d') ∧ 0 ≤ d' ∧ d' < 2147483647 ∧ acc = zs.map PyData.int ∧ zs.length = i ∧ ∀ z ∈ zs, 0 ≤ z ∧ z < 4, ⟨d, [], by rw [mup_id hp], hd0, hd1, rfl, rfl, fun z h => by cases h⟩, ?_, ?_, ?_⟩
    · rintro j M'' acc hj ⟨d', zs, rfl, a, b, rfl, hl, hz⟩
      refine ⟨trivial, by rw [mup_ne (Ne.symm npq)]; exact hq, ?_⟩
      rw [List.length_map]
      omega
    · rintro j M'' acc hj ⟨d', zs, rfl, a, b, rfl, hl, hz⟩
      refine wg_name (wt_yes ⟨fun _ => ?_, fun z => by cases z⟩)
      walk_at "run"
      refine cl_roll ⟨by rw [mup_ne npq, mup_same], a, b⟩ (by decide) (by decide) fun d2 r hd2 r0 r1 => ?_
      refine ⟨.int r, mup M' p (diceO d2), rfl, ?_, d2, zs ++ [r], rfl, hd2.1, hd2.2, by rw [List.map_append]; rfl, by rw [List.length_append, hl]; rfl, fun z hz' => ?_⟩
      · rw [mup_comm npq, mup_mup, mup_comm (Ne.symm npq)]
      · rcases List.mem_append.mp hz' with h | h
        · exact hz z h
        · rw [List.mem_singleton.mp h]; exact ⟨r0, r1⟩
    rintro M'' acc ⟨d', zs, rfl, hd0', hd1', rfl, hl, hz⟩
    rw [Int.toNat_natCast] at hl
    walk_at "run"
    refine rc_sum (RL.sh _) ?_
    walk_at "run"
    refine cl_roll ⟨mup_same, hd0', hd1'⟩ (by decide) (by decide) fun d2 r hd2 r0 r1 => ?_
    rw [mup_mup]
    walk_at "run"
    have hsum : 0 ≤ zs.sum ∧ zs.sum ≤ 4 * zs.length := by
      clear hl
      induction zs with
      | nil => simp
      | cons z zs ih =>
        have h1 := hz z List.mem_cons_self
        have h2 := ih fun y hy => hz y (List.mem_cons_of_mem _ hy)
        rw [List.sum_cons, List.length_cons]
        omega
    generalize hw : zs.sum + 1 + r = whole
    have hw0 : 1 ≤ whole := by omega
    have hw1 : whole ≤ 27 := by omega
    have nWp : W ≠ p := Ne.symm npW
    have nFp : F ≠ p := Ne.symm npF
    refine we_append ?_
    walk_at "run"
    refine ⟨W, rfl, ⟨_, by rw [mup_ne nWp]; exact A.rl⟩, wa_cons ?_⟩
    refine we_lcPO (gon_name (by decide)) (wi_seqL ?_)
    walk_at "run"
    refine ⟨_, RL.sh _, fun j => some (shD (shr (zs.getD j 0) whole)), by simp; omega, fun M' _ => RL.sh _, ?_, ?_⟩
    · intro j M2 hj hM
      have hj : j < zs.length := by simpa using hj
      refine wg_name ⟨rfl, wt_yes ⟨rfl, fun _ => ?_, fun z => by cases z⟩⟩
      have e0 : (List.map Sv.va (List.map PyData.int zs)).getD j (.va .none) = .va (.int (zs.getD j 0)) := by
        rw [List.getD_eq_getElem?_getD, List.getD_eq_getElem?_getD]
        simp [hj]
      simp only [e0]
      walk_at "run"
      have h3 : 0 ≤ zs.getD j 0 := by
        rw [List.getD_eq_getElem?_getD, List.getElem?_eq_getElem hj]
        exact (hz _ (List.getElem_mem hj)).1
      exact cl_lshare h3 hw0 ⟨rfl, _, rfl, rfl⟩
    intro q2 hq2
    have elen : (List.map Sv.va (List.map PyData.int zs)).length = n := by simp [hl]
    rw [elen, filterMap_all fun j _ => rfl]
    have q2p : q2 ≠ p := fun z => by rw [z, mup_same] at hq2; cases hq2
    rw [mup_ne q2p] at hq2
    have q2W : q2 ≠ W := fun z => by rw [z, A.rl] at hq2; cases hq2
    have q2F : q2 ≠ F := fun z => by rw [z, A.fl] at hq2; cases hq2
    have q2a : ∀ j, j < i → ad j ≠ q2 := fun j hj z => by
      have := A.rows.is_ j hj
      rw [z, hq2] at this; cases this
    have pa : ∀ j, j < i → ad j ≠ p := fun j hj z => by
      have h1 := A.rows.nw j hj
      rw [z] at h1
      exact hp0 h1
    walk_at "run"
    refine ⟨_, _, rfl, by rw [mup_ne (Ne.symm q2W), mup_ne nWp]; exact A.rl, by rw [adL_len]; omega, ?_⟩
    rw [adL_succ]
    walk_at "run"
    refine we_append ?_
    walk_at "run"
    refine ⟨F, rfl, ⟨_, by rw [mup_ne (Ne.symm A.WF), mup_ne (Ne.symm q2F), mup_ne nFp]; exact A.fl⟩, ?_⟩
    walk_at "run"
    refine cl_roll ⟨by rw [mup_ne npW, mup_ne (Ne.symm q2p), mup_same], hd2.1, hd2.2⟩ (by decide) (by decide) fun d3 t hd3 t0 t1 => ?_
    walk_at "run"
    refine cl_roll ⟨mup_same, hd3.1, hd3.2⟩ (by decide) (by decide) fun d4 b hd4 b0 b1 => ?_
    rw [mup_mup]
    walk_at "run"
    refine cl_lshare t0 (by omega) ?_
    walk_at "run"
    refine ⟨_, _, rfl, by rw [mup_ne nFp, mup_ne (Ne.symm A.WF), mup_ne (Ne.symm q2F), mup_ne nFp]; exact A.fl, by rw [rowS_len]; omega, ?_⟩
    rw [rowS_push]
    have hq0 : M q2 = none := by
      cases z : M q2 with
      | none => rfl
      | some o => rw [A.ext q2 o z q2p] at hq2; cases hq2
    refine ⟨⟨_, _, _, _, _, rfl⟩, ⟨fun j l => if j = i then shr (zs.getD l 0) whole else S.R j l, fun j => if j = i then shr t (1 + b) else S.F j⟩, fun j => if j = i then q2 else ad j, ⟨⟨d4, by rw [mup_ne npF, mup_same], hd4.1, hd4.2⟩, ?_, ?_, ?_, ?_, hW, hF, ?_, ?_, A.WF⟩, ?_⟩
    · refine (A.rows.congr fun j l hj hl => ?_).push hq0 ?_ q2a fun j hj => ?_
      · show _ = (if j = i then shr (zs.getD l 0) whole else S.R j l)
        rw [if_neg (by omega)]
      · rw [mup_ne q2F, mup_ne q2p, mup_ne q2W, mup_same]
        congr 3
        refine rowD_congr fun j hj => ?_
        show _ = (if i = i then shr (zs.getD j 0) whole else S.R i j)
        rw [if_pos rfl]
      · rw [mup_ne (A.dF j hj), mup_ne (pa j hj), mup_ne (A.dW j hj), mup_ne (q2a j hj), mup_ne (pa j hj)]
    · rw [mup_ne A.WF, mup_ne nWp, mup_same]
    · rw [mup_same]
    · intro a o h ha
      rw [mup_ne (mne h hF), mup_ne ha, mup_ne (mne h hW), mup_ne (mne h hq0), mup_ne ha]
      exact A.ext a o h ha
    · intro j hj
      show (if j = i then q2 else ad j) ≠ W
      by_cases z : j = i
      · rw [if_pos z]; exact q2W
      · rw [if_neg z]; exact A.dW j (by omega)
    · intro j hj
      show (if j = i then q2 else ad j) ≠ F
      by_cases z : j = i
      · rw [if_pos z]; exact q2F
      · rw [if_neg z]; exact A.dF j (by omega)
    · intro j hj
      by_cases z : j = i
      · subst z
        show Row 6 n (fun l => if j = j then shr (zs.getD l 0) whole else S.R j l) ∧ 0 ≤ (if j = j then shr t (1 + b) else S.F j) ∧ Bt 10 (if j = j then shr t (1 + b) else S.F j)
        rw [if_pos rfl]
        refine ⟨⟨whole, by omega, bits_small (by omega), fun l hl' => ⟨zs.getD l 0, ?_, ?_, ?_⟩⟩, ?_, bt_shr (by omega) (bits_small (by omega)) (bits_small (by omega))⟩
        · rw [List.getD_eq_getElem?_getD, List.getElem?_eq_getElem (by omega)]
          exact (hz _ (List.getElem_mem (by omega))).1
        · rw [List.getD_eq_getElem?_getD, List.getElem?_eq_getElem (by omega)]
          have := hz _ (List.getElem_mem (show l < zs.length by omega))
          exact bits_small (by simp only [Option.getD_some]; omega)
        · show (if j = j then shr (zs.getD l 0) whole else S.R j l) = _
          rw [if_pos rfl, shr_eq _ _ (by omega)]
        · rw [shr_eq _ _ (by omega)]
          exact nn_div (rat_nn t0) (rat_pos (by omega))
      · show Row 6 n (fun l => if j = i then shr (zs.getD l 0) whole else S.R j l) ∧ 0 ≤ (if j = i then shr t (1 + b) else S.F j) ∧ Bt 10 (if j = i then shr t (1 + b) else S.F j)
        simp only [if_neg z]
        exact hS j (by omega)
  · rintro G' M' ⟨⟨z4, z5, z6, z7, z8, rfl⟩, S, ad, A, hS⟩
    clear hd0 hd1 hp d
    have nWp : W ≠ p := Ne.symm npW
    have nFp : F ≠ p := Ne.symm npF
    have pa : ∀ j, j < n → ad j ≠ p := fun j hj z => by
      have h1 := A.rows.nw j hj
      rw [z] at h1
      exact hp0 h1
    walk_at "run"
    refine ws_mid (fun G' M' => (∃ z4 z5 z6 z7 z8 z9 z10, G' = [some (.rf (.ref p)), some (.va (.int (n : Int))), some (.rf (.ref W)), some (.rf (.ref F)), z4, z5, z6, z7, z8, z9, z10]) ∧
      ∃ S, DrAt M M' p n n S W F ad ∧ ∀ j, j < n → Row 10 n (S.R j) ∧ 0 ≤ S.F j ∧ Bt 10 (S.F j)) ?_ ?_
    · obtain ⟨d, hp, hd0, hd1⟩ := A.dice
      refine ws_if (wt_and (wt_test ?_))
      walk_at "run"
      refine ⟨_, rfl, fun h => ?_, fun h => ⟨fun z => (by cases z), fun _ => ?_⟩⟩
      · have hn0 : 0 < n := by
          have : (0 : Int) < (n : Int) := of_decide_eq_true h
          omega
        refine wt_test ?_
        walk_at "run"
        refine cl_roll ⟨hp, hd0, hd1⟩ (by decide) (by decide) fun d2 r hd2 r0 r1 => ?_
        walk_at "run"
        have A2 : DrAt M (mup M' p (diceO d2)) p n n S W F ad := ⟨⟨d2, mup_same, hd2.1, hd2.2⟩, A.rows.mono fun j hj => mup_ne (pa j hj), by rw [mup_ne nWp]; exact A.rl, by rw [mup_ne nFp]; exact A.fl, fun a o h ha => by rw [mup_ne ha]; exact A.ext a o h ha, A.nW, A.nF, A.dW, A.dF, A.WF⟩
        refine ⟨_, rfl, fun _ => ?_, fun _ => ?_⟩
        · walk_at "run"
          refine cl_roll ⟨mup_same, hd2⟩ (by omega) (by omega) fun d3 one hd3 o0 o1 => ?_
          rw [mup_mup]
          walk_at "run"
          refine cl_roll ⟨mup_same, hd3⟩ (by omega) (by omega) fun d4 oth hd4 q0 q1 => ?_
          rw [mup_mup]
          obtain ⟨one, rfl⟩ := Int.eq_ofNat_of_zero_le o0
          obtain ⟨oth, rfl⟩ := Int.eq_ofNat_of_zero_le q0
          have o1 : one < n := by omega
          have q1 : oth < n := by omega
          walk_at "run"
          refine ws_asgG (we_tup ?_)
          walk_at "run"
          refine cl_roll ⟨mup_same, hd4⟩ (by decide) (by decide) fun d5 x hd5 x0 x1 => ?_
          rw [mup_mup]
          walk_at "run"
          refine ⟨[_, _], rfl, by simp, ?_⟩
          rw [← shD_int]
          refine wg_subL ?_
          walk_at "run"
          refine r2_ixL (RL.ow (by rw [mup_ne nWp]; exact A.rl)) (atI_nat (adL_at o1)) ?_
          walk_at "run"
          refine ⟨ad one, _, _, oth, rfl, rfl, by rw [mup_ne (pa one o1)]; exact A.rows.is_ one o1, ixN_row q1, ?_⟩
          rw [rowS_set]
          walk_at "run"
          refine ws_asgG (we_tup ?_)
          walk_at "run"
          refine cl_roll ⟨by rw [mup_ne (Ne.symm (pa one o1)), mup_same], hd5⟩ (by decide) (by decide) fun d6 y hd6 y0 y1 => ?_
          walk_at "run"
          refine ⟨[_, _], rfl, by simp, ?_⟩
          rw [← shD_inv (by omega)]
          have hrl : (mup (mup (mup M' p (diceO d5)) (ad one) (.lst ((rowD n fun i => if i = oth then shr (1 + x) 1 else S.R one i).map Sv.va))) p (diceO d6)) W = some (.lst (adL n ad)) := by
            rw [mup_ne nWp, mup_ne (Ne.symm (A.dW one o1)), mup_ne nWp]; exact A.rl
          have hR2 := (A.rows.set (M' := mup (mup (mup M' p (diceO d5)) (ad one) (.lst ((rowD n fun i => if i = oth then shr (1 + x) 1 else S.R one i).map Sv.va))) p (diceO d6)) o1 (w := fun i => if i = oth then shr (1 + x) 1 else S.R one i) (by rw [mup_ne (pa one o1), mup_same]) fun j hj hjo => by
            rw [mup_ne (pa j hj), mup_ne (A.rows.inj j one hj o1 hjo), mup_ne (pa j hj)])
          refine wg_subL ?_
          walk_at "run"
          refine r2_ixL (RL.ow hrl) (atI_nat (adL_at q1)) ?_
          walk_at "run"
          refine ⟨ad oth, _, _, one, rfl, rfl, hR2.is_ oth q1, ixN_row o1, ?_⟩
          rw [rowS_set]
          generalize hM6 : mup (mup (mup M' p (diceO d5)) (ad one) (.lst ((rowD n fun i => if i = oth then shr (1 + x) 1 else S.R one i).map Sv.va))) p (diceO d6) = M6 at hrl hR2
          have e6 : ∀ a, a ≠ p → a ≠ ad one → M6 a = M' a := fun a h1 h2 => by rw [← hM6, mup_ne h1, mup_ne h2, mup_ne h1]
          refine ⟨⟨_, _, _, _, _, _, _, rfl⟩, ⟨_, S.F⟩, ⟨⟨d6, ?_, hd6.1, hd6.2⟩, hR2.set q1 mup_same fun j hj hjo => mup_ne (A.rows.inj j oth hj q1 hjo), ?_, ?_, ?_, A.nW, A.nF, A.dW, A.dF, A.WF⟩, ?_⟩
          · rw [mup_ne (Ne.symm (pa oth q1)), ← hM6, mup_same]
          · rw [mup_ne (Ne.symm (A.dW oth q1))]; exact hrl
          · rw [mup_ne (Ne.symm (A.dF oth q1)), e6 F nFp (Ne.symm (A.dF one o1))]; exact A.fl
          · intro a o h ha
            rw [mup_ne (mne h (A.rows.nw oth q1)), e6 a ha (mne h (A.rows.nw one o1))]
            exact A.ext a o h ha
          · intro j hj
            refine ⟨?_, (hS j hj).2⟩
            have r1 : Row 8 n (if j = one then fun i => if i = oth then shr (1 + x) 1 else S.R one i else S.R j) := by
              by_cases z : j = one
              · rw [if_pos z]; exact (hS one o1).1.set (c := 2) (by omega) (by decide) (bits_small (by omega)) (by decide)
              · rw [if_neg z]; exact (hS j hj).1.mono (by decide)
            by_cases z : j = oth
            · show Row 10 n (if j = oth then _ else _)
              rw [if_pos z]
              subst z
              exact r1.set (c := 2) (by decide) (by omega) (by decide) (bits_small (by omega))
            · show Row 10 n (if j = oth then _ else _)
              rw [if_neg z]
              exact r1.mono (by decide)
        · walk_at "run"
          exact ⟨⟨_, _, _, _, _, _, _, rfl⟩, S, A2, fun j hj => ⟨(hS j hj).1.mono (by decide), (hS j hj).2⟩⟩
      · walk_at "run"
        exact ⟨⟨_, _, _, _, _, _, _, rfl⟩, S, A, fun j hj => ⟨(hS j hj).1.mono (by decide), (hS j hj).2⟩⟩
    clear A hS S M'
    rintro G' M' ⟨⟨z4, z5, z6, z7, z8, z9, z10, rfl⟩, S, A, hS⟩
    obtain ⟨d, hp, hd0, hd1⟩ := A.dice
    refine ws_ret (we_frz (we_tupO ?_))
    walk_at "run"
    refine ⟨by simp, fun q hq => ?_⟩
    have q0 : ∀ b, M b = none → b ≠ p → (mup M p (diceO d)) b = none := fun b hb hbp => by rw [mup_ne hbp]; exact hb
    have qp : q ≠ p := fun z => by rw [z, hp] at hq; cases hq
    have qW : q ≠ W := fun z => by rw [z, A.rl] at hq; cases hq
    have qF : q ≠ F := fun z => by rw [z, A.fl] at hq; cases hq
    have hq0 : M q = none := by
      cases z : M q with
      | none => rfl
      | some o => rw [A.ext q o z qp] at hq; cases hq
    refine ⟨mup M p (diceO d), .tuple [sysD n S, .list (rowD n S.F)], fun a o h => ?_, .tup mup_same (q0 q hq0 qp) (.cons (.lst (by rw [mup_ne (Ne.symm qW)]; exact A.rl) (q0 W A.nW nWp) ?_) (.cons (.lst (by rw [mup_ne (Ne.symm qF)]; exact A.fl) (q0 F A.nF nFp) (deepFs_va _)) .nil)), ?_⟩
    · by_cases z : a = p
      · subst z
        rw [mup_same] at h
        rw [mup_ne (Ne.symm qp), hp]
        exact h
      · rw [mup_ne z] at h
        rw [mup_ne (mne h hq0)]
        exact A.ext a o h z
    · refine deepFs_of (f := fun i => Sv.rf (.ref (ad i))) _ fun j hj => ?_
      have hj := List.mem_range.mp hj
      exact .lst (by rw [mup_ne (fun z => by have := A.rows.is_ j hj; rw [z, hq] at this; cases this)]; exact A.rows.is_ j hj) (q0 _ (A.rows.nw j hj) (pa j hj)) (deepFs_va _)
    · exact hk S d fun i hi => ⟨(hS i hi).1, (hS i hi).2⟩
def sp__law_ends (_ : PySem.W.Frag) : SpD := fun as M k _ => ∃ (n : Nat) (S : Sy), as = [.va (sysD n S)] ∧ n ≤ 6 ∧ SyB 10 10 n S ∧ ((∀ t, t < n → (gSt S t).R t t < 1) → k (.va (.bool true)) M) ∧
  (∀ t, t < n → (∀ u, u < t → (gSt S u).R u u < 1) → 1 ≤ (gSt S t).R t t → k (.va (.bool false)) M)
/-! _law_ends -/
def t__law_ends (K : PySem.W.Frag) (E : XK) : TS :=
  (tSeq (tAsg (tLc (iSeq K (tVar 0)) (gName 2) tYes (tCB (rListC K) (tCons (tVar 2) tNil)) [2]) (gName 1))
  (tSeq (tFor (iRng1 (tCons (tCB (rLenC K) (tCons (tVar 1) tNil)) tNil)) (gName 3)
  (tSeq (tAsg (tOp (rIx K) (tOp (rIx K) (tVar 1) (tVar 3)) (tVar 3)) (gName 4))
  (tSeq (tIfS (tTest (tOp rGeI (tOp (rIx K) (tVar 4) (tC (.int 0))) (tOp (rIx K) (tVar 4) (tC (.int 1)))))
  (tRet (tC (.bl false)))
  tNext)
  (tSeq (tAsg (tCall (lift K (sp__law_share K)) [] E0 (tCons (tOp (rIx K) (tVar 4) (tC (.int 1))) (tCons (tOp rSubI (tOp (rIx K) (tVar 4) (tC (.int 1))) (tOp (rIx K) (tVar 4) (tC (.int 0)))) tNil))) (gName 5))
  (tFor (iRng2 (tCons (tOp (rAddA K) (tVar 3) (tC (.int 1))) (tCons (tCB (rLenC K) (tCons (tVar 1) tNil)) tNil))) (gName 6)
  (tSeq (tAsg (tCall (lift K (sp__law_timed K)) [] E0 (tCons (tOp (rIx K) (tOp (rIx K) (tVar 1) (tVar 6)) (tVar 3)) (tCons (tVar 5) tNil))) (gName 7))
  (tFor (iRng2 (tCons (tOp (rAddA K) (tVar 3) (tC (.int 1))) (tCons (tCB (rLenC K) (tCons (tVar 1) tNil)) tNil))) (gName 8)
  (tAsg (tCall (lift K (sp__law_added K)) [] E0 (tCons (tOp (rIx K) (tOp (rIx K) (tVar 1) (tVar 6)) (tVar 8)) (tCons (tCall (lift K (sp__law_timed K)) [] E0 (tCons (tVar 7) (tCons (tOp (rIx K) (tOp (rIx K) (tVar 1) (tVar 3)) (tVar 8)) tNil))) tNil))) (gSub (tOp (rIx K) (tVar 1) (tVar 6)) (tVar 8) rSetL)))))))))
  (tRet (tC (.bl true)))))
set_option maxHeartbeats 4000000 in
theorem p__law_ends {P : Program} {w : World} {K : PySem.W.Frag} {mg : Str → Option Value} {base : Heap} (T : Tx P K mg) (c__law_added : Cal P w K mg base "_law_added" 35 (lift K (sp__law_added K))) (c__law_timed : Cal P w K mg base "_law_timed" 35 (lift K (sp__law_timed K))) (c__law_share : Cal P w K mg base "_law_share" 34 (lift K (sp__law_share K))) {f : Addr} {cdv : Value} {A : Around} {outer : List Env} {s : Shared} {H : Hp} {E : XK} (hr : Room 35 (A.deeper (envOfC "_law_ends" (defScope s__law_ends) s.heap.objs.size f cdv))) :
    PSs (cxOf (L2.CX P w) P w K mg base ["_law_ways", "_law_rows", "_law_row", "_law_at", "_law_own", "_law_rest", "_law_k", "_law_factor", "_law_j"] "_law_ends" (defScope s__law_ends) f cdv A outer s H E) (defBody s__law_ends) (t__law_ends K E) := by
  have hu1 := hu_of hr
  have hu := hr.units
  have hu65 := hu_65 hr
  exact (pss_cons (ps_setLc (i := 1) (own := [("_law_row", 2)]) (g := (gName 2)) (tt := tYes) (te := (tCB (rListC K) (tCons (tVar 2) tNil))) rfl sc__law_ends.nd rfl rfl (sw_true rfl rfl rfl (by decide +kernel)) (pi_seq (pv 0)) (blkOk_by (by first | decide +kernel | rfl)) (fun _ _ _ _ _ => (pg_name (i := 2) sc__law_ends.nd rfl (by first | exact Or.inl rfl | exact Or.inr rfl))) (fun _ _ _ _ _ => pts_nil) (fun _ _ _ _ _ => (pe_callTy call_listA (by rfl) T.z_list (by decide +kernel) (pa_cons (pv 2) pa_nil))))
  (pss_cons (ps_for (passes_of rfl) rfl (pi_range1 rfl T.z_range (pa_cons (pe_callB call_len (by rfl) T.z_len (by decide +kernel) (pa_cons (pv 1) pa_nil)) pa_nil)) (pg_name (i := 3) sc__law_ends.nd rfl (by first | exact Or.inl rfl | exact Or.inr rfl))
  (pss_cons (ps_set (i := 4) sc__law_ends.nd rfl (by first | exact Or.inl rfl | exact Or.inr rfl) (pe_ix ix_seq (pe_ix ix_seq (pv 1) (pv 3) (fun _ _ => rfl)) (pv 3) (fun _ _ => rfl)))
  (pss_cons (ps_if (pt_cmpR op_ge (pe_ix ix_seq (pv 4) pe_int (fun _ _ => rfl)) (pe_ix ix_seq (pv 4) pe_int (fun _ _ => rfl)) (nomark _))
  (pss_one (ps_ret pe_bl))
  pss_nil)
  (pss_cons (ps_set (i := 5) sc__law_ends.nd rfl (by first | exact Or.inl rfl | exact Or.inr rfl) (pcall c__law_share hr (by decide) (by rfl) passL (pa_cons (pe_ix ix_seq (pv 4) pe_int (fun _ _ => rfl)) (pa_cons (pe_op op_sub (pe_ix ix_seq (pv 4) pe_int (fun _ _ => rfl)) (pe_ix ix_seq (pv 4) pe_int (fun _ _ => rfl))) pa_nil))))
  (pss_one (ps_for (passes_of rfl) rfl (pi_range2 rfl T.z_range (pa_cons (pe_op op_addA (pv 3) pe_int) (pa_cons (pe_callB call_len (by rfl) T.z_len (by decide +kernel) (pa_cons (pv 1) pa_nil)) pa_nil))) (pg_name (i := 6) sc__law_ends.nd rfl (by first | exact Or.inl rfl | exact Or.inr rfl))
  (pss_cons (ps_set (i := 7) sc__law_ends.nd rfl (by first | exact Or.inl rfl | exact Or.inr rfl) (pcall c__law_timed hr (by decide) (by rfl) passL (pa_cons (pe_ix ix_seq (pe_ix ix_seq (pv 1) (pv 6) (fun _ _ => rfl)) (pv 3) (fun _ _ => rfl)) (pa_cons (pv 5) pa_nil))))
  (pss_one (ps_for (passes_of rfl) rfl (pi_range2 rfl T.z_range (pa_cons (pe_op op_addA (pv 3) pe_int) (pa_cons (pe_callB call_len (by rfl) T.z_len (by decide +kernel) (pa_cons (pv 1) pa_nil)) pa_nil))) (pg_name (i := 8) sc__law_ends.nd rfl (by first | exact Or.inl rfl | exact Or.inr rfl))
  (pss_one (ps_asg (pcall c__law_added hr (by decide) (by rfl) passL (pa_cons (pe_ix ix_seq (pe_ix ix_seq (pv 1) (pv 6) (fun _ _ => rfl)) (pv 8) (fun _ _ => rfl)) (pa_cons (pcall c__law_timed hr (by decide) (by rfl) passL (pa_cons (pv 7) (pa_cons (pe_ix ix_seq (pe_ix ix_seq (pv 1) (pv 3) (fun _ _ => rfl)) (pv 8) (fun _ _ => rfl)) pa_nil))) pa_nil))) (pg_sub (pe_ix ix_seq (pv 1) (pv 6) (fun _ _ => rfl)) (pv 8) set_list))))))))))))
  (pss_one (ps_ret pe_bl))))
theorem ini__law_ends {K : PySem.W.Frag} {sp : SpD} (h : ∀ as M k e, sp as M k e → ∃ a0, as = [a0] ∧ ∀ P0 E, XL K P0 E e → WS K P0 (t__law_ends K E) [some a0, none, none, none, none, none, none, none, none] M (fun _ M' => k (.va .none) M') k (fun _ _ => False) (fun _ _ => False)) : Keeps K ["_law_ways", "_law_rows", "_law_row", "_law_at", "_law_own", "_law_rest", "_law_k", "_law_factor", "_law_j"] ["_law_ways"] (t__law_ends K) sp := fun as M k e hs => by
  obtain ⟨a0, rfl, h⟩ := h as M k e hs
  exact ⟨rfl, fun P0 E hE => h P0 E hE⟩
theorem mk__law_ends {P : Program} {w : World} {K : PySem.W.Frag} {mg : Str → Option Value} {base : Heap} (T : Tx P K mg) (c__law_added : Cal P w K mg base "_law_added" 35 (lift K (sp__law_added K))) (c__law_timed : Cal P w K mg base "_law_timed" 35 (lift K (sp__law_timed K))) (c__law_share : Cal P w K mg base "_law_share" 34 (lift K (sp__law_share K))) (hv : Keeps K ["_law_ways", "_law_rows", "_law_row", "_law_at", "_law_own", "_law_rest", "_law_k", "_law_factor", "_law_j"] ["_law_ways"] (t__law_ends K) (sp__law_ends K)) : Cal P w K mg base "_law_ends" 36 (lift K (sp__law_ends K)) :=
  cal_mk T.d__law_ends T.f__law_ends sc__law_ends bt__law_ends (by decide) (fun cdv A outer s H E hr => p__law_ends T c__law_added c__law_timed c__law_share hr) hv

theorem v__law_ends {K : PySem.W.Frag} : Keeps K ["_law_ways", "_law_rows", "_law_row", "_law_at", "_law_own", "_law_rest", "_law_k", "_law_factor", "_law_j"] ["_law_ways"] (t__law_ends K) (sp__law_ends K) := by
  refine ini__law_ends ?_
  rintro as M k e ⟨n, S, rfl, hn, hB, hT, hF⟩
  refine ⟨_, rfl, fun P0 E hE => ?_⟩
  unfold t__law_ends sysD
  walk_at "run"
  refine we_lc (gon_name (by decide)) (wi_seqL ?_)
  walk_at "run"
  refine ⟨_, RL.sh _, fun R hR => ⟨fun i M' acc => ∃ ad, acc = adL i ad ∧ Rw M M' n S.R i ad ∧ Mext M M' ∧ M' R = none ∧ ∀ j, j < i → ad j ≠ R, ⟨fun _ => 0, rfl, ⟨fun j h => by omega, fun j h => by omega, fun j l h => by omega⟩, Mext.refl M, hR, fun j h => by omega⟩, ?_, ?_, ?_⟩⟩
  · rintro i M' acc hi ⟨ad, rfl, hrw, hx, hRn, hne⟩
    refine ⟨RL.sh _, hRn, ?_⟩
    rw [adL_len]
    simp at hi
    omega
  · rintro i M' acc hi ⟨ad, rfl, hrw, hx, hRn, hne⟩
    have hi : i < n := by simpa using hi
    refine wg_name (wt_yes ⟨fun _ => ?_, fun z => by cases z⟩)
    have e0 : (List.map Sv.va (List.map (fun i => PyData.list (rowD n (S.R i))) (List.range n))).getD i (.va .none) = .va (.list (rowD n (S.R i))) := by
      rw [List.getD_eq_getElem?_getD]
      simp [hi]
    simp only [e0]
    walk_at "run"
    refine rc_listL (RL.sh _) fun q hq => ?_
    have hqR : q ≠ R := fun z => by rw [z, mup_same] at hq; cases hq
    rw [mup_ne hqR] at hq
    have hq0 : M q = none := by
      cases z : M q with
      | none => rfl
      | some o => rw [hx q o z] at hq; cases hq
    have hnq : ∀ j, j < i → ad j ≠ q := fun j hj z => by
      have := hrw.is_ j hj
      rw [z, hq] at this; cases this
    refine ⟨mup M' q (.lst ((rowD n (S.R i)).map Sv.va)), mup_comm (Ne.symm hqR), fun j => if j = i then q else ad j, adL_succ, hrw.push hq0 mup_same hnq (fun j hj => mup_ne (hnq j hj)), fun a o h => ?_, ?_, ?_⟩
    · rw [mup_ne (mne h hq0)]; exact hx a o h
    · rw [mup_ne (Ne.symm hqR)]; exact hRn
    · intro j hj
      show (if j = i then q else ad j) ≠ R
      by_cases z : j = i
      · rw [if_pos z]; exact hqR
      · rw [if_neg z]; exact hne j (by omega)
  rintro M1 acc ⟨ad, rfl, hrw, hx, hRn, hne⟩
  have elen : (List.map Sv.va (List.map (fun i => PyData.list (rowD n (S.R i))) (List.range n))).length = n := by simp
  rw [elen] at hrw hne ⊢
  have A0 : LeAt M (mup M1 R (.lst (adL n ad))) n S.R R ad := ⟨hrw.mono fun j hj => by rw [mup_ne (hne j hj)], mup_same, fun a o h => by rw [mup_ne (mne h hR)]; exact hx a o h, hR, hne⟩
  generalize mup M1 R (.lst (adL n ad)) = M2 at A0 ⊢
  clear hrw hx hRn hne M1 hR
  have rowlen : ∀ {M' : Mm} {R' : Nat → Nat → Rat} {k : Sv → Mm → Prop}, LeAt M M' n R' R ad → k (.va (.int (n : Int))) M' → RCD K P0 (rLenC K) [.rf (.ref R)] M' k := fun A q => rc_lenL (RL.ow A.rl) (by rw [adL_len]; exact q)
  walk_at "run"
  refine ws_for (wi_rng1 ?_)
  walk_at "run"
  refine rowlen A0 ?_
  walk_at "run"
  refine ⟨_, rfl, by omega, by omega, ?_⟩
  rw [Int.toNat_natCast]
  refine ⟨fun t G' M' => (∃ z3 z4 z5 z6 z7 z8, G' = [some (.va (sysD n S)), some (.rf (.ref R)), none, z3, z4, z5, z6, z7, z8]) ∧ (∀ u, u < t → (gSt S u).R u u < 1) ∧ ∃ R', LeAt M M' n R' R ad ∧ ∀ i j, t ≤ i → t ≤ j → i < n → j < n → R' i j = (gSt S t).R i j,
    ⟨⟨_, _, _, _, _, _, rfl⟩, fun u h => by omega, S.R, A0, fun i j _ _ _ _ => rfl⟩, fun _ _ _ _ _ => trivial, ?_, ?_⟩
  · clear A0 M2
    rintro t G' M' ht ⟨⟨z3, z4, z5, z6, z7, z8, rfl⟩, hu, R', A, hR'⟩
    have hSB := hB.all (Nat.le_of_lt ht) hu
    generalize hgS : gSt S t = S1 at *
    have hent : ∀ i j, i < n → j < n → 0 ≤ S1.R i j ∧ Bt 171874 (S1.R i j) := fun i j hi hj => let ⟨a, b⟩ := (hSB i hi).1.bt hj; ⟨a, b.mono (pow5_le (by omega))⟩
    refine wg_name ?_
    walk_at "run"
    refine r2_ixL (RL.ow A.rl) (atI_nat (adL_at ht)) ?_
    walk_at "run"
    refine r2_ixRow (RL.ow (A.rows.is_ t ht)) ht ?_
    rw [hR' t t (Nat.le_refl t) (Nat.le_refl t) ht ht]
    walk_at "run"
    refine' ws_ifP (by walk_at "tp") (fun h => ?_) (fun h => ?_)
    · have h : 1 ≤ S1.R t t := (ge_cross _).mp (of_decide_eq_true h)
      refine ws_shrink A.ext ?_
      walk_at "run"
      exact hF t ht hu (by rw [hgS]; exact h)
    have hlt : S1.R t t < 1 := Rat.not_le.mp fun z => (of_decide_eq_false h) ((ge_cross _).mpr z)
    clear h
    obtain ⟨hr1, hr2⟩ := rest_eq hlt
    walk_at "run"
    refine cl_lshare (Int.le_of_lt (den_pos _)) (by omega) ?_
    rw [hr1]
    have hpos : 0 < 1 - S1.R t t := by grind
    have hrest : 0 ≤ 1 / (1 - S1.R t t) ∧ Bt 171877 (1 / (1 - S1.R t t)) := ⟨nn_div nn1 hpos, (bt1.div (bt1.sub (hent t t ht ht).2) hpos).mono (by decide)⟩
    generalize hrs : 1 / (1 - S1.R t t) = rest at hrest
    walk_at "run"
    refine ws_for (wi_rng2 ?_)
    walk_at "run"
    refine rowlen A ?_
    walk_at "run"
    refine ⟨_, _, rfl, by omega, by omega, by omega, by omega, ?_⟩
    have ecnt : ((n : Int) - ((t : Int) + 1)).toNat = n - (t + 1) := by omega
    rw [ecnt]
    refine ⟨fun c G' M' => (∃ z6 z7 z8, G' = [some (.va (sysD n S)), some (.rf (.ref R)), none, some (.va (.int (t : Int))), some (.va (shD (S1.R t t))), some (.va (shD rest)), z6, z7, z8]) ∧
      ∃ R2, LeAt M M' n R2 R ad ∧ (∀ i j, i < n → j < n → t < i → t < j → i < t + 1 + c → R2 i j = (gStep S1 t).R i j) ∧ (∀ i j, i < n → j < n → (i ≤ t ∨ t + 1 + c ≤ i) → R2 i j = R' i j),
      ⟨⟨_, _, _, rfl⟩, R', A, fun i j _ _ h1 _ h2 => by omega, fun i j _ _ _ => rfl⟩, fun _ _ _ _ _ => trivial, ?_, ?_⟩
    · rintro c G' M3 hc ⟨⟨z6, z7, z8, rfl⟩, R2, A2, hd, hu2⟩
      clear A
      have hk : t + 1 + c < n := by omega
      generalize hkk : t + 1 + c = kk at hk hd hu2
      have ekk : (t : Int) + 1 + (c : Int) = ((kk : Nat) : Int) := by omega
      refine wg_name ?_
      simp only [ekk]
      walk_at "run"
      refine r2_ixL (RL.ow A2.rl) (atI_nat (adL_at hk)) ?_
      walk_at "run"
      refine r2_ixRow (RL.ow (A2.rows.is_ kk hk)) ht ?_
      rw [hu2 kk t hk ht (.inr (by omega)), hR' kk t (by omega) (by omega) hk ht]
      walk_at "run"
      have hkt := hent kk t hk ht
      refine cl_ltimed ⟨hkt.1, hkt.2.fit (by decide)⟩ ⟨hrest.1, hrest.2.fit (by decide)⟩ ?_
      have hfac : 0 ≤ S1.R kk t * rest ∧ Bt 343751 (S1.R kk t * rest) := ⟨Rat.mul_nonneg hkt.1 hrest.1, (hkt.2.mul hrest.2).mono (by decide)⟩
      walk_at "run"
      refine ws_for (wi_rng2 ?_)
      walk_at "run"
      refine rowlen A2 ?_
      walk_at "run"
      refine ⟨_, _, rfl, by omega, by omega, by omega, by omega, ?_⟩
      rw [ecnt]
      refine ⟨fun b G' M' => (∃ z8, G' = [some (.va (sysD n S)), some (.rf (.ref R)), none, some (.va (.int (t : Int))), some (.va (shD (S1.R t t))), some (.va (shD rest)), some (.va (.int (kk : Int))), some (.va (shD (S1.R kk t * rest))), z8]) ∧
        ∃ R3, LeAt M M' n R3 R ad ∧ (∀ i j, i < n → j < n → i ≠ kk → R3 i j = R2 i j) ∧ (∀ j, j < n → t < j → j < t + 1 + b → R3 kk j = (gStep S1 t).R kk j) ∧ (∀ j, j < n → t + 1 + b ≤ j → R3 kk j = R2 kk j),
        ⟨⟨_, rfl⟩, R2, A2, fun _ _ _ _ _ => rfl, fun j _ h1 h2 => by omega, fun _ _ _ => rfl⟩, fun _ _ _ _ _ => trivial, ?_, ?_⟩
      · rintro b G' M4 hb ⟨⟨z8, rfl⟩, R3, A3, g1, g2, g3⟩
        have hj : t + 1 + b < n := by omega
        generalize hjj : t + 1 + b = jj at hj g2 g3
        have ejj : (t : Int) + 1 + (b : Int) = ((jj : Nat) : Int) := by omega
        refine wg_name ?_
        simp only [ejj]
        refine ws_asgG ?_
        walk_at "run"
        refine r2_ixL (RL.ow A3.rl) (atI_nat (adL_at hk)) ?_
        walk_at "run"
        refine r2_ixRow (RL.ow (A3.rows.is_ kk hk)) hj ?_
        rw [g3 jj hj (Nat.le_refl _), hu2 kk jj hk hj (.inr (Nat.le_refl _)), hR' kk jj (by omega) (by omega) hk hj]
        walk_at "run"
        refine r2_ixL (RL.ow A3.rl) (atI_nat (adL_at ht)) ?_
        walk_at "run"
        refine r2_ixRow (RL.ow (A3.rows.is_ t ht)) hj ?_
        rw [g1 t jj ht hj (by omega), hu2 t jj ht hj (.inl (Nat.le_refl _)), hR' t jj (by omega) (by omega) ht hj]
        walk_at "run"
        have htj := hent t jj ht hj
        have hkj := hent kk jj hk hj
        refine cl_ltimed ⟨hfac.1, hfac.2.fit (by decide)⟩ ⟨htj.1, htj.2.fit (by decide)⟩ ?_
        walk_at "run"
        refine cl_ladded ⟨hkj.1, hkj.2.fit (by decide)⟩ ⟨Rat.mul_nonneg hfac.1 htj.1, (hfac.2.mul htj.2).fit (by decide)⟩ (wg_subL ?_)
        walk_at "run"
        refine r2_ixL (RL.ow A3.rl) (atI_nat (adL_at hk)) ?_
        walk_at "run"
        refine ⟨ad kk, _, _, jj, rfl, rfl, A3.rows.is_ kk hk, ixN_row hj, ?_⟩
        refine ⟨⟨_, rfl⟩, _, A3.set hk, fun i j hi hj2 hik => ?_, fun j hj2 h1 h2 => ?_, fun j hj2 h1 => ?_⟩
        · show (if i = kk then _ else R3 i) j = _
          rw [if_neg hik]; exact g1 i j hi hj2 hik
        · show (if kk = kk then fun b => if b = jj then _ else R3 kk b else R3 kk) j = _
          rw [if_pos rfl]
          by_cases z : j = jj
          · subst z
            show (if j = j then _ else _) = _
            rw [if_pos rfl]
            show _ = (if kk = t then _ else (if j = t then 0 else S1.R kk j) + S1.R kk t * (if j = t then 0 else S1.R t j / (1 - S1.R t t)))
            rw [if_neg (show ¬ kk = t by omega), if_neg (show ¬ j = t by omega), if_neg (show ¬ j = t by omega), ← hrs]
            grind
          · show (if j = jj then _ else R3 kk j) = _
            rw [if_neg z]
            exact g2 j hj2 h1 (by omega)
        · show (if kk = kk then fun b => if b = jj then _ else R3 kk b else R3 kk) j = _
          rw [if_pos rfl]
          show (if j = jj then _ else R3 kk j) = _
          rw [if_neg (show ¬ j = jj by omega)]
          exact g3 j hj2 (by omega)
      · rintro G' M4 ⟨⟨z8, rfl⟩, R3, A3, g1, g2, g3⟩
        refine ⟨⟨_, _, _, rfl⟩, R3, A3, fun i j hi hj h1 h2 h3 => ?_, fun i j hi hj h1 => ?_⟩
        · by_cases z : i = kk
          · rw [z]; exact g2 j hj h2 (by omega)
          · rw [g1 i j hi hj z]; exact hd i j hi hj h1 h2 (by omega)
        · rw [g1 i j hi hj (by omega)]
          exact hu2 i j hi hj (by omega)
    · rintro G' M3 ⟨⟨z6, z7, z8, rfl⟩, R2, A2, hd, hu2⟩
      refine ⟨⟨_, _, _, _, _, _, rfl⟩, fun u h => ?_, R2, A2, fun i j h1 h2 hi hj => ?_⟩
      · by_cases z : u = t
        · rw [z, hgS]; exact hlt
        · exact hu u (by omega)
      · show _ = (gStep (gSt S t) t).R i j
        rw [hgS]
        exact hd i j hi hj (by omega) (by omega) (by omega)
  · rintro G' M' ⟨⟨z3, z4, z5, z6, z7, z8, rfl⟩, hu, R', A, hR'⟩
    refine ws_shrink A.ext ?_
    walk_at "run"
    exact hT hu
def sp__law_refused (_ : PySem.W.Frag) : SpD := fun as M k _ => ∃ (n t0 : Nat) (S : Sy), as = [.va (sysD n S), .va (.list (rowD n S.F))] ∧ n ≤ 1000 ∧ t0 < n ∧ (∀ t, t < t0 → SyOk n (gSt S t) ∧ (gSt S t).R t t < 1) ∧ SyOk n (gSt S t0) ∧ 1 ≤ (gSt S t0).R t0 t0 ∧ k (.va (.bool true)) M
/-! _law_refused -/
def t__law_refused (K : PySem.W.Frag) (E : XK) : TS :=
  (tSeq (tTryAs K (.ref (ga K "NoEnd")) 2 (fun W => tDrop (tCallS (lift K (sp_solved K)) (L2.WE W) (tCons (tVar 0) (tCons (tVar 1) tNil)))) (fun a cls d => (tSeq (tAsg (tOrV (tCB (rIsX K a cls d) (tCons (tVar 2) (tCons (tC (.ref (ga K "NoShare"))) tNil))) (tOrV (tCB (rIsX K a cls d) (tCons (tVar 2) (tCons (tC (.ref (ga K "NoGrammar"))) tNil))) (tOrV (tCB (rIsX K a cls d) (tCons (tVar 2) (tCons (tC (.ref (ga K "NoTree"))) tNil))) (tCB (rIsX K a cls d) (tCons (tVar 2) (tCons (tC (.ref (ga K "NoText"))) tNil)))))) (gName 3))
  (tRet (tAndV (tCB (rIsX K a cls d) (tCons (tVar 2) (tCons (tC (.ref (ga K "ScoreError"))) tNil))) (tAndV (tCB (rIsX K a cls d) (tCons (tVar 2) (tCons (tC (.ty "ValueError")) tNil))) (tNotV (tVar 3))))))) (fun _ _ _ _ => False))
  (tRet (tC (.bl false))))
set_option maxHeartbeats 4000000 in
theorem p__law_refused {P : Program} {w : World} {K : PySem.W.Frag} {mg : Str → Option Value} {base : Heap} (T : Tx P K mg) (c_solved : Cal P w K mg base "solved" 37 (lift K (sp_solved K))) {f : Addr} {cdv : Value} {A : Around} {outer : List Env} {s : Shared} {H : Hp} {E : XK} (hr : Room 37 (A.deeper (envOfC "_law_refused" (defScope s__law_refused) s.heap.objs.size f cdv))) :
    PSs (cxOf (L2.CX P w) P w K mg base ["_law_ways", "_law_ends_here", "e", "_law_beside"] "_law_refused" (defScope s__law_refused) f cdv A outer s H E) (defBody s__law_refused) (t__law_refused K E) := by
  have hu1 := hu_of hr
  have hu := hr.units
  have hu65 := hu_65 hr
  exact (pss_cons (ps_try_as (i := 2) (tb := fun W => tDrop (tCallS (lift K (sp_solved K)) (L2.WE W) (tCons (tVar 0) (tCons (tVar 1) tNil)))) (ts := fun a cls d => (tSeq (tAsg (tOrV (tCB (rIsX K a cls d) (tCons (tVar 2) (tCons (tC (.ref (ga K "NoShare"))) tNil))) (tOrV (tCB (rIsX K a cls d) (tCons (tVar 2) (tCons (tC (.ref (ga K "NoGrammar"))) tNil))) (tOrV (tCB (rIsX K a cls d) (tCons (tVar 2) (tCons (tC (.ref (ga K "NoTree"))) tNil))) (tCB (rIsX K a cls d) (tCons (tVar 2) (tCons (tC (.ref (ga K "NoText"))) tNil)))))) (gName 3))
  (tRet (tAndV (tCB (rIsX K a cls d) (tCons (tVar 2) (tCons (tC (.ref (ga K "ScoreError"))) tNil))) (tAndV (tCB (rIsX K a cls d) (tCons (tVar 2) (tCons (tC (.ty "ValueError")) tNil))) (tNotV (tVar 3))))))) (Wout := fun _ _ _ _ => False) rfl rfl sc__law_refused.nd rfl rfl ⟨by rfl, by decide, .inl T.e_NoEnd.g⟩ takes0 (fun W pn xe tk _ => pss_one (ps_expr (pcallS c_solved hr (by decide) (by rfl) (fun σ => passAt tk σ) (pa_cons (pv 0) (pa_cons (pv 1) pa_nil))))) (fun a oe cls d pn hz hf => (pss_cons (ps_set (i := 3) sc__law_refused.nd rfl (by first | exact Or.inl rfl | exact Or.inr rfl) (pe_or (pe_callB (call_isX hz hf) (by rfl) T.z_isinstance (by decide +kernel) (pa_cons (pv 2) (pa_cons (pgref T.e_NoShare.g (by rfl)) pa_nil))) (pe_or (pe_callB (call_isX hz hf) (by rfl) T.z_isinstance (by decide +kernel) (pa_cons (pv 2) (pa_cons (pgref T.e_NoGrammar.g (by rfl)) pa_nil))) (pe_or (pe_callB (call_isX hz hf) (by rfl) T.z_isinstance (by decide +kernel) (pa_cons (pv 2) (pa_cons (pgref T.e_NoTree.g (by rfl)) pa_nil))) (pe_one (pe_callB (call_isX hz hf) (by rfl) T.z_isinstance (by decide +kernel) (pa_cons (pv 2) (pa_cons (pgref T.e_NoText.g (by rfl)) pa_nil))))))))
  (pss_one (ps_ret (pe_and (pe_callB (call_isX hz hf) (by rfl) T.z_isinstance (by decide +kernel) (pa_cons (pv 2) (pa_cons (pgref T.e_ScoreError.g (by rfl)) pa_nil))) (pe_and (pe_callB (call_isX hz hf) (by rfl) T.z_isinstance (by decide +kernel) (pa_cons (pv 2) (pa_cons (pe_bltn (by rfl) T.z_ValueError (by decide +kernel) rfl) pa_nil))) (pe_one (pe_not (pv 3))))))))))
  (pss_one (ps_ret pe_bl)))
theorem ini__law_refused {K : PySem.W.Frag} {sp : SpD} (h : ∀ as M k e, sp as M k e → ∃ a0 a1, as = [a0, a1] ∧ ∀ P0 E, XL K P0 E e → WS K P0 (t__law_refused K E) [some a0, some a1, none, none] M (fun _ M' => k (.va .none) M') k (fun _ _ => False) (fun _ _ => False)) : Keeps K ["_law_ways", "_law_ends_here", "e", "_law_beside"] ["_law_ways", "_law_ends_here"] (t__law_refused K) sp := fun as M k e hs => by
  obtain ⟨a0, a1, rfl, h⟩ := h as M k e hs
  exact ⟨rfl, fun P0 E hE => h P0 E hE⟩
theorem mk__law_refused {P : Program} {w : World} {K : PySem.W.Frag} {mg : Str → Option Value} {base : Heap} (T : Tx P K mg) (c_solved : Cal P w K mg base "solved" 37 (lift K (sp_solved K))) (hv : Keeps K ["_law_ways", "_law_ends_here", "e", "_law_beside"] ["_law_ways", "_law_ends_here"] (t__law_refused K) (sp__law_refused K)) : Cal P w K mg base "_law_refused" 38 (lift K (sp__law_refused K)) :=
  cal_mk T.d__law_refused T.f__law_refused sc__law_refused bt__law_refused (by decide) (fun cdv A outer s H E hr => p__law_refused T c_solved hr) hv

theorem v__law_refused {P : Program} {K : PySem.W.Frag} {mg : Str → Option Value} (T : Tx P K mg) : Keeps K ["_law_ways", "_law_ends_here", "e", "_law_beside"] ["_law_ways", "_law_ends_here"] (t__law_refused K) (sp__law_refused K) := by
  refine ini__law_refused ?_
  rintro as M k e ⟨n, t0, S, rfl, hn, ht, h1, h2, h3, hk⟩
  refine ⟨_, _, rfl, fun P0 E hE => ?_⟩
  unfold t__law_refused
  refine ws_seq (ws_tryAs ?_)
  walk_at "run"
  refine ⟨n, t0, S, rfl, hn, Nat.le_of_lt ht, h1, fun z => by omega, fun _ => ⟨h2, h3, fun M2 hM2 => ⟨T.km_NoEnd_NoEnd, fun a => ?_⟩⟩⟩
  refine ws_shrink hM2 ?_
  refine ws_seq (ws_asg ?_)
  have s1 := fun (k : Sv → Mm → Prop) q => rc_isX (P0 := P0) (M := M) (k := k) (a := a) T.xc_NoEnd (c := .ref (ga K "NoShare")) (fun u hu => hu) T.ki_NoEnd_NoShare q
  have s2 := fun (k : Sv → Mm → Prop) q => rc_isX (P0 := P0) (M := M) (k := k) (a := a) T.xc_NoEnd (c := .ref (ga K "NoGrammar")) (fun u hu => hu) T.ki_NoEnd_NoGrammar q
  have s3 := fun (k : Sv → Mm → Prop) q => rc_isX (P0 := P0) (M := M) (k := k) (a := a) T.xc_NoEnd (c := .ref (ga K "NoTree")) (fun u hu => hu) T.ki_NoEnd_NoTree q
  have s4 := fun (k : Sv → Mm → Prop) q => rc_isX (P0 := P0) (M := M) (k := k) (a := a) T.xc_NoEnd (c := .ref (ga K "NoText")) (fun u hu => hu) T.ki_NoEnd_NoText q
  have s5 := fun (k : Sv → Mm → Prop) q => rc_isX (P0 := P0) (M := M) (k := k) (a := a) T.xc_NoEnd (c := .ref (ga K "ScoreError")) (fun u hu => hu) T.ki_NoEnd_ScoreError q
  have s6 := fun (k : Sv → Mm → Prop) q => rc_isX (P0 := P0) (M := M) (k := k) (a := a) T.xc_NoEnd (c := .ty "ValueError") (fun u hu => hu) T.ki_NoEnd_ValueError q
  refine we_orV ?_
  walk_at "run"
  refine s1 _ ⟨false, rfl, fun h => (by cases h), fun _ => we_orV ?_⟩
  walk_at "run"
  refine s2 _ ⟨false, rfl, fun h => (by cases h), fun _ => we_orV ?_⟩
  walk_at "run"
  refine s3 _ ⟨false, rfl, fun h => (by cases h), fun _ => ?_⟩
  walk_at "run"
  refine s4 _ ?_
  walk_at "run"
  refine we_andV ?_
  walk_at "run"
  refine s5 _ ⟨true, rfl, fun _ => we_andV ?_, fun h => (by cases h)⟩
  walk_at "run"
  refine s6 _ ⟨true, rfl, fun _ => we_notV ?_, fun h => (by cases h)⟩
  walk_at "run"
  exact ⟨false, rfl, hk⟩
theorem syOk_of {n : Nat} {S : Sy} {t : Nat} (h : SyB 10 10 n S) (hn : n ≤ 6) (ht : t ≤ n) (hu : ∀ u, u < t → (gSt S u).R u u < 1) : SyOk n (gSt S t) ∧ ∀ i, i < n → 0 ≤ (gSt S t).F i ∧ Bt 171874 ((gSt S t).F i) := by
  have hB := h.all ht hu
  have hp := pow5_le (show t ≤ 6 by omega)
  refine ⟨fun i hi => ⟨fun j hj => ?_, (hB i hi).2.1, (hB i hi).2.2.mono (by omega)⟩, fun i hi => ⟨(hB i hi).2.1, (hB i hi).2.2.mono hp⟩⟩
  obtain ⟨a, b⟩ := (hB i hi).1.bt hj
  exact ⟨a, b.mono (by omega)⟩
/-! law -/
def t_law (K : PySem.W.Frag) (E : XK) : TS :=
  (tSeq (tAsg (tCall (lift K (sp__law_dice K)) [] E0 (tCons (tCall (lift K (sp__law_cell_at K)) [] E0 (tCons (tVar 0) (tCons (tC (.int 0)) tNil))) tNil)) (gName 1))
  (tSeq (tAsg (tCall (lift K (sp__law_drawn K)) [] E0 (tCons (tVar 1) (tCons (tOp rModN (tCall (lift K (sp__law_cell_at K)) [] E0 (tCons (tVar 0) (tCons (tC (.int 1)) tNil))) (tC (.int 7))) tNil))) (gTup K 2 (gCons (gName 2) (gCons (gName 3) gNil))))
  (tSeq (tAsg (tLst (tCons (tLc (iSeq K (tVar 2)) (gName 5) tYes (tCB (rListC K) (tCons (tVar 5) tNil)) [5]) (tCons (tCB (rListC K) (tCons (tVar 3) tNil)) tNil))) (gName 4))
  (tSeq (tIfS (tNot (tB (tCall (lift K (sp__law_ends K)) [] E0 (tCons (tVar 2) tNil))))
  (tRet (tCall (lift K (sp__law_refused K)) [] E0 (tCons (tOp (rIx K) (tVar 4) (tC (.int 0))) (tCons (tOp (rIx K) (tVar 4) (tC (.int 1))) tNil))))
  tNext)
  (tSeq (tAsg (tCall (lift K (sp_solved K)) [] E0 (tCons (tOp (rIx K) (tVar 4) (tC (.int 0))) (tCons (tOp (rIx K) (tVar 4) (tC (.int 1))) tNil))) (gName 6))
  (tSeq (tIfS (tOr (tTest (tOp (rNeD K) (tVar 4) (tLst (tCons (tVar 2) (tCons (tVar 3) tNil))))) (tOr (tNot (tB (tCB (rIsi K) (tCons (tVar 6) (tCons (tC (.ty "list")) tNil))))) (tTest (tOp (rNeD K) (tCB (rLenC K) (tCons (tVar 6) tNil)) (tCB (rLenC K) (tCons (tVar 3) tNil))))))
  (tRet (tC (.bl false)))
  tNext)
  (tSeq (tFor (iSeq K (tVar 6)) (gName 7)
  (tIfS (tNot (tB (tCall (lift K (sp__law_is_share K)) [] E0 (tCons (tVar 7) tNil))))
  (tRet (tC (.bl false)))
  tNext))
  (tSeq (tFor (iRng1 (tCons (tCB (rLenC K) (tCons (tVar 3) tNil)) tNil)) (gName 8)
  (tSeq (tAsg (tOp (rIx K) (tVar 3) (tVar 8)) (gName 9))
  (tSeq (tFor (iRng1 (tCons (tCB (rLenC K) (tCons (tVar 3) tNil)) tNil)) (gName 10)
  (tAsg (tCall (lift K (sp__law_added K)) [] E0 (tCons (tVar 9) (tCons (tCall (lift K (sp__law_timed K)) [] E0 (tCons (tOp (rIx K) (tOp (rIx K) (tVar 2) (tVar 8)) (tVar 10)) (tCons (tOp (rIx K) (tVar 6) (tVar 10)) tNil))) tNil))) (gName 9)))
  (tIfS (tTest (tOp (rNeD K) (tOp (rIx K) (tVar 6) (tVar 8)) (tVar 9)))
  (tRet (tC (.bl false)))
  tNext))))
  (tRet (tC (.bl true)))))))))))
set_option maxHeartbeats 4000000 in
theorem p_law {P : Program} {w : World} {K : PySem.W.Frag} {mg : Str → Option Value} {base : Heap} (T : Tx P K mg) (c__law_added : Cal P w K mg base "_law_added" 35 (lift K (sp__law_added K))) (c__law_timed : Cal P w K mg base "_law_timed" 35 (lift K (sp__law_timed K))) (c__law_is_share : Cal P w K mg base "_law_is_share" 2 (lift K (sp__law_is_share K))) (c_solved : Cal P w K mg base "solved" 37 (lift K (sp_solved K))) (c__law_ends : Cal P w K mg base "_law_ends" 36 (lift K (sp__law_ends K))) (c__law_refused : Cal P w K mg base "_law_refused" 38 (lift K (sp__law_refused K))) (c__law_drawn : Cal P w K mg base "_law_drawn" 35 (lift K (sp__law_drawn K))) (c__law_cell_at : Cal P w K mg base "_law_cell_at" 1 (lift K (sp__law_cell_at K))) (c__law_dice : Cal P w K mg base "_law_dice" 1 (lift K (sp__law_dice K))) {f : Addr} {cdv : Value} {A : Around} {outer : List Env} {s : Shared} {H : Hp} {E : XK} (hr : Room 38 (A.deeper (envOfC "law" (defScope s_law) s.heap.objs.size f cdv))) :
    PSs (cxOf (L2.CX P w) P w K mg base ["_law_script", "_law_dice_here", "_law_ways", "_law_ends_here", "_law_handed", "_law_row", "_law_found", "_law_one", "_law_k", "_law_due", "_law_j"] "law" (defScope s_law) f cdv A outer s H E) (defBody s_law) (t_law K E) := by
  have hu1 := hu_of hr
  have hu := hr.units
  have hu65 := hu_65 hr
  exact (pss_cons (ps_set (i := 1) sc_law.nd rfl (by first | exact Or.inl rfl | exact Or.inr rfl) (pcall c__law_dice hr (by decide) (by rfl) passL (pa_cons (pcall c__law_cell_at hr (by decide) (by rfl) passL (pa_cons (pv 0) (pa_cons pe_int pa_nil))) pa_nil)))
  (pss_cons (ps_asg (pcall c__law_drawn hr (by decide) (by rfl) passL (pa_cons (pv 1) (pa_cons (pe_op op_modN (pcall c__law_cell_at hr (by decide) (by rfl) passL (pa_cons (pv 0) (pa_cons pe_int pa_nil))) pe_int) pa_nil))) (pg_tup (by rfl) (pgs_cons (pg_name (i := 2) sc_law.nd rfl (by first | exact Or.inl rfl | exact Or.inr rfl)) (pgs_cons (pg_name (i := 3) sc_law.nd rfl (by first | exact Or.inl rfl | exact Or.inr rfl)) pgs_nil))))
  (pss_cons (ps_set (i := 4) sc_law.nd rfl (by first | exact Or.inl rfl | exact Or.inr rfl) (pe_lst (pa_cons (pe_lc (own := [("_law_row", 5)]) (g := (gName 5)) (tt := tYes) (te := (tCB (rListC K) (tCons (tVar 5) tNil))) rfl sc_law.nd (pi_seq (pv 2)) (blkOk_by (by first | decide +kernel | rfl)) (fun _ _ _ _ _ => (pg_name (i := 5) sc_law.nd rfl (by first | exact Or.inl rfl | exact Or.inr rfl))) (fun _ _ _ _ _ => pts_nil) (fun _ _ _ _ _ => (pe_callTy call_listA (by rfl) T.z_list (by decide +kernel) (pa_cons (pv 5) pa_nil)))) (pa_cons (pe_callTy call_listA (by rfl) T.z_list (by decide +kernel) (pa_cons (pv 3) pa_nil)) pa_nil))))
  (pss_cons (ps_if (pt_not (pt_val (pcall c__law_ends hr (by decide) (by rfl) passL (pa_cons (pv 2) pa_nil))))
  (pss_one (ps_ret (pcall c__law_refused hr (by decide) (by rfl) passL (pa_cons (pe_ix ix_seq (pv 4) pe_int (fun _ _ => rfl)) (pa_cons (pe_ix ix_seq (pv 4) pe_int (fun _ _ => rfl)) pa_nil)))))
  pss_nil)
  (pss_cons (ps_set (i := 6) sc_law.nd rfl (by first | exact Or.inl rfl | exact Or.inr rfl) (pcall c_solved hr (by decide) (by rfl) passL (pa_cons (pe_ix ix_seq (pv 4) pe_int (fun _ _ => rfl)) (pa_cons (pe_ix ix_seq (pv 4) pe_int (fun _ _ => rfl)) pa_nil))))
  (pss_cons (ps_if (PW.pt (pw_or (pt_cmpR (op_neD hu) (pv 4) (pe_lst (pa_cons (pv 2) (pa_cons (pv 3) pa_nil))) (nomark _)) (pw_or (pt_not (pt_val (pe_callB call_isi (by rfl) T.z_isinstance (by decide +kernel) (pa_cons (pv 6) (pa_cons (pe_bltn (by rfl) T.z_list (by decide +kernel) rfl) pa_nil))))) (pw_or1 (pt_cmpR (op_neD hu) (pe_callB call_len (by rfl) T.z_len (by decide +kernel) (pa_cons (pv 6) pa_nil)) (pe_callB call_len (by rfl) T.z_len (by decide +kernel) (pa_cons (pv 3) pa_nil)) (nomark _))))))
  (pss_one (ps_ret pe_bl))
  pss_nil)
  (pss_cons (ps_for (passes_of rfl) rfl (pi_seq (pv 6)) (pg_name (i := 7) sc_law.nd rfl (by first | exact Or.inl rfl | exact Or.inr rfl))
  (pss_one (ps_if (pt_not (pt_val (pcall c__law_is_share hr (by decide) (by rfl) passL (pa_cons (pv 7) pa_nil))))
  (pss_one (ps_ret pe_bl))
  pss_nil)))
  (pss_cons (ps_for (passes_of rfl) rfl (pi_range1 rfl T.z_range (pa_cons (pe_callB call_len (by rfl) T.z_len (by decide +kernel) (pa_cons (pv 3) pa_nil)) pa_nil)) (pg_name (i := 8) sc_law.nd rfl (by first | exact Or.inl rfl | exact Or.inr rfl))
  (pss_cons (ps_set (i := 9) sc_law.nd rfl (by first | exact Or.inl rfl | exact Or.inr rfl) (pe_ix ix_seq (pv 3) (pv 8) (fun _ _ => rfl)))
  (pss_cons (ps_for (passes_of rfl) rfl (pi_range1 rfl T.z_range (pa_cons (pe_callB call_len (by rfl) T.z_len (by decide +kernel) (pa_cons (pv 3) pa_nil)) pa_nil)) (pg_name (i := 10) sc_law.nd rfl (by first | exact Or.inl rfl | exact Or.inr rfl))
  (pss_one (ps_set (i := 9) sc_law.nd rfl (by first | exact Or.inl rfl | exact Or.inr rfl) (pcall c__law_added hr (by decide) (by rfl) passL (pa_cons (pv 9) (pa_cons (pcall c__law_timed hr (by decide) (by rfl) passL (pa_cons (pe_ix ix_seq (pe_ix ix_seq (pv 2) (pv 8) (fun _ _ => rfl)) (pv 10) (fun _ _ => rfl)) (pa_cons (pe_ix ix_seq (pv 6) (pv 10) (fun _ _ => rfl)) pa_nil))) pa_nil))))))
  (pss_one (ps_if (pt_cmpR (op_neD hu) (pe_ix ix_seq (pv 6) (pv 8) (fun _ _ => rfl)) (pv 9) (nomark _))
  (pss_one (ps_ret pe_bl))
  pss_nil)))))
  (pss_one (ps_ret pe_bl))))))))))
theorem ini_law {K : PySem.W.Frag} {sp : SpD} (h : ∀ as M k e, sp as M k e → ∃ a0, as = [a0] ∧ ∀ P0 E, XL K P0 E e → WS K P0 (t_law K E) [some a0, none, none, none, none, none, none, none, none, none, none] M (fun _ M' => k (.va .none) M') k (fun _ _ => False) (fun _ _ => False)) : Keeps K ["_law_script", "_law_dice_here", "_law_ways", "_law_ends_here", "_law_handed", "_law_row", "_law_found", "_law_one", "_law_k", "_law_due", "_law_j"] ["_law_script"] (t_law K) sp := fun as M k e hs => by
  obtain ⟨a0, rfl, h⟩ := h as M k e hs
  exact ⟨rfl, fun P0 E hE => h P0 E hE⟩

theorem v_law {K : PySem.W.Frag} : Keeps K ["_law_script", "_law_dice_here", "_law_ways", "_law_ends_here", "_law_handed", "_law_row", "_law_found", "_law_one", "_law_k", "_law_due", "_law_j"] ["_law_script"] (t_law K) (spLaw 63) := by
  refine ini_law ?_
  rintro as M k e ⟨ns, rfl, hl, hM, hk⟩
  refine ⟨_, rfl, fun P0 E hE => ?_⟩
  unfold t_law
  walk_at "run"
  refine ⟨_, rfl, fun p d hp hd0 hd1 => ?_⟩
  walk_at "run"
  refine ws_asgG ?_
  walk_at "run"
  have e0 := Int.emod_nonneg (cell ns 1) (show (7 : Int) ≠ 0 by decide)
  have e1 := Int.emod_lt_of_pos (cell ns 1) (show (0 : Int) < 7 by decide)
  obtain ⟨n, hnn⟩ := Int.eq_ofNat_of_zero_le e0
  rw [hnn]
  have hn : n ≤ 6 := by omega
  refine ⟨p, d, n, rfl, mup_same, hd0, hd1, hn, fun S d' hB => ?_⟩
  rw [mup_mup]
  refine wg_tup rfl (wgs_cons (wg_name (wgs_cons (wg_name (wgs_nil ?_)))))
  generalize mup M p (diceO d') = M1
  walk_at "run"
  refine we_lstV (wa_cons ?_)
  unfold sysD
  refine we_lcP (gon_name (by decide)) (wi_seqL ?_)
  walk_at "run"
  refine ⟨_, RL.sh _, fun i => some (.list (rowD n (S.R i))), by simp; omega, fun M' _ => RL.sh _, ?_, ?_⟩
  · intro i M' hi hM'
    have hi : i < n := by simpa using hi
    refine wg_name ⟨rfl, wt_yes ⟨rfl, fun _ => ?_, fun z => by cases z⟩⟩
    have e2 : (List.map Sv.va (List.map (fun i => PyData.list (rowD n (S.R i))) (List.range n))).getD i (.va .none) = .va (.list (rowD n (S.R i))) := by
      rw [List.getD_eq_getElem?_getD]
      simp [hi]
    simp only [e2]
    walk_at "run"
    exact rc_listLv (RL.sh _) ⟨rfl, _, rfl, rfl⟩
  rw [show (List.map Sv.va (List.map (fun i => PyData.list (rowD n (S.R i))) (List.range n))).length = n by simp, filterMap_all fun i _ => rfl]
  walk_at "run"
  refine rc_listLv (RL.sh _) ?_
  walk_at "run"
  refine ⟨[sysD n S, .list (rowD n S.F)], rfl, by simp, ?_⟩
  walk_at "run"
  have fail : ∀ t, t < n → (∀ u, u < t → (gSt S u).R u u < 1) → 1 ≤ (gSt S t).R t t → sp__law_refused K [.va (sysD n S), .va (.list (rowD n S.F))] M1 k (fun _ _ => False) := fun t ht hu h1 =>
    ⟨n, t, S, rfl, by omega, ht, fun u hu2 => ⟨(syOk_of hB hn (by omega) fun v hv => hu v (by omega)).1, hu u hu2⟩, (syOk_of hB hn (by omega) hu).1, h1, hk _⟩
  refine ws_if (wt_not (wt_B ?_))
  walk_at "run"
  refine ⟨n, S, rfl, hn, hB, fun hall => ⟨true, rfl, fun z => (by cases z), fun _ => ?_⟩, fun t ht hu h1 => ⟨false, rfl, fun _ => ?_, fun z => by cases z⟩⟩
  · clear fail
    have hfin := syOk_of hB hn (Nat.le_refl n) hall
    have hsol := solves_of (n := n) (S := S) hall
    walk_at "run"
    refine r2_ixL (RL.sh _) (i := ((0 : Nat) : Int)) (atI_nat rfl) ?_
    walk_at "run"
    refine r2_ixL (RL.sh _) (i := ((1 : Nat) : Int)) (atI_nat rfl) ?_
    walk_at "run"
    refine ⟨n, n, S, rfl, by omega, Nat.le_refl n, fun t ht => ⟨(syOk_of hB hn (by omega) fun u hu => hall u (by omega)).1, hall t ht⟩, fun _ => ?_, fun z => by omega⟩
    generalize (gSt S n).F = x at hfin hsol
    walk_at "run"
    have hsh : SeqAt.shaped (.list [sysD n S, .list (rowD n S.F)]) = true := (shp_list (m := 3) fun y hy => by
      rcases List.mem_cons.mp hy with h | h
      · rw [h]; exact shp_sysD
      · rw [List.mem_singleton.mp h]; exact shp_rowD.mono (by decide)).ok (by decide)
    have hpl : plD (.list [sysD n S, .list (rowD n S.F)]) = true := pl_all fun y hy => by
      rcases List.mem_cons.mp hy with h | h
      · rw [h]; exact pl_sysD
      · rw [List.mem_singleton.mp h]; exact pl_rowD
    refine ws_if (wt_or (wt_test ?_))
    walk_at "run"
    refine we_lstV ?_
    walk_at "run"
    refine ⟨[sysD n S, .list (rowD n S.F)], rfl, by simp, ?_⟩
    refine r2_neD (DR.sh _) (DR.sh _) hsh hsh ?_
    rw [eqv_self hpl]
    refine ⟨false, rfl, fun z => (by cases z), fun _ => ?_⟩
    refine wt_or (wt_not (wt_B ?_))
    walk_at "run"
    refine ⟨true, rfl, fun z => (by cases z), fun _ => wt_test ?_⟩
    walk_at "run"
    rw [eqv_int2, decide_eq_true rfl]
    refine ⟨false, rfl, fun z => (by cases z), fun _ => ?_⟩
    walk_at "run"
    refine ws_for (wi_seqL ?_)
    walk_at "run"
    refine ⟨_, RL.sh _, fun i G' M' => M' = M1 ∧ ∃ z7, G' = [some (.va (scD ns)), some (.rf (.ref p)), some (.va (sysD n S)), some (.va (.list (rowD n S.F))), some (.va (.list [sysD n S, .list (rowD n S.F)])), none, some (.va (.list (rowD n x))), z7, none, none, none], ⟨rfl, _, rfl⟩, fun _ _ _ _ _ => RL.sh _, ?_, ?_⟩
    · rintro i G' M' hi ⟨rfl, z7, rfl⟩
      have hi : i < n := by rw [rowS_len] at hi; exact hi
      refine wg_name ?_
      simp only [rowS_getD hi]
      refine ws_if (wt_not (wt_B ?_))
      walk_at "run"
      refine cl_is_share (hfin.2 i hi).1 ⟨true, rfl, fun z => (by cases z), fun _ => ?_⟩
      walk_at "run"
      exact ⟨rfl, _, rfl⟩
    rintro G' M' ⟨rfl, z7, rfl⟩
    walk_at "run"
    refine ws_for (wi_rng1 ?_)
    walk_at "run"
    refine ⟨_, rfl, by omega, by omega, ?_⟩
    rw [Int.toNat_natCast]
    refine ⟨fun i G' M2 => M2 = M' ∧ ∃ z8 z9 z10, G' = [some (.va (scD ns)), some (.rf (.ref p)), some (.va (sysD n S)), some (.va (.list (rowD n S.F))), some (.va (.list [sysD n S, .list (rowD n S.F)])), none, some (.va (.list (rowD n x))), z7, z8, z9, z10], ⟨rfl, _, _, _, rfl⟩, fun _ _ _ _ _ => trivial, ?_, ?_⟩
    · rintro i G' M2 hi ⟨rfl, z8, z9, z10, rfl⟩
      refine wg_name ?_
      walk_at "run"
      refine r2_ixRow (RL.sh _) hi ?_
      walk_at "run"
      refine ws_for (wi_rng1 ?_)
      walk_at "run"
      refine ⟨_, rfl, by omega, by omega, ?_⟩
      rw [Int.toNat_natCast]
      have hpart : ∀ j, j ≤ n → 0 ≤ S.F i + sumN j (fun l => S.R i l * x l) ∧ Bt (10 + j * 171886) (S.F i + sumN j fun l => S.R i l * x l) := by
        intro j
        induction j with
        | zero =>
          intro _
          have e : S.F i + sumN 0 (fun l => S.R i l * x l) = S.F i := by show S.F i + 0 = _; grind
          rw [e]
          exact ⟨(hB i hi).2.1, (hB i hi).2.2.mono (by omega)⟩
        | succ j ih =>
          intro hj
          obtain ⟨a, b⟩ := ih (by omega)
          have e : S.F i + sumN (j + 1) (fun l => S.R i l * x l) = (S.F i + sumN j fun l => S.R i l * x l) + S.R i j * x j := by
            show S.F i + (sumN j (fun l => S.R i l * x l) + S.R i j * x j) = _
            grind
          rw [e]
          obtain ⟨c, d⟩ := (hB i hi).1.bt (show j < n by omega)
          obtain ⟨f, g⟩ := hfin.2 j (by omega)
          refine ⟨?_, (b.add (d.mul g)).mono (by omega)⟩
          have := Rat.mul_nonneg c f
          grind
      refine ⟨fun j G' M3 => M3 = M2 ∧ ∃ z10, G' = [some (.va (scD ns)), some (.rf (.ref p)), some (.va (sysD n S)), some (.va (.list (rowD n S.F))), some (.va (.list [sysD n S, .list (rowD n S.F)])), none, some (.va (.list (rowD n x))), z7, some (.va (.int (i : Int))), some (.va (shD (S.F i + sumN j fun l => S.R i l * x l))), z10], ⟨rfl, z10, ?_⟩, fun _ _ _ _ _ => trivial, ?_, ?_⟩
      · have e : S.F i + sumN 0 (fun l => S.R i l * x l) = S.F i := by show S.F i + 0 = _; grind
        rw [e]
        rfl
      · rintro j G' M3 hj ⟨rfl, z10, rfl⟩
        refine wg_name ?_
        walk_at "run"
        refine r2_ixL (RL.sh _) (t := .va (.list (rowD n (S.R i)))) (atI_nat (by simp [hi])) ?_
        walk_at "run"
        refine r2_ixRow (RL.sh _) hj ?_
        walk_at "run"
        refine r2_ixRow (RL.sh _) hj ?_
        walk_at "run"
        obtain ⟨c, d⟩ := (hB i hi).1.bt hj
        obtain ⟨f, g⟩ := hfin.2 j hj
        obtain ⟨a, b⟩ := hpart j (by omega)
        refine cl_ltimed ⟨c, d.fit (by decide)⟩ ⟨f, g.fit (by decide)⟩ ?_
        walk_at "run"
        refine cl_ladded ⟨a, b.fit (by omega)⟩ ⟨Rat.mul_nonneg c f, (d.mul g).fit (by decide)⟩ ⟨rfl, some (.va (.int (j : Int))), ?_⟩
        have e : S.F i + sumN (j + 1) (fun l => S.R i l * x l) = (S.F i + sumN j fun l => S.R i l * x l) + S.R i j * x j := by
          show S.F i + (sumN j (fun l => S.R i l * x l) + S.R i j * x j) = _
          grind
        rw [e]
        rfl
      · rintro G' M3 ⟨rfl, z10, rfl⟩
        refine' ws_ifP (tp_test (b := false) ?_) (fun z => by cases z) (fun _ => ?_)
        · unfold EP1
          walk_at "run"
          refine r2_ixRow (RL.sh _) hi ?_
          walk_at "run"
          rw [← hsol i hi, eqv_self (plD_shD _)]
          exact ⟨rfl, rfl⟩
        · walk_at "run"
          exact ⟨rfl, _, _, _, rfl⟩
    · rintro G' M2 ⟨rfl, z8, z9, z10, rfl⟩
      walk_at "run"
      exact hk _
  · walk_at "run"
    refine r2_ixL (RL.sh _) (i := ((0 : Nat) : Int)) (atI_nat rfl) ?_
    walk_at "run"
    refine r2_ixL (RL.sh _) (i := ((1 : Nat) : Int)) (atI_nat rfl) ?_
    walk_at "run"
    exact fail t ht hu h1

def fa : List He.Fa := [.free "len",
  .free "range",
  .free "list",
  .free "bool",
  .free "int",
  .free "isinstance",
  .free "tuple",
  .free "sum",
  .free "ValueError",
  .exc "NoShare",
  .glo "NoShare",
  .exc "NoEnd",
  .glo "NoEnd",
  .exc "NoGrammar",
  .glo "NoGrammar",
  .exc "NoText",
  .glo "NoText",
  .exc "NoTree",
  .glo "NoTree",
  .exc "ScoreError",
  .glo "ScoreError",
  .exm "NoShare" "NoEnd" false,
  .exm "NoEnd" "NoEnd" true,
  .glo "NONE",
  .glo "ALL",
  .glo "divisor",
  .glo "share",
  .glo "added",
  .glo "timed",
  .glo "lessened",
  .glo "parted",
  .glo "is_less",
  .glo "put_in",
  .glo "left_alone",
  .glo "solved",
  .glo "_law_cell_at",
  .glo "_law_dice",
  .glo "_law_roll",
  .glo "_law_whole",
  .glo "_law_share",
  .glo "_law_added",
  .glo "_law_timed",
  .glo "_law_is_share",
  .glo "_law_drawn",
  .glo "_law_ends",
  .glo "_law_refused",
  .glo "law"]
def fn : List He.DefD := [⟨("divisor", none), "divisor", "divisor", defArgs s_divisor, defBody s_divisor, defScope s_divisor, [], []⟩,
  ⟨("share", none), "share", "share", defArgs s_share, defBody s_share, defScope s_share, [], []⟩,
  ⟨("added", none), "added", "added", defArgs s_added, defBody s_added, defScope s_added, [], []⟩,
  ⟨("timed", none), "timed", "timed", defArgs s_timed, defBody s_timed, defScope s_timed, [], []⟩,
  ⟨("lessened", none), "lessened", "lessened", defArgs s_lessened, defBody s_lessened, defScope s_lessened, [], []⟩,
  ⟨("parted", none), "parted", "parted", defArgs s_parted, defBody s_parted, defScope s_parted, [], []⟩,
  ⟨("is_less", none), "is_less", "is_less", defArgs s_is_less, defBody s_is_less, defScope s_is_less, [], []⟩,
  ⟨("put_in", none), "put_in", "put_in", defArgs s_put_in, defBody s_put_in, defScope s_put_in, [], []⟩,
  ⟨("left_alone", none), "left_alone", "left_alone", defArgs s_left_alone, defBody s_left_alone, defScope s_left_alone, [], []⟩,
  ⟨("solved", none), "solved", "solved", defArgs s_solved, defBody s_solved, defScope s_solved, [], []⟩,
  ⟨("_law_cell_at", none), "_law_cell_at", "_law_cell_at", defArgs s__law_cell_at, defBody s__law_cell_at, defScope s__law_cell_at, [], []⟩,
  ⟨("_law_dice", none), "_law_dice", "_law_dice", defArgs s__law_dice, defBody s__law_dice, defScope s__law_dice, [], []⟩,
  ⟨("_law_roll", none), "_law_roll", "_law_roll", defArgs s__law_roll, defBody s__law_roll, defScope s__law_roll, [], []⟩,
  ⟨("_law_whole", none), "_law_whole", "_law_whole", defArgs s__law_whole, defBody s__law_whole, defScope s__law_whole, [], []⟩,
  ⟨("_law_share", none), "_law_share", "_law_share", defArgs s__law_share, defBody s__law_share, defScope s__law_share, [], []⟩,
  ⟨("_law_added", none), "_law_added", "_law_added", defArgs s__law_added, defBody s__law_added, defScope s__law_added, [], []⟩,
  ⟨("_law_timed", none), "_law_timed", "_law_timed", defArgs s__law_timed, defBody s__law_timed, defScope s__law_timed, [], []⟩,
  ⟨("_law_is_share", none), "_law_is_share", "_law_is_share", defArgs s__law_is_share, defBody s__law_is_share, defScope s__law_is_share, [], []⟩,
  ⟨("_law_drawn", none), "_law_drawn", "_law_drawn", defArgs s__law_drawn, defBody s__law_drawn, defScope s__law_drawn, [], []⟩,
  ⟨("_law_ends", none), "_law_ends", "_law_ends", defArgs s__law_ends, defBody s__law_ends, defScope s__law_ends, [], []⟩,
  ⟨("_law_refused", none), "_law_refused", "_law_refused", defArgs s__law_refused, defBody s__law_refused, defScope s__law_refused, [], []⟩,
  ⟨("law", none), "law", "law", defArgs s_law, defBody s_law, defScope s_law, [], []⟩]
def exB (K : PySem.W.Frag) : Bool := [sysB K,
  excCB K "NoShare",
  kitXB K "NoShare" "NoGrammar" false,
  kitXB K "NoShare" "NoShare" true,
  kitXB K "NoShare" "NoText" false,
  kitXB K "NoShare" "NoTree" false,
  kitXB K "NoShare" "ScoreError" true,
  kitXT K "NoShare" "ValueError" true,
  excCB K "NoEnd",
  kitXB K "NoEnd" "NoGrammar" false,
  kitXB K "NoEnd" "NoShare" false,
  kitXB K "NoEnd" "NoText" false,
  kitXB K "NoEnd" "NoTree" false,
  kitXB K "NoEnd" "ScoreError" true,
  kitXT K "NoEnd" "ValueError" true,
  He.tupB K "NONE" [.int 0, .int 1],
  He.tupB K "ALL" [.int 1, .int 1]].all id
theorem tx_of {P : Program} {K : PySem.W.Frag} {h : Heap} {mg : Str → Option Value} (ht : P.given.tree = none) (X : K.In h) (G : h.Ns mainGlobals mg) (c : SaysY fa fn exB K) : Tx P K mg where
  sys := sysB_ok ht (all_at c.more 0 rfl)
  z_len := He.free_ok X G (c.d.fact 0 (f := .free "len") rfl)
  z_range := He.free_ok X G (c.d.fact 1 (f := .free "range") rfl)
  z_list := He.free_ok X G (c.d.fact 2 (f := .free "list") rfl)
  z_bool := He.free_ok X G (c.d.fact 3 (f := .free "bool") rfl)
  z_int := He.free_ok X G (c.d.fact 4 (f := .free "int") rfl)
  z_isinstance := He.free_ok X G (c.d.fact 5 (f := .free "isinstance") rfl)
  z_tuple := He.free_ok X G (c.d.fact 6 (f := .free "tuple") rfl)
  z_sum := He.free_ok X G (c.d.fact 7 (f := .free "sum") rfl)
  z_ValueError := He.free_ok X G (c.d.fact 8 (f := .free "ValueError") rfl)
  e_NoShare := excX_ok X G (c.d.fact 9 (f := .exc "NoShare") rfl) (c.d.fact 10 (f := .glo "NoShare") rfl)
  e_NoEnd := excX_ok X G (c.d.fact 11 (f := .exc "NoEnd") rfl) (c.d.fact 12 (f := .glo "NoEnd") rfl)
  e_NoGrammar := excX_ok X G (c.d.fact 13 (f := .exc "NoGrammar") rfl) (c.d.fact 14 (f := .glo "NoGrammar") rfl)
  e_NoText := excX_ok X G (c.d.fact 15 (f := .exc "NoText") rfl) (c.d.fact 16 (f := .glo "NoText") rfl)
  e_NoTree := excX_ok X G (c.d.fact 17 (f := .exc "NoTree") rfl) (c.d.fact 18 (f := .glo "NoTree") rfl)
  e_ScoreError := excX_ok X G (c.d.fact 19 (f := .exc "ScoreError") rfl) (c.d.fact 20 (f := .glo "ScoreError") rfl)
  km_NoShare_NoEnd := He.exm_ok (c.d.fact 21 (f := .exm "NoShare" "NoEnd" false) rfl)
  xc_NoShare := excCB_ok (all_at c.more 1 rfl)
  ki_NoShare_NoGrammar := kitXB_ok (all_at c.more 2 rfl)
  ki_NoShare_NoShare := kitXB_ok (all_at c.more 3 rfl)
  ki_NoShare_NoText := kitXB_ok (all_at c.more 4 rfl)
  ki_NoShare_NoTree := kitXB_ok (all_at c.more 5 rfl)
  ki_NoShare_ScoreError := kitXB_ok (all_at c.more 6 rfl)
  ki_NoShare_ValueError := kitXT_ok (all_at c.more 7 rfl)
  km_NoEnd_NoEnd := He.exm_ok (c.d.fact 22 (f := .exm "NoEnd" "NoEnd" true) rfl)
  xc_NoEnd := excCB_ok (all_at c.more 8 rfl)
  ki_NoEnd_NoGrammar := kitXB_ok (all_at c.more 9 rfl)
  ki_NoEnd_NoShare := kitXB_ok (all_at c.more 10 rfl)
  ki_NoEnd_NoText := kitXB_ok (all_at c.more 11 rfl)
  ki_NoEnd_NoTree := kitXB_ok (all_at c.more 12 rfl)
  ki_NoEnd_ScoreError := kitXB_ok (all_at c.more 13 rfl)
  ki_NoEnd_ValueError := kitXT_ok (all_at c.more 14 rfl)
  c_NONE := He.glo_ok X G (c.d.fact 23 (f := .glo "NONE") rfl)
  v_NONE := He.tupB_ok (all_at c.more 15 rfl)
  c_ALL := He.glo_ok X G (c.d.fact 24 (f := .glo "ALL") rfl)
  v_ALL := He.tupB_ok (all_at c.more 16 rfl)
  f_divisor := He.glo_ok X G (c.d.fact 25 (f := .glo "divisor") rfl)
  d_divisor := df_ok c.d 0 rfl
  f_share := He.glo_ok X G (c.d.fact 26 (f := .glo "share") rfl)
  d_share := df_ok c.d 1 rfl
  f_added := He.glo_ok X G (c.d.fact 27 (f := .glo "added") rfl)
  d_added := df_ok c.d 2 rfl
  f_timed := He.glo_ok X G (c.d.fact 28 (f := .glo "timed") rfl)
  d_timed := df_ok c.d 3 rfl
  f_lessened := He.glo_ok X G (c.d.fact 29 (f := .glo "lessened") rfl)
  d_lessened := df_ok c.d 4 rfl
  f_parted := He.glo_ok X G (c.d.fact 30 (f := .glo "parted") rfl)
  d_parted := df_ok c.d 5 rfl
  f_is_less := He.glo_ok X G (c.d.fact 31 (f := .glo "is_less") rfl)
  d_is_less := df_ok c.d 6 rfl
  f_put_in := He.glo_ok X G (c.d.fact 32 (f := .glo "put_in") rfl)
  d_put_in := df_ok c.d 7 rfl
  f_left_alone := He.glo_ok X G (c.d.fact 33 (f := .glo "left_alone") rfl)
  d_left_alone := df_ok c.d 8 rfl
  f_solved := He.glo_ok X G (c.d.fact 34 (f := .glo "solved") rfl)
  d_solved := df_ok c.d 9 rfl
  f__law_cell_at := He.glo_ok X G (c.d.fact 35 (f := .glo "_law_cell_at") rfl)
  d__law_cell_at := df_ok c.d 10 rfl
  f__law_dice := He.glo_ok X G (c.d.fact 36 (f := .glo "_law_dice") rfl)
  d__law_dice := df_ok c.d 11 rfl
  f__law_roll := He.glo_ok X G (c.d.fact 37 (f := .glo "_law_roll") rfl)
  d__law_roll := df_ok c.d 12 rfl
  f__law_whole := He.glo_ok X G (c.d.fact 38 (f := .glo "_law_whole") rfl)
  d__law_whole := df_ok c.d 13 rfl
  f__law_share := He.glo_ok X G (c.d.fact 39 (f := .glo "_law_share") rfl)
  d__law_share := df_ok c.d 14 rfl
  f__law_added := He.glo_ok X G (c.d.fact 40 (f := .glo "_law_added") rfl)
  d__law_added := df_ok c.d 15 rfl
  f__law_timed := He.glo_ok X G (c.d.fact 41 (f := .glo "_law_timed") rfl)
  d__law_timed := df_ok c.d 16 rfl
  f__law_is_share := He.glo_ok X G (c.d.fact 42 (f := .glo "_law_is_share") rfl)
  d__law_is_share := df_ok c.d 17 rfl
  f__law_drawn := He.glo_ok X G (c.d.fact 43 (f := .glo "_law_drawn") rfl)
  d__law_drawn := df_ok c.d 18 rfl
  f__law_ends := He.glo_ok X G (c.d.fact 44 (f := .glo "_law_ends") rfl)
  d__law_ends := df_ok c.d 19 rfl
  f__law_refused := He.glo_ok X G (c.d.fact 45 (f := .glo "_law_refused") rfl)
  d__law_refused := df_ok c.d 20 rfl
  f_law := He.glo_ok X G (c.d.fact 46 (f := .glo "law") rfl)
  d_law := df_ok c.d 21 rfl
abbrev R : PySem.W.OpenRow := PySem.W.OpenLaw.row PySem.Challenge.rw_scoreflow_k03_systems_solved
abbrev hk : PySem.W.Hook := hookY 4 fa fn exB
def ob (s : PySem.W.SharedT) : AlY := obsY 4 fa fn exB (HandSHeadRun.getT s)
theorem ob_eq (s : PySem.W.SharedT) : ob s = hk.obs s.abs := obsY_eq (HandSHeadRun.getT_eq s)
abbrev looseN : List Str := ["ScoreError", "NoShare", "NoEnd", "NoGrammar", "NoTree", "NoText", "NONE", "ALL", "divisor", "share", "added", "lessened", "timed", "parted", "is_less", "put_in", "left_alone", "solved", "_law_cell_at", "_law_dice", "_law_roll", "_law_whole", "_law_share", "_law_added", "_law_timed", "_law_is_share", "_law_drawn", "_law_ends", "_law_refused"]
set_option maxHeartbeats 0 in
theorem run (w : World) : HandSHeadRun.RunEq R (PySem.W.view R.prog [33]) hk ob 4000 looseN w := by
  intro os
  kernel_rfl
theorem facts {w : World} {K : PySem.W.Frag} {h : Heap} {mg : Str → Option Value} {f : Addr} (X : K.In h) (G : h.Ns mainGlobals mg) (hfa : mg ("law" : Str) = some (.ref f)) (c : SaysY fa fn exB K) :
    ∃ fd : FuncData, (∀ (s : Shared) (u : Value), BindsTo s fd ⟨[u], []⟩ [("_law_script", u)]) ∧ ∀ base : Heap, FnOk PySem.Challenge.rw_scoreflow_k03_systems_solved.prog w K mg base (L2.CX PySem.Challenge.rw_scoreflow_k03_systems_solved.prog w) 39 f fd ["_law_script"] (lift K (spLaw 63)) := by
  have T := tx_of (P := PySem.Challenge.rw_scoreflow_k03_systems_solved.prog) rfl X G c
  obtain ⟨fd, F⟩ := T.d_law.ex
  have e := hfa.symm.trans T.f_law
  cases e
  have k_divisor := fun base : Heap => mk_divisor (w := w) (base := base) T  v_divisor
  have k_share := fun base : Heap => mk_share (w := w) (base := base) T (k_divisor base) v_share
  have k_added := fun base : Heap => mk_added (w := w) (base := base) T (k_share base) v_added
  have k_timed := fun base : Heap => mk_timed (w := w) (base := base) T (k_share base) v_timed
  have k_lessened := fun base : Heap => mk_lessened (w := w) (base := base) T (k_share base) v_lessened
  have k_parted := fun base : Heap => mk_parted (w := w) (base := base) T (k_share base) v_parted
  have k_is_less := fun base : Heap => mk_is_less (w := w) (base := base) T  v_is_less
  have k_put_in := fun base : Heap => mk_put_in (w := w) (base := base) T (k_added base) (k_timed base) (v_put_in T)
  have k_left_alone := fun base : Heap => mk_left_alone (w := w) (base := base) T (k_parted base) (k_lessened base) (k_is_less base) (v_left_alone T)
  have k_solved := fun base : Heap => mk_solved (w := w) (base := base) T (k_put_in base) (k_left_alone base) (v_solved T)
  have k__law_cell_at := fun base : Heap => mk__law_cell_at (w := w) (base := base) T  v__law_cell_at
  have k__law_dice := fun base : Heap => mk__law_dice (w := w) (base := base) T  v__law_dice
  have k__law_roll := fun base : Heap => mk__law_roll (w := w) (base := base) T  v__law_roll
  have k__law_whole := fun base : Heap => mk__law_whole (w := w) (base := base) T  v__law_whole
  have k__law_share := fun base : Heap => mk__law_share (w := w) (base := base) T  v__law_share
  have k__law_added := fun base : Heap => mk__law_added (w := w) (base := base) T (k__law_share base) v__law_added
  have k__law_timed := fun base : Heap => mk__law_timed (w := w) (base := base) T (k__law_share base) v__law_timed
  have k__law_is_share := fun base : Heap => mk__law_is_share (w := w) (base := base) T (k__law_whole base) v__law_is_share
  have k__law_drawn := fun base : Heap => mk__law_drawn (w := w) (base := base) T (k__law_roll base) (k__law_share base) v__law_drawn
  have k__law_ends := fun base : Heap => mk__law_ends (w := w) (base := base) T (k__law_added base) (k__law_timed base) (k__law_share base) v__law_ends
  have k__law_refused := fun base : Heap => mk__law_refused (w := w) (base := base) T (k_solved base) (v__law_refused T)
  have b := FunD.bindsA (ps := ["_law_script"]) F fun _ _ _ _ _ _ us hl => match us, hl with | [_], _ => rfl
  exact ⟨fd, fun s v => b s [v] rfl, fun base => fn_end F sc_law (by decide) (fun cdv A outer s H E hr => p_law T (k__law_added base) (k__law_timed base) (k__law_is_share base) (k_solved base) (k__law_ends base) (k__law_refused base) (k__law_drawn base) (k__law_cell_at base) (k__law_dice base) hr) v_law⟩
end G91
open PySem PySem.W PySem.Calls PyProof.Rows
theorem PySem.Challenge.cw_scoreflow_k03_systems_solved_holds : PySem.Challenge.rw_scoreflow_k03_systems_solved.Holds := by
  w_on; o_law
  refine HandSHeadRun.head_any (r := PySem.W.OpenLaw.row PySem.Challenge.rw_scoreflow_k03_systems_solved) (q := PySem.W.view (PySem.W.OpenLaw.row PySem.Challenge.rw_scoreflow_k03_systems_solved).prog [33]) (H := G91.hk) (ob := G91.ob) (M := 4000) (loose := G91.looseN) (d := HandSHeadRun.topDef (PySem.W.OpenLaw.row PySem.Challenge.rw_scoreflow_k03_systems_solved).prog 33) (kwd := []) G91.ob_eq
    (by kernel_rfl) (fun s => by kernel_rfl) G91.run (by kernel_rfl) (by kernel_rfl) (by kernel_rfl) (by rfl) (by first | assumption | decide +kernel) (by decide +kernel) ⟨rfl, rfl, rfl, rfl, rfl, by decide +kernel⟩ ?hw ?hc
  case hw => w_witness2
  case hc =>
    refine G91.walkE2 (l := PySem.Challenge.rw_scoreflow_k03_systems_solved) (n := 63) (k := 39) (x := "_law_script") rfl (by decide) (by kernel_rfl) ⟨rfl, by decide, by decide⟩ ?F
    intro w mg fa h Y G hmg0
    obtain ⟨K, KX, c⟩ := Y
    have hmg : mg ("law" : PySem.Str) = some (.ref fa) := by
      have e : (HandSHeadRun.topDef (PySem.W.OpenLaw.row PySem.Challenge.rw_scoreflow_k03_systems_solved).prog 33).name = ("law" : PySem.Str) := by kernel_rfl
      rw [← e]
      exact hmg0
    obtain ⟨fd, hb, hF⟩ := G91.facts (w := w) KX G hmg c
    exact ⟨K, fd, G91.lift K (G91.spLaw 63), KX, hb, fun H a ns hl _ hS => G91.lift_law hl hS, fun base _ _ => hF base⟩
