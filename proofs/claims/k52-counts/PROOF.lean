import PyProof.Rows.All
import Wide.All
import OpenK.AllK
import Wide.FinOn
import HandS.ForMost
import HandS.More
import HandS.Replace
import HandS.Deep
import HandS.DictComp
import HandS.TupSets
import KE.KeyNested
import KE.SortData
import KE.OsSortAny
import KE.GoesEnum
import KE.GoesZip
import HandS.IsInst
import HandS.TupAny
import HandS.Comp
import HandS.Text
import PySem.Challenge.RW_chipgate_k52_whole_counts_of_rows_are_co
set_option Elab.async false
set_option linter.all false
set_option maxRecDepth 100000
set_option maxHeartbeats 4000000
/-! TW: a typed walk over the hand layer: what is frozen stands in a ghost heap G, what may change in a list of owned cells. -/
namespace TW
open PySem L2

def Ex (H H' : Hp) : Prop := ∀ a o, H a = some o → H' a = some o
theorem Ex.rfl (H : Hp) : Ex H H := fun _ _ h => h
theorem Ex.trans {H H1 H2 : Hp} (a : Ex H H1) (b : Ex H1 H2) : Ex H H2 := fun x o h => b x o (a x o h)
theorem Ex.put {H : Hp} {p : Addr} {o : HO} (h : H p = none) : Ex H (upd H p o) := fun a u e => by
  rw [upd_ne (ne_of_none e h)]; exact e

/-- what is known of a value, whatever is frozen further -/
structure TV where
  ok : Hp → V → Prop
  mono : ∀ {G G' v}, Ex G G' → ok G v → ok G' v
/-- what is known of an owned cell -/
structure TC where
  ok : Hp → HO → Prop
  mono : ∀ {G G' o}, Ex G G' → ok G o → ok G' o
/-- how data of a type lie -/
structure Rep (α : Type) where
  rp : Hp → V → α → Prop
  mono : ∀ {G G' v x}, Ex G G' → rp G v x → rp G' v x
def tv {α : Type} (r : Rep α) (x : α) : TV := ⟨fun G v => r.rp G v x, fun e h => r.mono e h⟩

abbrev Cells := List (Addr × TC)
abbrev ads (c : Cells) : List Addr := c.map (·.1)
structure Hld (G : Hp) (c : Cells) (H : Hp) : Prop where
  ex : Ex G H
  nd : (ads c).Nodup
  own : ∀ p ∈ c, G p.1 = none ∧ ∃ o, H p.1 = some o ∧ p.2.ok G o
structure Aft (G : Hp) (c : Cells) (H : Hp) (G' : Hp) (c' : Cells) (H' : Hp) : Prop where
  gg : Ex G G'
  keep : ∀ a o, H a = some o → a ∉ ads c → H' a = some o
  nost : ∀ a o, H a = some o → a ∉ ads c → G a = none → G' a = none
  new : ∀ a, a ∈ ads c' → a ∈ ads c ∨ H a = none
  hld : Hld G' c' H'
theorem Aft.refl {G : Hp} {c : Cells} {H : Hp} (h : Hld G c H) : Aft G c H G c H :=
  ⟨Ex.rfl G, fun _ _ e _ => e, fun _ _ _ _ e => e, fun _ e => .inl e, h⟩
theorem Aft.trans {G G1 G2 : Hp} {c c1 c2 : Cells} {H H1 H2 : Hp} (x : Aft G c H G1 c1 H1) (y : Aft G1 c1 H1 G2 c2 H2) : Aft G c H G2 c2 H2 := by
  have nin : ∀ a o, H a = some o → a ∉ ads c → a ∉ ads c1 := fun a o e hn hm => by
    rcases x.new a hm with z | z
    · exact hn z
    · rw [e] at z; cases z
  refine ⟨x.gg.trans y.gg, fun a o e hn => y.keep a o (x.keep a o e hn) (nin a o e hn), fun a o e hn g => y.nost a o (x.keep a o e hn) (nin a o e hn) (x.nost a o e hn g), fun a hm => ?_, y.hld⟩
  rcases y.new a hm with z | z
  · exact x.new a z
  · cases e : H a with
    | none => exact .inr _root_.rfl
    | some o =>
      by_cases hn : a ∈ ads c
      · exact .inl hn
      · rw [x.keep a o e hn] at z; cases z
theorem Hld.free {G : Hp} {c : Cells} {H : Hp} (h : Hld G c H) {a : Addr} (e : H a = none) : G a = none := by
  cases g : G a with
  | none => rfl
  | some o => rw [h.ex a o g] at e; cases e
theorem mem_ads {c : Cells} {p : Addr × TC} (h : p ∈ c) : p.1 ∈ ads c := List.mem_map.mpr ⟨p, h, rfl⟩
theorem of_ads {c : Cells} {a : Addr} (h : a ∈ ads c) : ∃ t, (a, t) ∈ c := by
  obtain ⟨p, hp, e⟩ := List.mem_map.mp h
  exact ⟨p.2, by rw [← e]; exact hp⟩
theorem Hld.fresh {G : Hp} {c : Cells} {H : Hp} (h : Hld G c H) {a : Addr} (e : H a = none) : a ∉ ads c := fun hm => by
  obtain ⟨t, ht⟩ := of_ads hm
  obtain ⟨_, o, ho, _⟩ := h.own _ ht
  rw [e] at ho; cases ho
/-- a new object, frozen at once -/
theorem Aft.frz {G : Hp} {c : Cells} {H : Hp} {p : Addr} (o : HO) (h : Hld G c H) (e : H p = none) : Aft G c H (upd G p o) c (upd H p o) := by
  have gn := h.free e
  refine ⟨Ex.put gn, fun a u q _ => by rw [upd_ne (ne_of_none q e)]; exact q, fun a u q _ g => by rw [upd_ne (ne_of_none q e)]; exact g, fun a q => .inl q, ?_, h.nd, fun q hq => ?_⟩
  · intro a u q
    by_cases z : a = p
    · subst z; rw [upd_same] at q ⊢; exact q
    · rw [upd_ne z] at q ⊢; exact h.ex a u q
  · obtain ⟨g, u, hu, t⟩ := h.own q hq
    have z : q.1 ≠ p := ne_of_none hu e
    exact ⟨by rw [upd_ne z]; exact g, u, by rw [upd_ne z]; exact hu, q.2.mono (Ex.put gn) t⟩
/-- a new object, owned -/
theorem Aft.own1 {G : Hp} {c : Cells} {H : Hp} {p : Addr} {o : HO} {t : TC} (h : Hld G c H) (e : H p = none) (k : t.ok G o) : Aft G c H G ((p, t) :: c) (upd H p o) := by
  refine ⟨Ex.rfl G, fun a u q _ => by rw [upd_ne (ne_of_none q e)]; exact q, fun a u q _ g => g, fun a q => ?_, fun a u q => by rw [upd_ne (ne_of_none (h.ex a u q) e)]; exact h.ex a u q, ?_, fun q hq => ?_⟩
  · rcases List.mem_cons.mp q with z | z
    · exact .inr (by rw [z]; exact e)
    · exact .inl z
  · exact List.nodup_cons.mpr ⟨h.fresh e, h.nd⟩
  · rcases List.mem_cons.mp hq with z | z
    · subst z; exact ⟨h.free e, o, upd_same, k⟩
    · obtain ⟨g, u, hu, t⟩ := h.own q z
      exact ⟨g, u, by rw [upd_ne (ne_of_none hu e)]; exact hu, t⟩
/-- an owned cell is written -/
theorem Aft.wr {G : Hp} {ca cb : Cells} {H : Hp} {p : Addr} {o : HO} {t t' : TC} (h : Hld G (ca ++ (p, t) :: cb) H) (k : t'.ok G o) : Aft G (ca ++ (p, t) :: cb) H G (ca ++ (p, t') :: cb) (upd H p o) := by
  have hm : (p, t) ∈ ca ++ (p, t) :: cb := List.mem_append_right _ List.mem_cons_self
  have ea : ads (ca ++ (p, t') :: cb) = ads (ca ++ (p, t) :: cb) := by simp
  obtain ⟨gp, u0, hu0, _⟩ := h.own _ hm
  have np : ∀ a, a ∉ ads (ca ++ (p, t) :: cb) → a ≠ p := fun a hn z => hn (by rw [z]; exact mem_ads hm)
  refine ⟨Ex.rfl G, fun a u q hn => by rw [upd_ne (np a hn)]; exact q, fun a u q hn g => g, fun a q => .inl (by rw [ea] at q; exact q), fun a u q => ?_, by rw [ea]; exact h.nd, fun q hq => ?_⟩
  · have z : a ≠ p := fun z => by subst z; rw [gp] at q; cases q
    rw [upd_ne z]; exact h.ex a u q
  · have nd := h.nd
    have e1 : ads (ca ++ (p, t) :: cb) = ads ca ++ p :: ads cb := by simp [ads]
    rw [e1] at nd
    have nd2 := List.nodup_append.mp nd
    rcases List.mem_append.mp hq with z | z
    · obtain ⟨g, u, hu, k'⟩ := h.own q (List.mem_append_left _ z)
      have ne : q.1 ≠ p := fun z' => nd2.2.2 q.1 (mem_ads z) p List.mem_cons_self z'
      exact ⟨g, u, by rw [upd_ne ne]; exact hu, k'⟩
    · rcases List.mem_cons.mp z with z | z
      · subst z; exact ⟨gp, o, upd_same, k⟩
      · obtain ⟨g, u, hu, k'⟩ := h.own q (List.mem_append_right _ (List.mem_cons_of_mem _ z))
        have ne : q.1 ≠ p := fun z' => (List.nodup_cons.mp nd2.2.1).1 (by rw [← z']; exact mem_ads z)
        exact ⟨g, u, by rw [upd_ne ne]; exact hu, k'⟩
/-- cells may be left behind, or put otherwise -/
theorem Hld.sub {G : Hp} {c c' : Cells} {H : Hp} (h : Hld G c H) (nd : (ads c').Nodup) (s : ∀ p ∈ c', p ∈ c) : Hld G c' H := ⟨h.ex, nd, fun p hp => h.own p (s p hp)⟩
theorem Aft.sub {G G1 : Hp} {c c1 c2 : Cells} {H H1 : Hp} (x : Aft G c H G1 c1 H1) (nd : (ads c2).Nodup) (s : ∀ p ∈ c2, p ∈ c1) : Aft G c H G1 c2 H1 :=
  ⟨x.gg, x.keep, x.nost, fun a hm => by
    obtain ⟨t, ht⟩ := of_ads hm
    exact x.new a (mem_ads (s _ ht)), x.hld.sub nd s⟩
theorem Aft.drop {G G1 : Hp} {c c1 c2 : Cells} {H H1 : Hp} (x : Aft G c H G1 c1 H1) (s : c2.Sublist c1) : Aft G c H G1 c2 H1 :=
  x.sub ((s.map (·.1)).nodup x.hld.nd) fun p hp => s.subset hp
/-- an owned cell is frozen -/
theorem Aft.freeze {G : Hp} {ca cb : Cells} {H : Hp} {p : Addr} {t : TC} (h : Hld G (ca ++ (p, t) :: cb) H) : ∃ o G', G' = upd G p o ∧ t.ok G o ∧ G p = none ∧ Aft G (ca ++ (p, t) :: cb) H G' (ca ++ cb) H := by
  have hm : (p, t) ∈ ca ++ (p, t) :: cb := List.mem_append_right _ List.mem_cons_self
  obtain ⟨gp, o, ho, k⟩ := h.own _ hm
  refine ⟨o, _, rfl, k, gp, Ex.put gp, fun _ _ e _ => e, fun a u q hn g => ?_, fun a q => .inl ?_, ?_, ?_, fun q hq => ?_⟩
  · have z : a ≠ p := fun z => hn (by rw [z]; exact mem_ads hm)
    rw [upd_ne z]; exact g
  · have e2 : ads (ca ++ cb) = ads ca ++ ads cb := by simp [ads]
    have e1 : ads (ca ++ (p, t) :: cb) = ads ca ++ p :: ads cb := by simp [ads]
    rw [e2] at q; rw [e1]
    rcases List.mem_append.mp q with z | z
    · exact List.mem_append_left _ z
    · exact List.mem_append_right _ (List.mem_cons_of_mem _ z)
  · intro a u q
    by_cases z : a = p
    · subst z; rw [upd_same] at q; cases q; exact ho
    · rw [upd_ne z] at q; exact h.ex a u q
  · have e2 : ads (ca ++ cb) = ads ca ++ ads cb := by simp [ads]
    have e1 : ads (ca ++ (p, t) :: cb) = ads ca ++ p :: ads cb := by simp [ads]
    have nd := h.nd
    rw [e1] at nd; rw [e2]
    exact nd.sublist (List.Sublist.append_left (List.sublist_cons_self _ _) _)
  · have nd := h.nd
    have e1 : ads (ca ++ (p, t) :: cb) = ads ca ++ p :: ads cb := by simp [ads]
    rw [e1] at nd
    have nd2 := List.nodup_append.mp nd
    rcases List.mem_append.mp hq with z | z
    · obtain ⟨g, u, hu, k'⟩ := h.own q (List.mem_append_left _ z)
      have ne : q.1 ≠ p := fun z' => nd2.2.2 q.1 (mem_ads z) p List.mem_cons_self z'
      exact ⟨by rw [upd_ne ne]; exact g, u, hu, q.2.mono (Ex.put gp) k'⟩
    · obtain ⟨g, u, hu, k'⟩ := h.own q (List.mem_append_right _ (List.mem_cons_of_mem _ z))
      have ne : q.1 ≠ p := fun z' => (List.nodup_cons.mp nd2.2.1).1 (by rw [← z']; exact mem_ads z)
      exact ⟨by rw [upd_ne ne]; exact g, u, hu, q.2.mono (Ex.put gp) k'⟩
/-- the frame: a callee has but c1 -/
theorem Aft.frame {G G' : Hp} {c1 c1' c2 : Cells} {H H' : Hp} (h : Hld G (c1 ++ c2) H) (x : Aft G c1 H G' c1' H') : Aft G (c1 ++ c2) H G' (c1' ++ c2) H' := by
  have e1 : ads (c1 ++ c2) = ads c1 ++ ads c2 := by simp [ads]
  have e2 : ads (c1' ++ c2) = ads c1' ++ ads c2 := by simp [ads]
  have nd := h.nd
  rw [e1] at nd
  have nd2 := List.nodup_append.mp nd
  have no1 : ∀ a o, H a = some o → a ∈ ads c2 → a ∉ ads c1' := fun a o e h2 hm => by
    rcases x.new a hm with z | z
    · exact nd2.2.2 a z a h2 rfl
    · rw [e] at z; cases z
  refine ⟨x.gg, fun a o e hn => x.keep a o e fun z => hn (by rw [e1]; exact List.mem_append_left _ z), fun a o e hn g => x.nost a o e (fun z => hn (by rw [e1]; exact List.mem_append_left _ z)) g, fun a hm => ?_, x.hld.ex, ?_, fun p hp => ?_⟩
  · rw [e2] at hm
    rcases List.mem_append.mp hm with z | z
    · rcases x.new a z with y | y
      · exact .inl (by rw [e1]; exact List.mem_append_left _ y)
      · exact .inr y
    · exact .inl (by rw [e1]; exact List.mem_append_right _ z)
  · rw [e2]
    refine List.nodup_append.mpr ⟨x.hld.nd, nd2.2.1, fun a ha b hb e => ?_⟩
    subst e
    obtain ⟨t, ht⟩ := of_ads hb
    obtain ⟨_, o, ho, _⟩ := h.own _ (List.mem_append_right _ ht)
    exact no1 a o ho hb ha
  · rcases List.mem_append.mp hp with z | z
    · exact x.hld.own p z
    · obtain ⟨g, o, ho, k⟩ := h.own p (List.mem_append_right _ z)
      have nin : p.1 ∉ ads c1 := fun y => nd2.2.2 p.1 y p.1 (mem_ads z) rfl
      exact ⟨x.nost _ _ ho nin g, o, x.keep _ _ ho nin, p.2.mono x.gg k⟩
theorem Hld.left {G : Hp} {c1 c2 : Cells} {H : Hp} (h : Hld G (c1 ++ c2) H) : Hld G c1 H := by
  have e1 : ads (c1 ++ c2) = ads c1 ++ ads c2 := by simp [ads]
  have nd := h.nd
  rw [e1] at nd
  exact h.sub (List.nodup_append.mp nd).1 fun p hp => List.mem_append_left _ hp

/-! ### the names -/
abbrev TEnv := List (Option TV)
def EnvOk (G : Hp) : TEnv → L2.St → Prop
  | [], [] => True
  | none :: Γ, _ :: σ => EnvOk G Γ σ
  | some P :: Γ, x :: σ => (∃ v, x = some v ∧ P.ok G v) ∧ EnvOk G Γ σ
  | _, _ => False
theorem EnvOk.mono {G G' : Hp} (e : Ex G G') : ∀ {Γ : TEnv} {σ : L2.St}, EnvOk G Γ σ → EnvOk G' Γ σ
  | [], [], h => h
  | none :: Γ, x :: σ, h => EnvOk.mono (Γ := Γ) (σ := σ) e h
  | some P :: Γ, x :: σ, ⟨⟨v, ev, hv⟩, h⟩ => ⟨⟨v, ev, P.mono e hv⟩, EnvOk.mono (Γ := Γ) (σ := σ) e h⟩
  | [], _ :: _, h => h.elim
  | none :: _, [], h => h.elim
  | some _ :: _, [], h => h.elim
theorem EnvOk.get {G : Hp} {P : TV} : ∀ {Γ : TEnv} {σ : L2.St} {i : Nat}, EnvOk G Γ σ → Γ[i]? = some (some P) → ∃ v, σ[i]? = some (some v) ∧ P.ok G v
  | [], _, _, _, e => by simp at e
  | none :: Γ, [], _, h, _ => h.elim
  | some _ :: Γ, [], _, h, _ => h.elim
  | none :: Γ, x :: σ, 0, h, e => by simp at e
  | none :: Γ, x :: σ, i + 1, h, e => by
    obtain ⟨v, h1, h2⟩ := EnvOk.get (Γ := Γ) (σ := σ) (i := i) h (by simpa using e)
    exact ⟨v, by simpa using h1, h2⟩
  | some P' :: Γ, x :: σ, 0, ⟨⟨v, ev, hv⟩, h⟩, e => by
    simp at e; subst e
    exact ⟨v, by simp [ev], hv⟩
  | some P' :: Γ, x :: σ, i + 1, ⟨_, h⟩, e => by
    obtain ⟨v, h1, h2⟩ := EnvOk.get (Γ := Γ) (σ := σ) (i := i) h (by simpa using e)
    exact ⟨v, by simpa using h1, h2⟩
theorem EnvOk.set {G : Hp} {P : TV} {v : V} (hv : P.ok G v) : ∀ {Γ : TEnv} {σ : L2.St} (i : Nat), EnvOk G Γ σ → EnvOk G (Γ.set i (some P)) (σ.set i (some v))
  | [], [], _, h => h
  | none :: Γ, [], _, h => h.elim
  | some _ :: Γ, [], _, h => h.elim
  | [], _ :: _, _, h => h.elim
  | none :: Γ, x :: σ, 0, h => ⟨⟨v, rfl, hv⟩, h⟩
  | none :: Γ, x :: σ, i + 1, h => EnvOk.set (Γ := Γ) (σ := σ) hv i h
  | some P' :: Γ, x :: σ, 0, ⟨_, h⟩ => ⟨⟨v, rfl, hv⟩, h⟩
  | some P' :: Γ, x :: σ, i + 1, ⟨w, h⟩ => ⟨w, EnvOk.set (Γ := Γ) (σ := σ) hv i h⟩
theorem EnvOk.wipe1 {G : Hp} : ∀ {Γ : TEnv} {σ : L2.St} (i : Nat), EnvOk G Γ σ → EnvOk G (Γ.set i none) (σ.set i none)
  | [], [], _, h => h
  | none :: Γ, [], _, h => h.elim
  | some _ :: Γ, [], _, h => h.elim
  | [], _ :: _, _, h => h.elim
  | none :: Γ, x :: σ, 0, h => h
  | none :: Γ, x :: σ, i + 1, h => EnvOk.wipe1 (Γ := Γ) (σ := σ) i h
  | some P' :: Γ, x :: σ, 0, ⟨_, h⟩ => h
  | some P' :: Γ, x :: σ, i + 1, ⟨w, h⟩ => ⟨w, EnvOk.wipe1 (Γ := Γ) (σ := σ) i h⟩
/-- a poorer list of names -/
inductive Le : TEnv → TEnv → Prop
  | nil : Le [] []
  | same {x Γ Γ'} : Le Γ Γ' → Le (x :: Γ) (x :: Γ')
  | lose {x Γ Γ'} : Le Γ Γ' → Le (x :: Γ) (none :: Γ')
  | wk {P P' : TV} {Γ Γ'} : (∀ G v, P.ok G v → P'.ok G v) → Le Γ Γ' → Le (some P :: Γ) (some P' :: Γ')
theorem EnvOk.le {G : Hp} {Γ Γ' : TEnv} (l : Le Γ Γ') : ∀ {σ : L2.St}, EnvOk G Γ σ → EnvOk G Γ' σ := by
  induction l with
  | nil => exact fun h => h
  | @same x Γ Γ' _ ih =>
    intro σ h
    cases σ with
    | nil => cases x <;> exact h.elim
    | cons y σ =>
      cases x with
      | none => exact ih (σ := σ) h
      | some P => exact ⟨h.1, ih (σ := σ) h.2⟩
  | @lose x Γ Γ' _ ih =>
    intro σ h
    cases σ with
    | nil => cases x <;> exact h.elim
    | cons y σ =>
      cases x with
      | none => exact ih (σ := σ) h
      | some P => exact ih (σ := σ) h.2
  | @wk P P' Γ Γ' w _ ih =>
    intro σ h
    cases σ with
    | nil => exact h.elim
    | cons y σ =>
      obtain ⟨⟨v, ev, hv⟩, h⟩ := h
      exact ⟨⟨v, ev, w _ _ hv⟩, ih (σ := σ) h⟩
theorem Le.refl : ∀ Γ : TEnv, Le Γ Γ
  | [] => .nil
  | _ :: Γ => .same (Le.refl Γ)

/-! ### values side by side -/
def VsOk (G : Hp) : List TV → List V → Prop
  | [], [] => True
  | P :: Ps, v :: vs => P.ok G v ∧ VsOk G Ps vs
  | _, _ => False
theorem VsOk.mono {G G' : Hp} (e : Ex G G') : ∀ {Ps : List TV} {vs : List V}, VsOk G Ps vs → VsOk G' Ps vs
  | [], [], h => h
  | P :: Ps, v :: vs, ⟨h1, h⟩ => ⟨P.mono e h1, VsOk.mono (Ps := Ps) (vs := vs) e h⟩
  | [], _ :: _, h => h.elim
  | _ :: _, [], h => h.elim
theorem VsOk.len {G : Hp} : ∀ {Ps : List TV} {vs : List V}, VsOk G Ps vs → vs.length = Ps.length
  | [], [], h => rfl
  | P :: Ps, v :: vs, ⟨h1, h⟩ => congrArg (· + 1) (VsOk.len (Ps := Ps) (vs := vs) h)
  | [], _ :: _, h => h.elim
  | _ :: _, [], h => h.elim
/-- the names at a def's entry -/
theorem EnvOk.start {G : Hp} : ∀ {Ps : List TV} {vs : List V} (n : Nat), VsOk G Ps vs → EnvOk G (Ps.map some ++ List.replicate n none) (vs.map some ++ List.replicate n none)
  | [], [], 0, _ => trivial
  | [], [], n + 1, h => EnvOk.start (Ps := []) (vs := []) n h
  | P :: Ps, v :: vs, n, ⟨h1, h⟩ => ⟨⟨v, rfl, h1⟩, EnvOk.start (Ps := Ps) (vs := vs) n h⟩
  | [], _ :: _, _, h => h.elim
  | _ :: _, [], _, h => h.elim

/-- items side by side -/
def All2 {α : Type} (r : Rep α) (G : Hp) : List V → List α → Prop
  | [], [] => True
  | v :: vs, x :: xs => r.rp G v x ∧ All2 r G vs xs
  | _, _ => False
section
variable {α : Type} {r : Rep α} {G G' : Hp}
theorem All2.mono (e : Ex G G') : ∀ {vs : List V} {xs : List α}, All2 r G vs xs → All2 r G' vs xs
  | [], [], h => h
  | v :: vs, x :: xs, ⟨h1, h⟩ => ⟨r.mono e h1, All2.mono (vs := vs) (xs := xs) e h⟩
  | [], _ :: _, h => h.elim
  | _ :: _, [], h => h.elim
theorem All2.len : ∀ {vs : List V} {xs : List α}, All2 r G vs xs → vs.length = xs.length
  | [], [], h => rfl
  | v :: vs, x :: xs, ⟨h1, h⟩ => congrArg (· + 1) (All2.len (vs := vs) (xs := xs) h)
  | [], _ :: _, h => h.elim
  | _ :: _, [], h => h.elim
theorem All2.get : ∀ {vs : List V} {xs : List α} {i : Nat} {x : α}, All2 r G vs xs → xs[i]? = some x → ∃ v, vs[i]? = some v ∧ r.rp G v x
  | [], [], _, _, _, e => by simp at e
  | v :: vs, x :: xs, 0, y, ⟨h1, h⟩, e => by
    simp at e; subst e
    exact ⟨v, by simp, h1⟩
  | v :: vs, x :: xs, i + 1, y, ⟨h1, h⟩, e => by
    obtain ⟨w, e1, e2⟩ := All2.get (vs := vs) (xs := xs) (i := i) h (by simpa using e)
    exact ⟨w, by simpa using e1, e2⟩
  | [], _ :: _, _, _, h, _ => h.elim
  | _ :: _, [], _, _, h, _ => h.elim
theorem All2.getV : ∀ {vs : List V} {xs : List α} {i : Nat} {v : V}, All2 r G vs xs → vs[i]? = some v → ∃ x, xs[i]? = some x ∧ r.rp G v x
  | [], [], _, _, _, e => by simp at e
  | v :: vs, x :: xs, 0, y, ⟨h1, h⟩, e => by
    simp at e; subst e
    exact ⟨x, by simp, h1⟩
  | v :: vs, x :: xs, i + 1, y, ⟨h1, h⟩, e => by
    obtain ⟨w, e1, e2⟩ := All2.getV (vs := vs) (xs := xs) (i := i) h (by simpa using e)
    exact ⟨w, by simpa using e1, e2⟩
  | [], _ :: _, _, _, h, _ => h.elim
  | _ :: _, [], _, _, h, _ => h.elim
theorem All2.app : ∀ {vs ws : List V} {xs ys : List α}, All2 r G vs xs → All2 r G ws ys → All2 r G (vs ++ ws) (xs ++ ys)
  | [], _, [], _, _, k => k
  | v :: vs, _, x :: xs, _, ⟨h1, h⟩, k => ⟨h1, All2.app (vs := vs) (xs := xs) h k⟩
  | [], _, _ :: _, _, h, _ => h.elim
  | _ :: _, _, [], _, h, _ => h.elim
theorem All2.set {v : V} {x : α} (hv : r.rp G v x) : ∀ {vs : List V} {xs : List α} (i : Nat), All2 r G vs xs → All2 r G (vs.set i v) (xs.set i x)
  | [], [], _, h => h
  | w :: vs, y :: xs, 0, ⟨_, h⟩ => ⟨hv, h⟩
  | w :: vs, y :: xs, i + 1, ⟨h1, h⟩ => ⟨h1, All2.set (vs := vs) (xs := xs) hv i h⟩
  | [], _ :: _, _, h => h.elim
  | _ :: _, [], _, h => h.elim
theorem All2.take : ∀ {vs : List V} {xs : List α} (n : Nat), All2 r G vs xs → All2 r G (vs.take n) (xs.take n)
  | _, _, 0, _ => trivial
  | [], [], n + 1, h => h
  | v :: vs, x :: xs, n + 1, ⟨h1, h⟩ => ⟨h1, All2.take (vs := vs) (xs := xs) n h⟩
  | [], _ :: _, _ + 1, h => h.elim
  | _ :: _, [], _ + 1, h => h.elim
theorem All2.drop : ∀ {vs : List V} {xs : List α} (n : Nat), All2 r G vs xs → All2 r G (vs.drop n) (xs.drop n)
  | _, _, 0, h => h
  | [], [], n + 1, h => h
  | v :: vs, x :: xs, n + 1, ⟨h1, h⟩ => All2.drop (vs := vs) (xs := xs) n h
  | [], _ :: _, _ + 1, h => h.elim
  | _ :: _, [], _ + 1, h => h.elim
theorem All2.eraseIdx : ∀ {vs : List V} {xs : List α} (n : Nat), All2 r G vs xs → All2 r G (vs.eraseIdx n) (xs.eraseIdx n)
  | [], [], _, h => h
  | v :: vs, x :: xs, 0, ⟨h1, h⟩ => h
  | v :: vs, x :: xs, n + 1, ⟨h1, h⟩ => ⟨h1, All2.eraseIdx (vs := vs) (xs := xs) n h⟩
  | [], _ :: _, _, h => h.elim
  | _ :: _, [], _, h => h.elim
theorem All2.rev : ∀ {vs : List V} {xs : List α}, All2 r G vs xs → All2 r G vs.reverse xs.reverse
  | [], [], h => h
  | v :: vs, x :: xs, ⟨h1, h⟩ => by
    rw [List.reverse_cons, List.reverse_cons]
    exact All2.app (All2.rev (vs := vs) (xs := xs) h) ⟨h1, trivial⟩
  | [], _ :: _, h => h.elim
  | _ :: _, [], h => h.elim
/-- where the items are scalars -/
theorem All2.map {f : α → V} (hf : ∀ G v x, r.rp G v x → v = f x) : ∀ {vs : List V} {xs : List α}, All2 r G vs xs → vs = xs.map f
  | [], [], h => rfl
  | v :: vs, x :: xs, ⟨h1, h⟩ => by
    rw [List.map_cons, hf _ _ _ h1, ← All2.map hf (vs := vs) (xs := xs) h]
  | [], _ :: _, h => h.elim
  | _ :: _, [], h => h.elim
theorem All2.of_map {f : α → V} (hf : ∀ G x, r.rp G (f x) x) : ∀ (xs : List α), All2 r G (xs.map f) xs
  | [] => trivial
  | x :: xs => ⟨hf _ x, All2.of_map hf xs⟩
end
end TW
namespace TW
open PySem L2

/-! ### how data lie -/
def rInt : Rep Int := ⟨fun _ v x => v = .int x, fun _ h => h⟩
def rBl : Rep Bool := ⟨fun _ v x => v = .bl x, fun _ h => h⟩
/-- a text is the list of its codes -/
def sOf (x : List Nat) : Str := ⟨x.toArray⟩
theorem sOf_len (x : List Nat) : (sOf x).length = x.length := by simp [sOf, Str.length]
theorem sOf_cps (x : List Nat) : (sOf x).cps.toList = x := by simp [sOf]
theorem sOf_app (x y : List Nat) : sOf x ++ sOf y = sOf (x ++ y) := by
  show Str.append _ _ = _
  simp [sOf, Str.append]
theorem sOf_inj {x y : List Nat} (h : sOf x = sOf y) : x = y := by
  have := congrArg (fun z => z.cps.toList) h
  simpa [sOf_cps] using this
/-- a text of plain signs -/
def SOk (x : List Nat) : Prop := x.length ≤ sizeLine ∧ x.all (· < 128) = true
instance (x : List Nat) : Decidable (SOk x) := by unfold SOk; infer_instance
def rStr : Rep (List Nat) := ⟨fun _ v x => v = .str (sOf x) ∧ SOk x, fun _ h => h⟩
def rNon : Rep Unit := ⟨fun _ v _ => v = .non, fun _ h => h⟩
def rAny : Rep Unit := ⟨fun _ _ _ => True, fun _ h => h⟩
def rAddr : Rep Addr := ⟨fun _ v x => v = .ref x, fun _ h => h⟩
def rOpt {α : Type} (r : Rep α) : Rep (Option α) := ⟨fun G v x => match x with | none => v = .non | some y => r.rp G v y, fun {G G' v x} e h => by
  cases x with
  | none => exact h
  | some y => exact r.mono e h⟩
theorem ex_t {K : PySem.W.Frag} {H H' : Hp} {a : Addr} {xs : List V} (e : Ex H H') (h : SqT K H a xs) : SqT K H' a xs := by
  rcases h with (h | ⟨o, h⟩) | h
  · exact .inl (.inl (e _ _ h))
  · exact .inl (.inr ⟨o, e _ _ h⟩)
  · exact .inr h
theorem ex_l {K : PySem.W.Frag} {H H' : Hp} {a : Addr} {xs : List V} (e : Ex H H') (h : SqL K H a xs) : SqL K H' a xs := by
  rcases h with (h | ⟨o, h⟩) | h
  · exact .inl (.inl (e _ _ h))
  · exact .inl (.inr ⟨o, e _ _ h⟩)
  · exact .inr h
section
variable (K : PySem.W.Frag)
def rPair {α β : Type} (r : Rep α) (s : Rep β) : Rep (α × β) := ⟨fun G v x => ∃ a u w, v = .ref a ∧ SqT K G a [u, w] ∧ r.rp G u x.1 ∧ s.rp G w x.2,
  fun e ⟨a, u, w, h1, h2, h3, h4⟩ => ⟨a, u, w, h1, ex_t e h2, r.mono e h3, s.mono e h4⟩⟩
def rTri {α β γ : Type} (r : Rep α) (s : Rep β) (t : Rep γ) : Rep (α × β × γ) := ⟨fun G v x => ∃ a u1 u2 u3, v = .ref a ∧ SqT K G a [u1, u2, u3] ∧ r.rp G u1 x.1 ∧ s.rp G u2 x.2.1 ∧ t.rp G u3 x.2.2,
  fun e ⟨a, u1, u2, u3, h1, h2, h3, h4, h5⟩ => ⟨a, u1, u2, u3, h1, ex_t e h2, r.mono e h3, s.mono e h4, t.mono e h5⟩⟩
def rQua {α β γ δ : Type} (r : Rep α) (s : Rep β) (t : Rep γ) (u : Rep δ) : Rep (α × β × γ × δ) := ⟨fun G v x => ∃ a u1 u2 u3 u4, v = .ref a ∧ SqT K G a [u1, u2, u3, u4] ∧ r.rp G u1 x.1 ∧ s.rp G u2 x.2.1 ∧ t.rp G u3 x.2.2.1 ∧ u.rp G u4 x.2.2.2,
  fun e ⟨a, u1, u2, u3, u4, h1, h2, h3, h4, h5, h6⟩ => ⟨a, u1, u2, u3, u4, h1, ex_t e h2, r.mono e h3, s.mono e h4, t.mono e h5, u.mono e h6⟩⟩
def rQui {α β γ δ ε : Type} (r : Rep α) (s : Rep β) (t : Rep γ) (u : Rep δ) (w : Rep ε) : Rep (α × β × γ × δ × ε) :=
  ⟨fun G v x => ∃ a u1 u2 u3 u4 u5, v = .ref a ∧ SqT K G a [u1, u2, u3, u4, u5] ∧ r.rp G u1 x.1 ∧ s.rp G u2 x.2.1 ∧ t.rp G u3 x.2.2.1 ∧ u.rp G u4 x.2.2.2.1 ∧ w.rp G u5 x.2.2.2.2,
  fun e ⟨a, u1, u2, u3, u4, u5, h1, h2, h3, h4, h5, h6, h7⟩ => ⟨a, u1, u2, u3, u4, u5, h1, ex_t e h2, r.mono e h3, s.mono e h4, t.mono e h5, u.mono e h6, w.mono e h7⟩⟩
def rTup {α : Type} (r : Rep α) : Rep (List α) := ⟨fun G v x => ∃ a vs, v = .ref a ∧ SqT K G a vs ∧ All2 r G vs x ∧ x.length ≤ sizeLine,
  fun e ⟨a, vs, h1, h2, h3, h4⟩ => ⟨a, vs, h1, ex_t e h2, All2.mono e h3, h4⟩⟩
end
def rLst {α : Type} (r : Rep α) : Rep (List α) := ⟨fun G v x => ∃ a vs, v = .ref a ∧ G a = some (.lst vs) ∧ All2 r G vs x ∧ x.length ≤ sizeLine,
  fun e ⟨a, vs, h1, h2, h3, h4⟩ => ⟨a, vs, h1, e _ _ h2, All2.mono e h3, h4⟩⟩
/-- a dict's entries side by side -/
def AllD {κ κ' α : Type} (kf : κ → κ') (r : Rep α) (G : Hp) : List (κ' × V) → List (κ × α) → Prop
  | [], [] => True
  | p :: ps, q :: qs => p.1 = kf q.1 ∧ r.rp G p.2 q.2 ∧ AllD kf r G ps qs
  | _, _ => False
theorem AllD.mono {κ κ' α : Type} {kf : κ → κ'} {r : Rep α} {G G' : Hp} (e : Ex G G') : ∀ {ps : List (κ' × V)} {qs : List (κ × α)}, AllD kf r G ps qs → AllD kf r G' ps qs
  | [], [], h => h
  | _ :: _, _ :: _, ⟨h1, h2, h⟩ => ⟨h1, r.mono e h2, AllD.mono e h⟩
  | [], _ :: _, h => h.elim
  | _ :: _, [], h => h.elim
theorem AllD.len {κ κ' α : Type} {kf : κ → κ'} {r : Rep α} {G : Hp} : ∀ {ps : List (κ' × V)} {qs : List (κ × α)}, AllD kf r G ps qs → ps.length = qs.length
  | [], [], h => rfl
  | _ :: _, _ :: _, ⟨_, _, h⟩ => congrArg (· + 1) (AllD.len h)
  | [], _ :: _, h => h.elim
  | _ :: _, [], h => h.elim
def kInt : Int → Key := Sum.inl
def kStr (x : List Nat) : Key := Sum.inr (sOf x)
def rDic {κ α : Type} (kf : κ → Key) (r : Rep α) : Rep (List (κ × α)) := ⟨fun G v x => ∃ a ps, v = .ref a ∧ G a = some (.dK ps) ∧ AllD kf r G ps x ∧ x.length ≤ sizeLine,
  fun e ⟨a, vs, h1, h2, h3, h4⟩ => ⟨a, vs, h1, e _ _ h2, AllD.mono e h3, h4⟩⟩
/-! cells -/
def tcL {α : Type} (r : Rep α) (xs : List α) : TC := ⟨fun G o => ∃ vs, o = .lst vs ∧ All2 r G vs xs ∧ xs.length ≤ sizeLine, fun e ⟨vs, h1, h2, h3⟩ => ⟨vs, h1, All2.mono e h2, h3⟩⟩
def tcD {κ α : Type} (kf : κ → Key) (r : Rep α) (xs : List (κ × α)) : TC := ⟨fun G o => ∃ ps, o = .dK ps ∧ AllD kf r G ps xs ∧ xs.length ≤ sizeLine, fun e ⟨vs, h1, h2, h3⟩ => ⟨vs, h1, AllD.mono e h2, h3⟩⟩
def tcDT {κ α : Type} (kf : κ → List Key) (r : Rep α) (xs : List (κ × α)) : TC := ⟨fun G o => ∃ ps, o = .dT ps ∧ AllD kf r G ps xs ∧ xs.length ≤ sizeLine, fun e ⟨vs, h1, h2, h3⟩ => ⟨vs, h1, AllD.mono e h2, h3⟩⟩

/-- known whatever is frozen -/
def TV.Sc (P : TV) : Prop := ∀ G G' v, P.ok G v → P.ok G' v
theorem sc_int {i : Int} : (tv rInt i).Sc := fun _ _ _ h => h
theorem sc_bl {i : Bool} : (tv rBl i).Sc := fun _ _ _ h => h
theorem sc_str {i : List Nat} : (tv rStr i).Sc := fun _ _ _ h => h
theorem sc_non : (tv rNon ()).Sc := fun _ _ _ h => h

/-! ### what an expression gives -/
def Ev (te : TE) (Γ : TEnv) (c c' : Cells) (P : TV) : Prop := ∀ σ G H, EnvOk G Γ σ → Hld G c H → ∀ Q : VK, (∀ v G' H', Aft G c H G' c' H' → P.ok G' v → Q v H') → te σ H Q
def EvT (tt : TT) (Γ : TEnv) (c c' : Cells) (b : Bool) : Prop := ∀ σ G H, EnvOk G Γ σ → Hld G c H → ∀ Q : Bool → Hp → Prop, (∀ G' H', Aft G c H G' c' H' → Q b H') → tt σ H Q
def EvA (ta : TA) (Γ : TEnv) (c c' : Cells) (Ps : List TV) : Prop := ∀ σ G H, EnvOk G Γ σ → Hld G c H → ∀ Q : List V → Hp → Prop, (∀ vs G' H', Aft G c H G' c' H' → VsOk G' Ps vs → Q vs H') → ta σ H Q
/-- a two-place operation on values; a one-place one; a call on values -/
def RV2 (r : R2) (c : Cells) (P P' : TV) (c' : Cells) (R : TV) : Prop := ∀ G H x y, Hld G c H → P.ok G x → P'.ok G y → ∀ Q : VK, (∀ v G' H', Aft G c H G' c' H' → R.ok G' v → Q v H') → r x y H Q
def RV1 (r : V → Hp → VK → Prop) (c : Cells) (P : TV) (c' : Cells) (R : TV) : Prop := ∀ G H x, Hld G c H → P.ok G x → ∀ Q : VK, (∀ v G' H', Aft G c H G' c' H' → R.ok G' v → Q v H') → r x H Q
def RVA (r : List V → Hp → VK → Prop) (c : Cells) (Ps : List TV) (c' : Cells) (R : TV) : Prop := ∀ G H xs, Hld G c H → VsOk G Ps xs → ∀ Q : VK, (∀ v G' H', Aft G c H G' c' H' → R.ok G' v → Q v H') → r xs H Q

section
variable {Γ : TEnv} {c c1 c2 c3 : Cells} {P P' P2 R : TV} {ta tb te : TE} {t u : TT} {r : R2} {K : PySem.W.Frag}
theorem ev_var {i : Nat} (h : Γ[i]? = some (some P)) : Ev (tVar i) Γ c c P := fun σ G H e hd Q q => by
  obtain ⟨v, h1, h2⟩ := e.get h
  exact ⟨v, h1, q v G H (.refl hd) h2⟩
theorem ev_int {i : Int} : Ev (tC (.int i)) Γ c c (tv rInt i) := fun σ G H e hd Q q => q _ G H (.refl hd) rfl
theorem ev_bl {b : Bool} : Ev (tC (.bl b)) Γ c c (tv rBl b) := fun σ G H e hd Q q => q _ G H (.refl hd) rfl
theorem ev_non : Ev (tC .non) Γ c c (tv rNon ()) := fun σ G H e hd Q q => q _ G H (.refl hd) rfl
theorem ev_str {s : Str} {x : List Nat} (h : s = sOf x) (hl : SOk x) : Ev (tC (.str s)) Γ c c (tv rStr x) := fun σ G H e hd Q q => q _ G H (.refl hd) ⟨congrArg V.str h, hl⟩
theorem Ev.is {P' : TV} (h : Ev te Γ c c1 P) (w : ∀ G v, P.ok G v → P'.ok G v) : Ev te Γ c c1 P' := fun σ G H e hd Q q => h σ G H e hd Q fun v G' H' a k => q v G' H' a (w _ _ k)
theorem Ev.to {α : Type} {r : Rep α} {x y : α} (h : Ev te Γ c c1 (tv r x)) (e : x = y) : Ev te Γ c c1 (tv r y) := e ▸ h
theorem EvT.to {a b : Bool} (h : EvT t Γ c c1 a) (e : a = b) : EvT t Γ c c1 b := e ▸ h
theorem ev_any (h : Ev te Γ c c1 P) : Ev te Γ c c1 (tv rAny ()) := h.is fun _ _ _ => trivial
theorem ev_op (ha : Ev ta Γ c c1 P) (hb : Ev tb Γ c1 c2 P') (hr : RV2 r c2 P P' c3 R) : Ev (tOp r ta tb) Γ c c3 R := fun σ G H e hd Q q =>
  ha σ G H e hd _ fun x G1 H1 a1 k1 => hb σ G1 H1 (e.mono a1.gg) a1.hld _ fun y G2 H2 a2 k2 => hr G2 H2 x y a2.hld (P.mono a2.gg k1) k2 Q fun v G3 H3 a3 k3 => q v G3 H3 ((a1.trans a2).trans a3) k3
theorem ev_un {r : V → Hp → VK → Prop} (ha : Ev ta Γ c c1 P) (hr : RV1 r c1 P c2 R) : Ev (tUn r ta) Γ c c2 R := fun σ G H e hd Q q =>
  ha σ G H e hd _ fun x G1 H1 a1 k1 => hr G1 H1 x a1.hld k1 Q fun v G3 H3 a3 k3 => q v G3 H3 (a1.trans a3) k3
theorem ev_cb {r : List V → Hp → VK → Prop} {ta : TA} {Ps : List TV} (ha : EvA ta Γ c c1 Ps) (hr : RVA r c1 Ps c2 R) : Ev (tCB r ta) Γ c c2 R := fun σ G H e hd Q q =>
  ha σ G H e hd _ fun x G1 H1 a1 k1 => hr G1 H1 x a1.hld k1 Q fun v G3 H3 a3 k3 => q v G3 H3 (a1.trans a3) k3
theorem ea_nil : EvA tNil Γ c c [] := fun σ G H e hd Q q => q _ G H (.refl hd) trivial
theorem ea_cons {tr : TA} {Ps : List TV} (ha : Ev ta Γ c c1 P) (hr : EvA tr Γ c1 c2 Ps) : EvA (tCons ta tr) Γ c c2 (P :: Ps) := fun σ G H e hd Q q =>
  ha σ G H e hd _ fun x G1 H1 a1 k1 => hr σ G1 H1 (e.mono a1.gg) a1.hld _ fun xs G2 H2 a2 k2 => q _ G2 H2 (a1.trans a2) ⟨P.mono a2.gg k1, k2⟩
/-- plain results -/
theorem rv_pure {f : V → V → V} (h : ∀ G x y, P.ok G x → P'.ok G y → R.ok G (f x y)) (hr : ∀ G H x y (Q : VK), Hld G c H → P.ok G x → P'.ok G y → Q (f x y) H → r x y H Q) : RV2 r c P P' c R :=
  fun G H x y hd h1 h2 Q q => hr G H x y Q hd h1 h2 (q _ G H (.refl hd) (h G x y h1 h2))
theorem rv_I0 {g : Int → Int → Int} {i j : Int} : RV2 (rI0 fun i j => .int (g i j)) c (tv rInt i) (tv rInt j) c (tv rInt (g i j)) :=
  fun G H x y hd h1 h2 Q q => ⟨i, j, h1, h2, q _ G H (.refl hd) rfl⟩
theorem rv_B0 {g : Int → Int → Bool} {i j : Int} : RV2 (rI0 fun i j => .bl (g i j)) c (tv rInt i) (tv rInt j) c (tv rBl (g i j)) :=
  fun G H x y hd h1 h2 Q q => ⟨i, j, h1, h2, q _ G H (.refl hd) rfl⟩
theorem rv_I {C : Int → Int → Prop} {g : Int → Int → Int} {i j : Int} (hc : C i j) : RV2 (rI C fun i j => .int (g i j)) c (tv rInt i) (tv rInt j) c (tv rInt (g i j)) :=
  fun G H x y hd h1 h2 Q q => ⟨i, j, h1, h2, hc, q _ G H (.refl hd) rfl⟩
theorem ru_neg {i : Int} : RV1 (rU fun i => .int (-i)) c (tv rInt i) c (tv rInt (-i)) := fun G H x hd h1 Q q => ⟨i, h1, q _ G H (.refl hd) rfl⟩
theorem rv_eqI {i j : Int} : RV2 rEq c (tv rInt i) (tv rInt j) c (tv rBl (decide (i = j))) := fun G H x y hd h1 h2 Q q => by
  have h1 : x = .int i := h1
  have h2 : y = .int j := h2
  subst h1 h2
  refine ⟨rfl, ?_⟩
  rw [dec_int]
  exact q _ G H (.refl hd) (by show V.bl (i == j) = V.bl (decide (i = j)); rfl)
theorem rv_neI {i j : Int} : RV2 rNe c (tv rInt i) (tv rInt j) c (tv rBl (!decide (i = j))) := fun G H x y hd h1 h2 Q q => by
  have h1 : x = .int i := h1
  have h2 : y = .int j := h2
  subst h1 h2
  refine ⟨rfl, ?_⟩
  rw [dec_int]
  exact q _ G H (.refl hd) (by show V.bl (!(i == j)) = V.bl (!decide (i = j)); rfl)
theorem rv_eqB {i j : Bool} : RV2 rEq c (tv rBl i) (tv rBl j) c (tv rBl (decide (i = j))) := fun G H x y hd h1 h2 Q q => by
  have h1 : x = .bl i := h1
  have h2 : y = .bl j := h2
  subst h1 h2
  refine ⟨rfl, ?_⟩
  rw [dec_bl]
  exact q _ G H (.refl hd) (by show V.bl (i == j) = V.bl (decide (i = j)); cases i <;> cases j <;> rfl)
theorem rv_neB {i j : Bool} : RV2 rNe c (tv rBl i) (tv rBl j) c (tv rBl (!decide (i = j))) := fun G H x y hd h1 h2 Q q => by
  have h1 : x = .bl i := h1
  have h2 : y = .bl j := h2
  subst h1 h2
  refine ⟨rfl, ?_⟩
  rw [dec_bl]
  exact q _ G H (.refl hd) (by show V.bl (!(i == j)) = V.bl (!decide (i = j)); cases i <;> cases j <;> rfl)
theorem dec_sOf {i j : List Nat} : decide (V.str (sOf i) = V.str (sOf j)) = decide (i = j) := by
  rw [Bool.eq_iff_iff]
  simp only [decide_eq_true_eq]
  exact ⟨fun h => sOf_inj (V.str.inj h), fun h => by rw [h]⟩
theorem rv_eqS {i j : List Nat} : RV2 rEq c (tv rStr i) (tv rStr j) c (tv rBl (decide (i = j))) := fun G H x y hd h1 h2 Q q => by
  have h1 : x = .str (sOf i) := h1.1
  have h2 : y = .str (sOf j) := h2.1
  subst h1 h2
  refine ⟨rfl, ?_⟩
  rw [dec_sOf]
  exact q _ G H (.refl hd) rfl
theorem rv_neS {i j : List Nat} : RV2 rNe c (tv rStr i) (tv rStr j) c (tv rBl (!decide (i = j))) := fun G H x y hd h1 h2 Q q => by
  have h1 : x = .str (sOf i) := h1.1
  have h2 : y = .str (sOf j) := h2.1
  subst h1 h2
  refine ⟨rfl, ?_⟩
  rw [dec_sOf]
  exact q _ G H (.refl hd) rfl
/-- is None -/
theorem rv_isN {α : Type} {r : Rep α} {x : Option α} (hn : ∀ G v y, r.rp G v y → v ≠ .non) : RV2 (fun x y H Q => y = .non ∧ Q (.bl (decide (x = .non))) H) c (tv (rOpt r) x) (tv rNon ()) c (tv rBl x.isNone) := fun G H v y hd h1 h2 Q q => by
  refine ⟨h2, ?_⟩
  cases x with
  | none =>
    have h1 : v = .non := h1
    subst h1
    exact q _ G H (.refl hd) rfl
  | some z =>
    have e : decide (v = .non) = false := decide_eq_false (hn G v z h1)
    rw [e]
    exact q _ G H (.refl hd) rfl
theorem rv_notN {α : Type} {r : Rep α} {x : Option α} (hn : ∀ G v y, r.rp G v y → v ≠ .non) : RV2 (fun x y H Q => y = .non ∧ Q (.bl (!decide (x = .non))) H) c (tv (rOpt r) x) (tv rNon ()) c (tv rBl x.isSome) := fun G H v y hd h1 h2 Q q => by
  refine ⟨h2, ?_⟩
  cases x with
  | none =>
    have h1 : v = .non := h1
    subst h1
    exact q _ G H (.refl hd) rfl
  | some z =>
    have e : decide (v = .non) = false := decide_eq_false (hn G v z h1)
    rw [e]
    exact q _ G H (.refl hd) rfl
theorem nn_int : ∀ G v y, rInt.rp G v y → v ≠ .non := fun _ v y h z => by
  have h : v = .int y := h
  rw [h] at z; cases z
theorem nn_bl : ∀ G v y, rBl.rp G v y → v ≠ .non := fun _ v y h z => by
  have h : v = .bl y := h
  rw [h] at z; cases z
theorem nn_str : ∀ G v y, rStr.rp G v y → v ≠ .non := fun _ v y h z => by
  have h : v = .str (sOf y) := h.1
  rw [h] at z; cases z
theorem nn_tup {α : Type} {r : Rep α} : ∀ G v y, (rTup K r).rp G v y → v ≠ .non := fun _ v y ⟨a, _, h, _⟩ z => by rw [h] at z; cases z
theorem nn_lst {α : Type} {r : Rep α} : ∀ G v y, (rLst r).rp G v y → v ≠ .non := fun _ v y ⟨a, _, h, _⟩ z => by rw [h] at z; cases z
theorem nn_pair {α β : Type} {r : Rep α} {s : Rep β} : ∀ G v y, (rPair K r s).rp G v y → v ≠ .non := fun _ v y ⟨a, _, _, h, _⟩ z => by rw [h] at z; cases z
theorem ev_get {α : Type} {r : Rep α} {x : Option α} {y : α} (h : Ev te Γ c c1 (tv (rOpt r) x)) (e : x = some y) : Ev te Γ c c1 (tv r y) := by
  subst e; exact h
theorem ev_some {α : Type} {r : Rep α} {x : α} (h : Ev te Γ c c1 (tv r x)) : Ev te Γ c c1 (tv (rOpt r) (some x)) := h
theorem ev_none {α : Type} {r : Rep α} : Ev (tC .non) Γ c c (tv (rOpt r) none) := ev_non
/-! texts -/
def catO (x y : List Nat) : Option (List Nat) := if x.length + y.length ≤ sizeLine then some (x ++ y) else none
theorem catO_some {x y z : List Nat} (h : catO x y = some z) : x.length + y.length ≤ sizeLine ∧ z = x ++ y := by
  unfold catO at h
  split at h
  · exact ⟨by assumption, (Option.some.inj h).symm⟩
  · cases h
theorem rv_catS {x y z : List Nat} (h : catO x y = some z) : RV2 (fun x y H Q => ∃ i j, x = .str i ∧ y = .str j ∧ i.length + j.length ≤ sizeLine ∧ Q (.str (i ++ j)) H) c (tv rStr x) (tv rStr y) c (tv rStr z) := fun G H v w hd h1 h2 Q q => by
  obtain ⟨hl, rfl⟩ := catO_some h
  refine ⟨_, _, h1.1, h2.1, by rw [sOf_len, sOf_len]; exact hl, ?_⟩
  rw [sOf_app]
  exact q _ G H (.refl hd) ⟨rfl, by rw [List.length_append]; exact hl, by rw [List.all_append, h1.2.2, h2.2.2]; rfl⟩
/-! items -/
theorem ev_ixT {α : Type} {r : Rep α} {xs : List α} {i : Int} {x : α} (ha : Ev ta Γ c c1 (tv (rTup K r) xs)) (hb : Ev tb Γ c1 c2 (tv rInt i)) (h : atI xs i = some x) : Ev (tOp (rIxT K) ta tb) Γ c c2 (tv r x) :=
  ev_op ha hb fun G H v w hd ⟨a, vs, e1, e2, e3, e4⟩ h2 Q q => by
    obtain ⟨j, s1, s2, s3, s4, s5⟩ := atI_get h
    obtain ⟨z, g1, g2⟩ := All2.get e3 s2
    refine ⟨a, vs, i, z, e1, h2, ex_t hd.ex e2, ?_, q _ G H (.refl hd) g2⟩
    unfold atI at h ⊢
    rw [e3.len]
    cases e : ixN xs.length i with
    | none => rw [e] at h; cases h
    | some k =>
      rw [e] at h
      have k1 : k = j := by
        have := (ixN_seq e).1
        rw [s1] at this; exact (Option.some.inj this).symm
      subst k1
      exact g1
theorem ev_ixL {α : Type} {r : Rep α} {xs : List α} {i : Int} {x : α} (ha : Ev ta Γ c c1 (tv (rLst r) xs)) (hb : Ev tb Γ c1 c2 (tv rInt i)) (h : atI xs i = some x) : Ev (tOp (rIxL K) ta tb) Γ c c2 (tv r x) :=
  ev_op ha hb fun G H v w hd ⟨a, vs, e1, e2, e3, e4⟩ h2 Q q => by
    obtain ⟨j, s1, s2, s3, s4, s5⟩ := atI_get h
    obtain ⟨z, g1, g2⟩ := All2.get e3 s2
    refine ⟨a, vs, i, z, e1, h2, .inl (.inl (hd.ex _ _ e2)), ?_, q _ G H (.refl hd) g2⟩
    unfold atI at h ⊢
    rw [e3.len]
    cases e : ixN xs.length i with
    | none => rw [e] at h; cases h
    | some k =>
      rw [e] at h
      have k1 : k = j := by
        have := (ixN_seq e).1
        rw [s1] at this; exact (Option.some.inj this).symm
      subst k1
      exact g1
theorem ev_ixS {x : List Nat} {i : Int} {k : Nat} (ha : Ev ta Γ c c1 (tv rStr x)) (hb : Ev tb Γ c1 c2 (tv rInt i)) (h : atI x i = some k) : Ev (tOp rIxS ta tb) Γ c c2 (tv rStr [k]) :=
  ev_op ha hb fun G H v w hd h1 h2 Q q => ⟨sOf x, i, k, h1.1, h2, by rw [sOf_len]; exact h1.2.1, by rw [sOf_cps]; exact h, q _ G H (.refl hd) ⟨rfl, by show 1 ≤ sizeLine; decide, by
    obtain ⟨j, s1, s2, _⟩ := atI_get h
    have := List.all_eq_true.mp h1.2.2 k (List.mem_of_getElem? s2)
    rw [List.all_cons, this]; rfl⟩⟩
/-- written places of a tuple of known size -/
theorem ev_fst {α β : Type} {r : Rep α} {s : Rep β} {x : α × β} (ha : Ev ta Γ c c1 (tv (rPair K r s) x)) (hb : Ev tb Γ c1 c2 (tv rInt 0)) : Ev (tOp (rIxT K) ta tb) Γ c c2 (tv r x.1) :=
  ev_op ha hb fun G H v w hd ⟨a, u1, u2, e1, e2, e3, e4⟩ h2 Q q => ⟨a, _, 0, u1, e1, h2, ex_t hd.ex e2, rfl, q _ G H (.refl hd) e3⟩
theorem ev_snd {α β : Type} {r : Rep α} {s : Rep β} {x : α × β} (ha : Ev ta Γ c c1 (tv (rPair K r s) x)) (hb : Ev tb Γ c1 c2 (tv rInt 1)) : Ev (tOp (rIxT K) ta tb) Γ c c2 (tv s x.2) :=
  ev_op ha hb fun G H v w hd ⟨a, u1, u2, e1, e2, e3, e4⟩ h2 Q q => ⟨a, _, 1, u2, e1, h2, ex_t hd.ex e2, rfl, q _ G H (.refl hd) e4⟩
section
variable {α β γ δ ε : Type} {r1 : Rep α} {r2 : Rep β} {r3 : Rep γ} {r4 : Rep δ} {r5 : Rep ε}
theorem ev_t31 {x : α × β × γ} (ha : Ev ta Γ c c1 (tv (rTri K r1 r2 r3) x)) (hb : Ev tb Γ c1 c2 (tv rInt 0)) : Ev (tOp (rIxT K) ta tb) Γ c c2 (tv r1 x.1) :=
  ev_op ha hb fun G H v w hd ⟨a, u1, u2, u3, e1, e2, e3, e4, e5⟩ h2 Q q => ⟨a, _, 0, u1, e1, h2, ex_t hd.ex e2, rfl, q _ G H (.refl hd) e3⟩
theorem ev_t32 {x : α × β × γ} (ha : Ev ta Γ c c1 (tv (rTri K r1 r2 r3) x)) (hb : Ev tb Γ c1 c2 (tv rInt 1)) : Ev (tOp (rIxT K) ta tb) Γ c c2 (tv r2 x.2.1) :=
  ev_op ha hb fun G H v w hd ⟨a, u1, u2, u3, e1, e2, e3, e4, e5⟩ h2 Q q => ⟨a, _, 1, u2, e1, h2, ex_t hd.ex e2, rfl, q _ G H (.refl hd) e4⟩
theorem ev_t33 {x : α × β × γ} (ha : Ev ta Γ c c1 (tv (rTri K r1 r2 r3) x)) (hb : Ev tb Γ c1 c2 (tv rInt 2)) : Ev (tOp (rIxT K) ta tb) Γ c c2 (tv r3 x.2.2) :=
  ev_op ha hb fun G H v w hd ⟨a, u1, u2, u3, e1, e2, e3, e4, e5⟩ h2 Q q => ⟨a, _, 2, u3, e1, h2, ex_t hd.ex e2, rfl, q _ G H (.refl hd) e5⟩
theorem ev_t51 {x : α × β × γ × δ × ε} (ha : Ev ta Γ c c1 (tv (rQui K r1 r2 r3 r4 r5) x)) (hb : Ev tb Γ c1 c2 (tv rInt 0)) : Ev (tOp (rIxT K) ta tb) Γ c c2 (tv r1 x.1) :=
  ev_op ha hb fun G H v w hd ⟨a, u1, u2, u3, u4, u5, e1, e2, e3, e4, e5, e6, e7⟩ h2 Q q => ⟨a, _, 0, u1, e1, h2, ex_t hd.ex e2, rfl, q _ G H (.refl hd) e3⟩
theorem ev_t52 {x : α × β × γ × δ × ε} (ha : Ev ta Γ c c1 (tv (rQui K r1 r2 r3 r4 r5) x)) (hb : Ev tb Γ c1 c2 (tv rInt 1)) : Ev (tOp (rIxT K) ta tb) Γ c c2 (tv r2 x.2.1) :=
  ev_op ha hb fun G H v w hd ⟨a, u1, u2, u3, u4, u5, e1, e2, e3, e4, e5, e6, e7⟩ h2 Q q => ⟨a, _, 1, u2, e1, h2, ex_t hd.ex e2, rfl, q _ G H (.refl hd) e4⟩
theorem ev_t53 {x : α × β × γ × δ × ε} (ha : Ev ta Γ c c1 (tv (rQui K r1 r2 r3 r4 r5) x)) (hb : Ev tb Γ c1 c2 (tv rInt 2)) : Ev (tOp (rIxT K) ta tb) Γ c c2 (tv r3 x.2.2.1) :=
  ev_op ha hb fun G H v w hd ⟨a, u1, u2, u3, u4, u5, e1, e2, e3, e4, e5, e6, e7⟩ h2 Q q => ⟨a, _, 2, u3, e1, h2, ex_t hd.ex e2, rfl, q _ G H (.refl hd) e5⟩
theorem ev_t54 {x : α × β × γ × δ × ε} (ha : Ev ta Γ c c1 (tv (rQui K r1 r2 r3 r4 r5) x)) (hb : Ev tb Γ c1 c2 (tv rInt 3)) : Ev (tOp (rIxT K) ta tb) Γ c c2 (tv r4 x.2.2.2.1) :=
  ev_op ha hb fun G H v w hd ⟨a, u1, u2, u3, u4, u5, e1, e2, e3, e4, e5, e6, e7⟩ h2 Q q => ⟨a, _, 3, u4, e1, h2, ex_t hd.ex e2, rfl, q _ G H (.refl hd) e6⟩
theorem ev_t55 {x : α × β × γ × δ × ε} (ha : Ev ta Γ c c1 (tv (rQui K r1 r2 r3 r4 r5) x)) (hb : Ev tb Γ c1 c2 (tv rInt 4)) : Ev (tOp (rIxT K) ta tb) Γ c c2 (tv r5 x.2.2.2.2) :=
  ev_op ha hb fun G H v w hd ⟨a, u1, u2, u3, u4, u5, e1, e2, e3, e4, e5, e6, e7⟩ h2 Q q => ⟨a, _, 4, u5, e1, h2, ex_t hd.ex e2, rfl, q _ G H (.refl hd) e7⟩
/-- displays -/
theorem ev_tup {ta : TA} {Ps : List TV} (ha : EvA ta Γ c c1 Ps) (hn : Ps.length ≤ sizeLine) (hr : ∀ G p vs, VsOk G Ps vs → G p = some (.tup vs) → R.ok G (.ref p)) : Ev (tTup ta) Γ c c1 R := fun σ G H e hd Q q =>
  ha σ G H e hd _ fun vs G1 H1 a1 k1 => ⟨by rw [k1.len]; exact hn, fun p hp => by
    have a2 := Aft.frz (.tup vs) a1.hld hp
    exact q _ _ _ (a1.trans a2) (hr _ p vs (k1.mono a2.gg) upd_same)⟩
theorem ev_pair {ta tb : TE} {x : α} {y : β} (ha : Ev ta Γ c c1 (tv r1 x)) (hb : Ev tb Γ c1 c2 (tv r2 y)) : Ev (tTup (tCons ta (tCons tb tNil))) Γ c c2 (tv (rPair K r1 r2) (x, y)) :=
  ev_tup (ea_cons ha (ea_cons hb ea_nil)) (by show 2 ≤ sizeLine; decide) fun G p vs h hp => match vs, h with
    | [u, w], ⟨h1, h2, _⟩ => ⟨p, u, w, rfl, .inl (.inl hp), h1, h2⟩
theorem ev_tri {t1 t2 t3 : TE} {x : α} {y : β} {z : γ} (h1 : Ev t1 Γ c c1 (tv r1 x)) (h2 : Ev t2 Γ c1 c2 (tv r2 y)) (h3 : Ev t3 Γ c2 c3 (tv r3 z)) : Ev (tTup (tCons t1 (tCons t2 (tCons t3 tNil)))) Γ c c3 (tv (rTri K r1 r2 r3) (x, y, z)) :=
  ev_tup (ea_cons h1 (ea_cons h2 (ea_cons h3 ea_nil))) (by show 3 ≤ sizeLine; decide) fun G p vs h hp => match vs, h with
    | [u, w, w'], ⟨k1, k2, k3, _⟩ => ⟨p, u, w, w', rfl, .inl (.inl hp), k1, k2, k3⟩
theorem ev_qui {t1 t2 t3 t4 t5 : TE} {c4 c5 : Cells} {x : α} {y : β} {z : γ} {w : δ} {o : ε} (h1 : Ev t1 Γ c c1 (tv r1 x)) (h2 : Ev t2 Γ c1 c2 (tv r2 y)) (h3 : Ev t3 Γ c2 c3 (tv r3 z)) (h4 : Ev t4 Γ c3 c4 (tv r4 w)) (h5 : Ev t5 Γ c4 c5 (tv r5 o)) :
    Ev (tTup (tCons t1 (tCons t2 (tCons t3 (tCons t4 (tCons t5 tNil)))))) Γ c c5 (tv (rQui K r1 r2 r3 r4 r5) (x, y, z, w, o)) :=
  ev_tup (ea_cons h1 (ea_cons h2 (ea_cons h3 (ea_cons h4 (ea_cons h5 ea_nil))))) (by show 5 ≤ sizeLine; decide) fun G p vs h hp => match vs, h with
    | [u1, u2, u3, u4, u5], ⟨k1, k2, k3, k4, k5, _⟩ => ⟨p, u1, u2, u3, u4, u5, rfl, .inl (.inl hp), k1, k2, k3, k4, k5⟩
/-- a written tuple, a written list of items of one kind -/
theorem all2_of : ∀ {xs : List α} {G : Hp} {vs : List V}, VsOk G (xs.map (tv r1)) vs → All2 r1 G vs xs
  | [], _, [], _ => trivial
  | x :: xs, _, v :: vs, ⟨h1, h2⟩ => ⟨h1, all2_of h2⟩
  | [], _, _ :: _, h => h.elim
  | _ :: _, _, [], h => h.elim
theorem ev_tupH {ta : TA} {xs : List α} (ha : EvA ta Γ c c1 (xs.map (tv r1))) (hn : xs.length ≤ sizeLine) : Ev (tTup ta) Γ c c1 (tv (rTup K r1) xs) :=
  ev_tup ha (by rw [List.length_map]; exact hn) fun G p vs h hp => ⟨p, vs, rfl, .inl (.inl hp), all2_of h, hn⟩
theorem ev_lstH {ta : TA} {xs : List α} (ha : EvA ta Γ c c1 (xs.map (tv r1))) (hn : xs.length ≤ sizeLine) : Ev (tLst ta) Γ c c1 (tv (rLst r1) xs) := fun σ G H e hd Q q =>
  ha σ G H e hd _ fun vs G1 H1 a1 k1 => ⟨by rw [k1.len, List.length_map]; exact hn, fun p hp => by
    have a2 := Aft.frz (.lst vs) a1.hld hp
    exact q _ _ _ (a1.trans a2) ⟨p, vs, rfl, upd_same, (all2_of k1).mono a2.gg, hn⟩⟩
end
/-! tests -/
theorem et_test {b : Bool} (h : Ev te Γ c c1 (tv rBl b)) : EvT (tTest te) Γ c c1 b := fun σ G H e hd Q q => h σ G H e hd _ fun v G' H' a k => ⟨b, k, q G' H' a⟩
theorem et_B {b : Bool} (h : Ev te Γ c c1 (tv rBl b)) : EvT (tB te) Γ c c1 b := fun σ G H e hd Q q => h σ G H e hd _ fun v G' H' a k => ⟨b, k, q G' H' a⟩
theorem et_not {b : Bool} (h : EvT t Γ c c1 b) : EvT (tNot t) Γ c c1 (!b) := fun σ G H e hd Q q => h σ G H e hd _ q
/-- and, or, in one: what is not asked may lack -/
def andO (a : Bool) (m : Option Bool) : Option Bool := if a = true then m else some false
def orO (a : Bool) (m : Option Bool) : Option Bool := if a = true then some true else m
theorem et_andO {a b : Bool} {m : Option Bool} (h1 : EvT t Γ c c1 a) (h2 : ∀ b, m = some b → EvT u Γ c1 c1 b) (hm : andO a m = some b) : EvT (tAnd t u) Γ c c1 b := fun σ G H e hd Q q => h1 σ G H e hd _ fun G1 H1 a1 => by
  cases a with
  | true =>
    rw [if_pos rfl]
    exact h2 b hm σ G1 H1 (e.mono a1.gg) a1.hld Q fun G2 H2 a2 => q G2 H2 (a1.trans a2)
  | false =>
    rw [if_neg Bool.false_ne_true]
    cases hm
    exact q G1 H1 a1
theorem et_orO {a b : Bool} {m : Option Bool} (h1 : EvT t Γ c c1 a) (h2 : ∀ b, m = some b → EvT u Γ c1 c1 b) (hm : orO a m = some b) : EvT (tOr t u) Γ c c1 b := fun σ G H e hd Q q => h1 σ G H e hd _ fun G1 H1 a1 => by
  cases a with
  | true =>
    rw [if_pos rfl]
    cases hm
    exact q G1 H1 a1
  | false =>
    rw [if_neg Bool.false_ne_true]
    exact h2 b hm σ G1 H1 (e.mono a1.gg) a1.hld Q fun G2 H2 a2 => q G2 H2 (a1.trans a2)
theorem et_and {a b : Bool} (h1 : EvT t Γ c c1 a) (h2 : EvT u Γ c1 c1 b) : EvT (tAnd t u) Γ c c1 (a && b) :=
  et_andO (m := some b) h1 (fun b' e => by cases e; exact h2) (by cases a <;> rfl)
theorem et_or {a b : Bool} (h1 : EvT t Γ c c1 a) (h2 : EvT u Γ c1 c1 b) : EvT (tOr t u) Γ c c1 (a || b) :=
  et_orO (m := some b) h1 (fun b' e => by cases e; exact h2) (by cases a <;> rfl)
theorem ev_andO {a b : Bool} {m : Option Bool} (h1 : Ev ta Γ c c1 (tv rBl a)) (h2 : ∀ b, m = some b → Ev tb Γ c1 c1 (tv rBl b)) (hm : andO a m = some b) : Ev (tAndV ta tb) Γ c c1 (tv rBl b) := fun σ G H e hd Q q => h1 σ G H e hd _ fun v G1 H1 a1 k1 => ⟨a, k1, by
  cases a with
  | true =>
    rw [if_pos rfl]
    exact h2 b hm σ G1 H1 (e.mono a1.gg) a1.hld Q fun v G2 H2 a2 => q v G2 H2 (a1.trans a2)
  | false =>
    rw [if_neg Bool.false_ne_true]
    cases hm
    exact q _ G1 H1 a1 rfl⟩
theorem ev_orO {a b : Bool} {m : Option Bool} (h1 : Ev ta Γ c c1 (tv rBl a)) (h2 : ∀ b, m = some b → Ev tb Γ c1 c1 (tv rBl b)) (hm : orO a m = some b) : Ev (tOrV ta tb) Γ c c1 (tv rBl b) := fun σ G H e hd Q q => h1 σ G H e hd _ fun v G1 H1 a1 k1 => ⟨a, k1, by
  cases a with
  | true =>
    rw [if_pos rfl]
    cases hm
    exact q _ G1 H1 a1 rfl
  | false =>
    rw [if_neg Bool.false_ne_true]
    exact h2 b hm σ G1 H1 (e.mono a1.gg) a1.hld Q fun v G2 H2 a2 => q v G2 H2 (a1.trans a2)⟩
theorem ev_andV {a b : Bool} (h1 : Ev ta Γ c c1 (tv rBl a)) (h2 : Ev tb Γ c1 c1 (tv rBl b)) : Ev (tAndV ta tb) Γ c c1 (tv rBl (a && b)) :=
  ev_andO (m := some b) h1 (fun b' e => by cases e; exact h2) (by cases a <;> rfl)
theorem ev_orV {a b : Bool} (h1 : Ev ta Γ c c1 (tv rBl a)) (h2 : Ev tb Γ c1 c1 (tv rBl b)) : Ev (tOrV ta tb) Γ c c1 (tv rBl (a || b)) :=
  ev_orO (m := some b) h1 (fun b' e => by cases e; exact h2) (by cases a <;> rfl)
theorem ev_notV {b : Bool} (h : Ev ta Γ c c1 (tv rBl b)) : Ev (tNotV ta) Γ c c1 (tv rBl (!b)) := fun σ G H e hd Q q => h σ G H e hd _ fun v G' H' a k => ⟨b, k, q _ G' H' a rfl⟩
/-- a if t else b -/
theorem ev_ifO {α : Type} {r : Rep α} {b : Bool} {ma mb : Option α} {x : α} (h : EvT t Γ c c1 b) (h1 : b = true → ∀ x, ma = some x → Ev ta Γ c1 c2 (tv r x)) (h2 : b = false → ∀ x, mb = some x → Ev tb Γ c1 c2 (tv r x)) (hm : (if b = true then ma else mb) = some x) :
    Ev (tIf t ta tb) Γ c c2 (tv r x) := fun σ G H e hd Q q => h σ G H e hd _ fun G1 H1 a1 => by
  cases b with
  | true =>
    rw [if_pos rfl] at hm ⊢
    exact h1 rfl x hm σ G1 H1 (e.mono a1.gg) a1.hld Q fun v G2 H2 a2 => q v G2 H2 (a1.trans a2)
  | false =>
    rw [if_neg Bool.false_ne_true] at hm ⊢
    exact h2 rfl x hm σ G1 H1 (e.mono a1.gg) a1.hld Q fun v G2 H2 a2 => q v G2 H2 (a1.trans a2)
theorem ev_if {α : Type} {r : Rep α} {b : Bool} {x y : α} (h : EvT t Γ c c1 b) (h1 : Ev ta Γ c1 c2 (tv r x)) (h2 : Ev tb Γ c1 c2 (tv r y)) : Ev (tIf t ta tb) Γ c c2 (tv r (if b = true then x else y)) :=
  ev_ifO (ma := some x) (mb := some y) h (fun _ x' e => by cases e; exact h1) (fun _ x' e => by cases e; exact h2) (by cases b <;> rfl)
/-! truth of a thing -/
abbrev tTruth (K : PySem.W.Frag) (ta : TE) : TT := fun σ H Q => ta σ H fun x H' => ∃ k, TruV K x H' k ∧ Q k H'
theorem et_truI {i : Int} (h : Ev ta Γ c c1 (tv rInt i)) : EvT (tTruth K ta) Γ c c1 (i != 0) := fun σ G H e hd Q q => h σ G H e hd _ fun v G' H' a k => by
  have k : v = .int i := k
  subst k
  exact ⟨_, rfl, q G' H' a⟩
theorem et_truB {b : Bool} (h : Ev ta Γ c c1 (tv rBl b)) : EvT (tTruth K ta) Γ c c1 b := fun σ G H e hd Q q => h σ G H e hd _ fun v G' H' a k => by
  have k : v = .bl b := k
  subst k
  exact ⟨_, rfl, q G' H' a⟩
theorem et_truS {x : List Nat} (h : Ev ta Γ c c1 (tv rStr x)) : EvT (tTruth K ta) Γ c c1 (!x.isEmpty) := fun σ G H e hd Q q => h σ G H e hd _ fun v G' H' a ⟨k, kl⟩ => by
  subst k
  refine ⟨_, ⟨by rw [sOf_len]; exact kl.1, ?_⟩, q G' H' a⟩
  rw [sOf_len]
  cases x with
  | nil => rfl
  | cons y ys =>
    rw [List.length_cons]
    show true = ((((ys.length + 1 : Nat) : Int)) != 0)
    exact (bne_iff_ne.mpr (by omega)).symm
theorem all2_empty {α : Type} {r : Rep α} {G : Hp} : ∀ {vs : List V} {xs : List α}, All2 r G vs xs → vs.isEmpty = xs.isEmpty
  | [], [], _ => rfl
  | _ :: _, _ :: _, _ => rfl
  | [], _ :: _, h => h.elim
  | _ :: _, [], h => h.elim
theorem et_truL {α : Type} {r : Rep α} {xs : List α} (h : Ev ta Γ c c1 (tv (rLst r) xs)) : EvT (tTruth K ta) Γ c c1 (!xs.isEmpty) := fun σ G H e hd Q q => h σ G H e hd _ fun v G' H' a ⟨p, vs, k1, k2, k3, k4⟩ => by
  subst k1
  exact ⟨_, .inl ⟨vs, .inl (.inl (a.hld.ex _ _ k2)), by rw [all2_empty k3]⟩, q G' H' a⟩
theorem et_truT {α : Type} {r : Rep α} {xs : List α} (h : Ev ta Γ c c1 (tv (rTup K r) xs)) : EvT (tTruth K ta) Γ c c1 (!xs.isEmpty) := fun σ G H e hd Q q => h σ G H e hd _ fun v G' H' a ⟨p, vs, k1, k2, k3, k4⟩ => by
  subst k1
  exact ⟨_, .inr (.inl ⟨vs, ex_t a.hld.ex k2, by rw [all2_empty k3]⟩), q G' H' a⟩
/-- an owned list -/
theorem et_truO {α : Type} {r : Rep α} {xs : List α} {l : Addr} (h : Ev ta Γ c c1 (tv rAddr l)) (hl : (l, tcL r xs) ∈ c1) : EvT (tTruth K ta) Γ c c1 (!xs.isEmpty) := fun σ G H e hd Q q => h σ G H e hd _ fun v G' H' a k => by
  have k : v = .ref l := k
  subst k
  obtain ⟨_, o, ho, vs, rfl, h2, h3⟩ := a.hld.own _ hl
  exact ⟨_, .inl ⟨vs, .inl (.inl ho), by rw [all2_empty h2]⟩, q G' H' a⟩
end
end TW
namespace TW
open PySem L2
section
variable {Γ : TEnv} {c c1 c2 c3 : Cells} {P P' P2 R : TV} {ta tb td te : TE} {t u : TT} {r : R2} {K : PySem.W.Frag} {α β : Type} {rα : Rep α}
theorem ea_one (h : Ev te Γ c c1 P) : EvA (tCons te tNil) Γ c c1 [P] := ea_cons h ea_nil
theorem ea_two (h : Ev ta Γ c c1 P) (h2 : Ev tb Γ c1 c2 P') : EvA (tCons ta (tCons tb tNil)) Γ c c2 [P, P'] := ea_cons h (ea_cons h2 ea_nil)
theorem vs1 {G : Hp} {vs : List V} (h : VsOk G [P] vs) : ∃ v, vs = [v] ∧ P.ok G v := by
  cases vs with
  | nil => exact h.elim
  | cons v vs =>
    cases vs with
    | nil => exact ⟨v, rfl, h.1⟩
    | cons w ws => exact h.2.elim
theorem vs2 {G : Hp} {vs : List V} (h : VsOk G [P, P'] vs) : ∃ v w, vs = [v, w] ∧ P.ok G v ∧ P'.ok G w := by
  cases vs with
  | nil => exact h.elim
  | cons v vs =>
    obtain ⟨w, e, k⟩ := vs1 h.2
    subst e
    exact ⟨v, w, rfl, h.1, k⟩
theorem ev_cb1 {r : List V → Hp → VK → Prop} (h : Ev te Γ c c1 P) (hr : ∀ G H v, Hld G c1 H → P.ok G v → ∀ Q : VK, (∀ v G' H', Aft G c1 H G' c2 H' → R.ok G' v → Q v H') → r [v] H Q) : Ev (tCB r (tCons te tNil)) Γ c c2 R :=
  ev_cb (ea_one h) fun G H vs hd hv Q q => by
    obtain ⟨v, e, k⟩ := vs1 hv
    subst e
    exact hr G H v hd k Q q
theorem ev_cb2 {r : List V → Hp → VK → Prop} (h : Ev ta Γ c c1 P) (h2 : Ev tb Γ c1 c2 P') (hr : ∀ G H v w, Hld G c2 H → P.ok G v → P'.ok G w → ∀ Q : VK, (∀ v G' H', Aft G c2 H G' c3 H' → R.ok G' v → Q v H') → r [v, w] H Q) : Ev (tCB r (tCons ta (tCons tb tNil))) Γ c c3 R :=
  ev_cb (ea_two h h2) fun G H vs hd hv Q q => by
    obtain ⟨v, w, e, k, k2⟩ := vs2 hv
    subst e
    exact hr G H v w hd k k2 Q q
/-! len -/
abbrev rLen (K : PySem.W.Frag) : List V → Hp → VK → Prop := fun xs H Q => ∃ x n, xs = [x] ∧ LenV K x H n ∧ Q (.int n) H
theorem ev_lenT {xs : List α} (h : Ev te Γ c c1 (tv (rTup K rα) xs)) : Ev (tCB (rLen K) (tCons te tNil)) Γ c c1 (tv rInt (xs.length : Int)) := ev_cb1 h fun G H v hd ⟨a, us, h1, h2, h3, h4⟩ Q q => by
    subst h1
    exact ⟨_, xs.length, rfl, .inr ⟨us, ex_t hd.ex h2, h3.len.symm⟩, q _ G H (.refl hd) rfl⟩
theorem ev_lenL {xs : List α} (h : Ev te Γ c c1 (tv (rLst rα) xs)) : Ev (tCB (rLen K) (tCons te tNil)) Γ c c1 (tv rInt (xs.length : Int)) := ev_cb1 h fun G H v hd ⟨a, us, h1, h2, h3, h4⟩ Q q => by
    subst h1
    exact ⟨_, xs.length, rfl, .inl ⟨us, .inl (.inl (hd.ex _ _ h2)), h3.len.symm⟩, q _ G H (.refl hd) rfl⟩
theorem ev_lenS {xs : List Nat} (h : Ev te Γ c c1 (tv rStr xs)) : Ev (tCB (rLen K) (tCons te tNil)) Γ c c1 (tv rInt (xs.length : Int)) := ev_cb1 h fun G H v hd ⟨h1, h2⟩ Q q => by
    subst h1
    exact ⟨_, xs.length, rfl, ⟨by rw [sOf_len]; exact h2.1, (sOf_len xs).symm⟩, q _ G H (.refl hd) rfl⟩
theorem ev_lenO {xs : List α} {l : Addr} (h : Ev te Γ c c1 (tv rAddr l)) (hl : (l, tcL rα xs) ∈ c1) : Ev (tCB (rLen K) (tCons te tNil)) Γ c c1 (tv rInt (xs.length : Int)) := ev_cb1 h fun G H v hd h1 Q q => by
    have h1 : v = .ref l := h1
    subst h1
    obtain ⟨_, o, ho, us, rfl, h2, h3⟩ := hd.own _ hl
    exact ⟨_, xs.length, rfl, .inl ⟨us, .inl (.inl ho), h2.len.symm⟩, q _ G H (.refl hd) rfl⟩
/-! sum, max, min, int, str, abs -/
theorem all2_int : ∀ {xs : List Int} {G : Hp} {vs : List V}, All2 rInt G vs xs → vs = xs.map V.int := fun {xs G vs} h => All2.map (f := V.int) (fun _ _ _ h => h) h
theorem ev_sum {xs : List Int} (h : Ev te Γ c c1 (tv (rLst rInt) xs)) : Ev (tCB (rSum K) (tCons te tNil)) Γ c c1 (tv rInt xs.sum) := ev_cb1 h fun G H v hd ⟨a, us, h1, h2, h3, h4⟩ Q q => by
    subst h1
    rw [all2_int h3] at h2
    exact ⟨a, xs, rfl, .inl (.inl (hd.ex _ _ h2)), q _ G H (.refl hd) rfl⟩
def maxL : List Int → Int
  | [] => 0
  | [x] => x
  | x :: y :: r => max x (maxL (y :: r))
def minL : List Int → Int
  | [] => 0
  | [x] => x
  | x :: y :: r => min x (minL (y :: r))
theorem maxL_mem : ∀ {xs : List Int}, xs ≠ [] → maxL xs ∈ xs ∧ ∀ y ∈ xs, y ≤ maxL xs
  | [], h => absurd rfl h
  | [x], _ => ⟨by simp [maxL], fun y h => by rw [List.mem_singleton] at h; rw [h]; exact Int.le_refl _⟩
  | x :: y :: r, _ => by
    obtain ⟨h1, h2⟩ := maxL_mem (xs := y :: r) (by simp)
    have e : maxL (x :: y :: r) = max x (maxL (y :: r)) := rfl
    rw [e]
    refine ⟨?_, fun z hz => ?_⟩
    · by_cases q : x ≤ maxL (y :: r)
      · rw [Int.max_eq_right q]; exact List.mem_cons_of_mem _ h1
      · rw [Int.max_eq_left (by omega)]; exact List.mem_cons_self
    · rcases List.mem_cons.mp hz with z1 | z1
      · rw [z1]; omega
      · have := h2 z z1; omega
theorem minL_mem : ∀ {xs : List Int}, xs ≠ [] → minL xs ∈ xs ∧ ∀ y ∈ xs, minL xs ≤ y
  | [], h => absurd rfl h
  | [x], _ => ⟨by simp [minL], fun y h => by rw [List.mem_singleton] at h; rw [h]; exact Int.le_refl _⟩
  | x :: y :: r, _ => by
    obtain ⟨h1, h2⟩ := minL_mem (xs := y :: r) (by simp)
    have e : minL (x :: y :: r) = min x (minL (y :: r)) := rfl
    rw [e]
    refine ⟨?_, fun z hz => ?_⟩
    · by_cases q : x ≤ minL (y :: r)
      · rw [Int.min_eq_left q]; exact List.mem_cons_self
      · rw [Int.min_eq_right (by omega)]; exact List.mem_cons_of_mem _ h1
    · rcases List.mem_cons.mp hz with z1 | z1
      · rw [z1]; omega
      · have := h2 z z1; omega
def maxO (xs : List Int) : Option Int := if xs = [] then none else some (maxL xs)
def minO (xs : List Int) : Option Int := if xs = [] then none else some (minL xs)
theorem ev_maxL {xs : List Int} {y : Int} (h : Ev te Γ c c1 (tv (rLst rInt) xs)) (hm : maxO xs = some y) : Ev (tCB (rMax K) (tCons te tNil)) Γ c c1 (tv rInt y) := ev_cb1 h fun G H v hd ⟨a, us, h1, h2, h3, h4⟩ Q q => by
    subst h1
    unfold maxO at hm
    split at hm
    · cases hm
    · rename_i hne
      cases hm
      rw [all2_int h3] at h2
      obtain ⟨m1, m2⟩ := maxL_mem hne
      refine ⟨a, xs, rfl, .inl (.inl (hd.ex _ _ h2)), List.length_pos_iff.mpr hne, fun m k1 k2 => ?_⟩
      have e : m = maxL xs := Int.le_antisymm (m2 m k1) (k2 _ m1)
      rw [e]
      exact q _ G H (.refl hd) rfl
theorem ev_minL {xs : List Int} {y : Int} (h : Ev te Γ c c1 (tv (rLst rInt) xs)) (hm : minO xs = some y) : Ev (tCB (rMin K) (tCons te tNil)) Γ c c1 (tv rInt y) := ev_cb1 h fun G H v hd ⟨a, us, h1, h2, h3, h4⟩ Q q => by
    subst h1
    unfold minO at hm
    split at hm
    · cases hm
    · rename_i hne
      cases hm
      rw [all2_int h3] at h2
      obtain ⟨m1, m2⟩ := minL_mem hne
      refine ⟨a, xs, rfl, .inl (.inl (hd.ex _ _ h2)), List.length_pos_iff.mpr hne, fun m k1 k2 => ?_⟩
      have e : m = minL xs := Int.le_antisymm (k2 _ m1) (m2 m k1)
      rw [e]
      exact q _ G H (.refl hd) rfl
theorem ev_max2 {x y : Int} (h : Ev ta Γ c c1 (tv rInt x)) (h2 : Ev tb Γ c1 c2 (tv rInt y)) : Ev (tCB (fun xs H Q => ∃ i j, xs = [.int i, .int j] ∧ Q (.int (if j > i then j else i)) H) (tCons ta (tCons tb tNil))) Γ c c2 (tv rInt (max x y)) := ev_cb2 h h2 fun G H v w hd h1 h2 Q q => ⟨x, y, by rw [show v = .int x from h1, show w = .int y from h2], q _ G H (.refl hd) (by
    show V.int _ = V.int _
    congr 1
    split <;> omega)⟩
theorem ev_min2 {x y : Int} (h : Ev ta Γ c c1 (tv rInt x)) (h2 : Ev tb Γ c1 c2 (tv rInt y)) : Ev (tCB (fun xs H Q => ∃ i j, xs = [.int i, .int j] ∧ Q (.int (if j < i then j else i)) H) (tCons ta (tCons tb tNil))) Γ c c2 (tv rInt (min x y)) := ev_cb2 h h2 fun G H v w hd h1 h2 Q q => ⟨x, y, by rw [show v = .int x from h1, show w = .int y from h2], q _ G H (.refl hd) (by
    show V.int _ = V.int _
    congr 1
    split <;> omega)⟩
theorem ev_abs {x : Int} (h : Ev ta Γ c c1 (tv rInt x)) : Ev (tCB (fun xs H Q => ∃ i, xs = [.int i] ∧ Q (.int (if i < 0 then -i else i)) H) (tCons ta tNil)) Γ c c1 (tv rInt (x.natAbs : Int)) := ev_cb1 h fun G H v hd h1 Q q => ⟨x, by rw [show v = .int x from h1], q _ G H (.refl hd) (by
    show V.int _ = V.int _
    congr 1
    split <;> omega)⟩
def b2i' (b : Bool) : Int := if b = true then 1 else 0
abbrev rIntC : List V → Hp → VK → Prop := fun xs H Q => (∃ i, xs = [.int i] ∧ Q (.int i) H) ∨ ∃ k, xs = [.bl k] ∧ Q (.int (if k then 1 else 0)) H
theorem ev_intI {x : Int} (h : Ev ta Γ c c1 (tv rInt x)) : Ev (tCB rIntC (tCons ta tNil)) Γ c c1 (tv rInt x) := ev_cb1 h fun G H v hd h1 Q q => .inl ⟨x, by rw [show v = .int x from h1], q _ G H (.refl hd) rfl⟩
theorem ev_intB {x : Bool} (h : Ev ta Γ c c1 (tv rBl x)) : Ev (tCB rIntC (tCons ta tNil)) Γ c c1 (tv rInt (b2i' x)) := ev_cb1 h fun G H v hd h1 Q q => .inr ⟨x, by rw [show v = .bl x from h1], q _ G H (.refl hd) rfl⟩
/-- the digits of a number -/
def digS (i : Int) : List Nat := ((toString i : Str)).cps.toList
theorem sOf_dig (i : Int) : (toString i : Str) = sOf (digS i) := by
  unfold digS sOf
  generalize (toString i : Str) = z
  cases z
  simp
def strO (i : Int) : Option (List Nat) := if i.natAbs.log2 < 1920 ∧ SOk (digS i) then some (digS i) else none
theorem ev_strI {i : Int} {x : List Nat} (h : Ev ta Γ c c1 (tv rInt i)) (hm : strO i = some x) : Ev (tCB (fun xs H Q => ∃ i : Int, xs = [.int i] ∧ i.natAbs.log2 < 1920 ∧ Q (.str (toString i)) H) (tCons ta tNil)) Γ c c1 (tv rStr x) := ev_cb1 h fun G H v hd h1 Q q => by
    unfold strO at hm
    split at hm
    · rename_i hc
      cases hm
      refine ⟨i, by rw [show v = .int i from h1], hc.1, ?_⟩
      rw [sOf_dig]
      exact q _ G H (.refl hd) ⟨rfl, hc.2⟩
    · cases hm
/-! tuple(..), list(..) -/
abbrev rTupleC (K : PySem.W.Frag) : List V → Hp → VK → Prop := fun xs H Q => ∃ p ys, xs = [.ref p] ∧ ((SqL K H p ys ∧ ∀ l, H l = none → Q (.ref l) (upd H l (.tup ys))) ∨ (SqT K H p ys ∧ Q (.ref p) H))
abbrev rListC (K : PySem.W.Frag) : List V → Hp → VK → Prop := fun xs H Q => ∃ p ys, xs = [.ref p] ∧ (SqL K H p ys ∨ SqT K H p ys) ∧ ∀ l, H l = none → Q (.ref l) (upd H l (.lst ys))
theorem ev_tupL {xs : List α} (h : Ev te Γ c c1 (tv (rLst rα) xs)) : Ev (tCB (rTupleC K) (tCons te tNil)) Γ c c1 (tv (rTup K rα) xs) := ev_cb1 h fun G H v hd ⟨a, us, h1, h2, h3, h4⟩ Q q => by
    subst h1
    refine ⟨a, us, rfl, .inl ⟨.inl (.inl (hd.ex _ _ h2)), fun l hl => ?_⟩⟩
    have a2 := Aft.frz (.tup us) hd hl
    exact q _ _ _ a2 ⟨l, us, rfl, .inl (.inl upd_same), h3.mono a2.gg, h4⟩
theorem ev_tupO {xs : List α} {l : Addr} (h : Ev te Γ c c1 (tv rAddr l)) (hl : (l, tcL rα xs) ∈ c1) : Ev (tCB (rTupleC K) (tCons te tNil)) Γ c c1 (tv (rTup K rα) xs) := ev_cb1 h fun G H v hd h1 Q q => by
    have h1 : v = .ref l := h1
    subst h1
    obtain ⟨_, o, ho, us, rfl, h2, h3⟩ := hd.own _ hl
    refine ⟨l, us, rfl, .inl ⟨.inl (.inl ho), fun p hp => ?_⟩⟩
    have a2 := Aft.frz (.tup us) hd hp
    exact q _ _ _ a2 ⟨p, us, rfl, .inl (.inl upd_same), h2.mono a2.gg, h3⟩
theorem ev_tupT {xs : List α} (h : Ev te Γ c c1 (tv (rTup K rα) xs)) : Ev (tCB (rTupleC K) (tCons te tNil)) Γ c c1 (tv (rTup K rα) xs) := ev_cb1 h fun G H v hd ⟨a, us, h1, h2, h3, h4⟩ Q q => by
    subst h1
    exact ⟨a, us, rfl, .inr ⟨ex_t hd.ex h2, q _ _ _ (.refl hd) ⟨a, us, rfl, h2, h3, h4⟩⟩⟩
theorem ev_listL {xs : List α} (h : Ev te Γ c c1 (tv (rLst rα) xs)) : Ev (tCB (rListC K) (tCons te tNil)) Γ c c1 (tv (rLst rα) xs) := ev_cb1 h fun G H v hd ⟨a, us, h1, h2, h3, h4⟩ Q q => by
    subst h1
    refine ⟨a, us, rfl, .inl (.inl (.inl (hd.ex _ _ h2))), fun l hl => ?_⟩
    have a2 := Aft.frz (.lst us) hd hl
    exact q _ _ _ a2 ⟨l, us, rfl, upd_same, h3.mono a2.gg, h4⟩
theorem ev_listT {xs : List α} (h : Ev te Γ c c1 (tv (rTup K rα) xs)) : Ev (tCB (rListC K) (tCons te tNil)) Γ c c1 (tv (rLst rα) xs) := ev_cb1 h fun G H v hd ⟨a, us, h1, h2, h3, h4⟩ Q q => by
    subst h1
    refine ⟨a, us, rfl, .inr (ex_t hd.ex h2), fun l hl => ?_⟩
    have a2 := Aft.frz (.lst us) hd hl
    exact q _ _ _ a2 ⟨l, us, rfl, upd_same, h3.mono a2.gg, h4⟩
/-! + of lists -/
def appO (xs ys : List α) : Option (List α) := if xs.length + ys.length ≤ sizeLine then some (xs ++ ys) else none
theorem appO_some {xs ys zs : List α} (h : appO xs ys = some zs) : xs.length + ys.length ≤ sizeLine ∧ zs = xs ++ ys := by
  unfold appO at h
  split at h
  · exact ⟨by assumption, (Option.some.inj h).symm⟩
  · cases h
theorem ev_catL {xs ys zs : List α} (ha : Ev ta Γ c c1 (tv (rLst rα) xs)) (hb : Ev tb Γ c1 c2 (tv (rLst rα) ys)) (h : appO xs ys = some zs) : Ev (tOp rCat ta tb) Γ c c2 (tv (rLst rα) zs) :=
  ev_op ha hb fun G H v w hd ⟨a, us, h1, h2, h3, h4⟩ ⟨b, ws, k1, k2, k3, k4⟩ Q q => by
    obtain ⟨hl, rfl⟩ := appO_some h
    refine ⟨a, b, us, ws, h1, k1, hd.ex _ _ h2, hd.ex _ _ k2, by rw [h3.len, k3.len]; exact hl, fun p hp => ?_⟩
    have a2 := Aft.frz (.lst (us ++ ws)) hd hp
    exact q _ _ _ a2 ⟨p, _, rfl, upd_same, (h3.mono a2.gg).app (k3.mono a2.gg), by rw [List.length_append]; exact hl⟩
/-! slices -/
def EvO (to : TO) (Γ : TEnv) (c c' : Cells) (o : Option Int) : Prop := ∀ σ G H, EnvOk G Γ σ → Hld G c H → ∀ Q : Option Int → Hp → Prop, (∀ G' H', Aft G c H G' c' H' → Q o H') → to σ H Q
theorem eo_none : EvO tNoPart Γ c c none := fun σ G H e hd Q q => q G H (.refl hd)
theorem eo_some {i : Int} (h : Ev te Γ c c1 (tv rInt i)) : EvO (tPart te) Γ c c1 (some i) := fun σ G H e hd Q q => h σ G H e hd _ fun v G' H' a k => ⟨i, k, q G' H' a⟩
def cut {α : Type} (xs : List α) (lo hi : Option Int) : List α := (xs.drop (HT.sIx xs.length 0 lo)).take (HT.sIx xs.length xs.length hi - HT.sIx xs.length 0 lo)
theorem cut_len (xs : List α) (lo hi : Option Int) : (cut xs lo hi).length ≤ xs.length := by
  unfold cut
  rw [List.length_take, List.length_drop]
  omega
theorem All2.cut {G : Hp} {vs : List V} {xs : List α} (h : All2 rα G vs xs) (lo hi : Option Int) : All2 rα G (cutV vs lo hi) (cut xs lo hi) := by
  unfold cutV TW.cut
  rw [h.len]
  exact (h.drop _).take _
theorem ev_slL {tl th : TO} {xs : List α} {lo hi : Option Int} (h : Ev te Γ c c1 (tv (rLst rα) xs)) (hl : EvO tl Γ c1 c2 lo) (hh : EvO th Γ c2 c3 hi) : Ev (tSl (rSlL K) te tl th) Γ c c3 (tv (rLst rα) (cut xs lo hi)) := fun σ G H e hd Q q =>
  h σ G H e hd _ fun v G1 H1 a1 k1 => hl σ G1 H1 (e.mono a1.gg) a1.hld _ fun G2 H2 a2 => hh σ G2 H2 (e.mono (a1.gg.trans a2.gg)) a2.hld _ fun G3 H3 a3 => by
    obtain ⟨a, us, h1, h2, h3, h4⟩ := (tv (rLst rα) xs).mono (a2.gg.trans a3.gg) k1
    refine ⟨a, us, h1, .inl (.inl (a3.hld.ex _ _ h2)), fun p hp => ?_⟩
    have a4 := Aft.frz (.lst (cutV us lo hi)) a3.hld hp
    exact q _ _ _ (((a1.trans a2).trans a3).trans a4) ⟨p, _, rfl, upd_same, (h3.mono a4.gg).cut lo hi, Nat.le_trans (cut_len _ _ _) h4⟩
/-- a tuple's slice: the whole of it is itself -/
def rSlT' (K : PySem.W.Frag) : V → Option Int → Option Int → Hp → VK → Prop := fun x lo hi H Q => rSlT K x lo hi H Q ∨ (∃ a xs, x = .ref a ∧ SqT K H a xs ∧ (HT.sIx xs.length 0 lo = 0 ∧ HT.sIx xs.length xs.length hi = xs.length) ∧ Q (.ref a) H)
theorem ev_slT {tl th : TO} {xs : List α} {lo hi : Option Int} (h : Ev te Γ c c1 (tv (rTup K rα) xs)) (hl : EvO tl Γ c1 c2 lo) (hh : EvO th Γ c2 c3 hi) : Ev (tSl (rSlT' K) te tl th) Γ c c3 (tv (rTup K rα) (cut xs lo hi)) := fun σ G H e hd Q q =>
  h σ G H e hd _ fun v G1 H1 a1 k1 => hl σ G1 H1 (e.mono a1.gg) a1.hld _ fun G2 H2 a2 => hh σ G2 H2 (e.mono (a1.gg.trans a2.gg)) a2.hld _ fun G3 H3 a3 => by
    obtain ⟨a, us, h1, h2, h3, h4⟩ := (tv (rTup K rα) xs).mono (a2.gg.trans a3.gg) k1
    by_cases hw : HT.sIx us.length 0 lo = 0 ∧ HT.sIx us.length us.length hi = us.length
    · refine .inr ⟨a, us, h1, ex_t a3.hld.ex h2, hw, q _ _ _ ((a1.trans a2).trans a3) ⟨a, us, rfl, h2, ?_, Nat.le_trans (cut_len _ _ _) h4⟩⟩
      have e2 : cut xs lo hi = xs := by
        unfold cut
        rw [h3.len] at hw
        rw [hw.1, hw.2, List.drop_zero, Nat.sub_zero, List.take_length]
      rw [e2]; exact h3
    · refine .inl ⟨a, us, h1, ex_t a3.hld.ex h2, hw, fun p hp => ?_⟩
      have a4 := Aft.frz (.tup (cutV us lo hi)) a3.hld hp
      exact q _ _ _ (((a1.trans a2).trans a3).trans a4) ⟨p, _, rfl, .inl (.inl upd_same), (h3.mono a4.gg).cut lo hi, Nat.le_trans (cut_len _ _ _) h4⟩
/-! data, for == and in and index -/
theorem dp_mono {G H : Hp} (e : Ex G H) : ∀ (d : PyData) (v : V), Dp K G v d → Dp K H v d := by
  intro d
  refine PyData.rec (motive_1 := fun d => ∀ v, Dp K G v d → Dp K H v d) (motive_2 := fun ds => ∀ vs, DpAll K G vs ds → DpAll K H vs ds) (motive_3 := fun _ => True) (motive_4 := fun _ => True) ?_ ?_ ?_ ?_ ?_ ?_ ?_ ?_ ?_ ?_ ?_ ?_ d
  · intro v h; cases h; exact .non
  · intro b v h; cases h; exact .bl b
  · intro i v h; cases h; exact .int i
  · intro x v h; cases h; exact .str x
  · intro ds ih v h
    cases h with
    | lst hs ha => exact .lst (ex_l e hs) (ih _ ha)
  · intro ds ih v h
    cases h with
    | tup hs ha => exact .tup (ex_t e hs) (ih _ ha)
  · intro _ _ v h; cases h
  · intro vs h; cases h; exact .nil
  · intro d ds h1 h2 vs h
    cases h with
    | cons k1 k2 => exact .cons (h1 _ k1) (h2 _ k2)
  · trivial
  · intros; trivial
  · intros; trivial
structure DpR (K : PySem.W.Frag) (r : Rep α) where
  enc : α → PyData
  n : Nat
  dp : ∀ {G v x}, r.rp G v x → Dp K G v (enc x)
  lay : ∀ {G v x}, r.rp G v x → (enc x).canLay0 = true
  dep : ∀ x, (enc x).depth ≤ n
  eqv : ∀ x y, PyData.eqv (enc x) (enc y) = true ↔ x = y
def dInt : DpR K rInt := ⟨fun i => .int i, 0, fun {G v x} h => by
  have h : v = .int x := h
  subst h; exact .int _, fun _ => by simp [PyData.canLay0], fun _ => by simp [PyData.depth], fun x y => by simp [PyData.eqv]⟩
def dBl : DpR K rBl := ⟨fun i => .bool i, 0, fun {G v x} h => by
  have h : v = .bl x := h
  subst h; exact .bl _, fun _ => by simp [PyData.canLay0], fun _ => by simp [PyData.depth], fun x y => by simp [PyData.eqv]⟩
def dStr : DpR K rStr := ⟨fun i => .str (sOf i), 0, fun {G v x} h => by
  have h : v = .str (sOf x) := h.1
  subst h; exact .str _, fun {G v x} h => by
  have h2 := h.2.2
  simp only [PyData.canLay0, PyData.strOk, sOf]
  rw [← Array.all_toList]
  exact List.all_eq_true.mpr fun k hk => by
    have := List.all_eq_true.mp h2 k hk
    simp only [decide_eq_true_eq] at this ⊢
    omega, fun _ => by simp [PyData.depth], fun x y => by simp only [PyData.eqv, beq_iff_eq]; exact ⟨sOf_inj, fun h => by rw [h]⟩⟩
theorem dpAll_of {r : Rep α} (d : DpR K r) {G : Hp} : ∀ {vs : List V} {xs : List α}, All2 r G vs xs → DpAll K G vs (xs.map d.enc) ∧ PyData.canLayAll0 (xs.map d.enc) = true
  | [], [], _ => ⟨.nil, by simp [PyData.canLayAll0]⟩
  | v :: vs, x :: xs, ⟨h1, h⟩ => by
    obtain ⟨k1, k2⟩ := dpAll_of d h
    refine ⟨.cons (d.dp h1) k1, ?_⟩
    simp only [List.map_cons, PyData.canLayAll0, d.lay h1, k2, Bool.and_self]
  | [], _ :: _, h => h.elim
  | _ :: _, [], h => h.elim
theorem dpAll_dep {r : Rep α} (d : DpR K r) : ∀ xs : List α, PyData.depthAll (xs.map d.enc) ≤ d.n
  | [] => by simp [PyData.depthAll]
  | x :: xs => by
    have h1 := dpAll_dep d xs
    have h2 := d.dep x
    simp only [List.map_cons, PyData.depthAll]
    omega
theorem dpAll_eqv {r : Rep α} (d : DpR K r) : ∀ xs ys : List α, PyData.eqvAll (xs.map d.enc) (ys.map d.enc) = true ↔ xs = ys
  | [], [] => by simp [PyData.eqvAll]
  | [], _ :: _ => by simp [PyData.eqvAll]
  | _ :: _, [] => by simp [PyData.eqvAll]
  | x :: xs, y :: ys => by
    have h1 := dpAll_eqv d xs ys
    have h2 := d.eqv x y
    simp only [List.map_cons, PyData.eqvAll, Bool.and_eq_true, h1, h2, List.cons.injEq]
def dTup {r : Rep α} (d : DpR K r) : DpR K (rTup K r) := ⟨fun xs => .tuple (xs.map d.enc), d.n + 1, fun {G v x} ⟨a, vs, h1, h2, h3, h4⟩ => by
  subst h1; exact .tup h2 (dpAll_of d h3).1, fun {G v x} ⟨a, vs, h1, h2, h3, h4⟩ => by
  simp only [PyData.canLay0]; exact (dpAll_of d h3).2, fun x => by simp only [PyData.depth]; have := dpAll_dep d x; omega, fun x y => by simp only [PyData.eqv]; exact dpAll_eqv d x y⟩
def dLst {r : Rep α} (d : DpR K r) : DpR K (rLst r) := ⟨fun xs => .list (xs.map d.enc), d.n + 1, fun {G v x} ⟨a, vs, h1, h2, h3, h4⟩ => by
  subst h1; exact .lst (.inl (.inl h2)) (dpAll_of d h3).1, fun {G v x} ⟨a, vs, h1, h2, h3, h4⟩ => by
  simp only [PyData.canLay0]; exact (dpAll_of d h3).2, fun x => by simp only [PyData.depth]; have := dpAll_dep d x; omega, fun x y => by simp only [PyData.eqv]; exact dpAll_eqv d x y⟩
def dPair {r : Rep α} {s : Rep β} (d : DpR K r) (e : DpR K s) : DpR K (rPair K r s) := ⟨fun x => .tuple [d.enc x.1, e.enc x.2], max d.n e.n + 1, fun {G v x} ⟨a, u, w, h1, h2, h3, h4⟩ => by
  subst h1; exact .tup h2 (.cons (d.dp h3) (.cons (e.dp h4) .nil)), fun {G v x} ⟨a, u, w, h1, h2, h3, h4⟩ => by
  simp only [PyData.canLay0, PyData.canLayAll0, d.lay h3, e.lay h4, Bool.and_self], fun x => by
  have h1 := d.dep x.1
  have h2 := e.dep x.2
  simp only [PyData.depth, PyData.depthAll]
  omega, fun x y => by
  have h1 := d.eqv x.1 y.1
  have h2 := e.eqv x.2 y.2
  simp only [PyData.eqv, PyData.eqvAll, Bool.and_eq_true, h1, h2, and_true]
  exact ⟨fun h => Prod.ext h.1 h.2, fun h => by rw [h]; exact ⟨rfl, rfl⟩⟩⟩
theorem DpR.shaped {r : Rep α} (d : DpR K r) (hn : d.n ≤ 64) {G : Hp} {v : V} {x : α} (h : r.rp G v x) : SeqAt.shaped (d.enc x) = true := by
  have := d.dep x
  show ((d.enc x).canLay0 && decide ((d.enc x).depth ≤ 64)) = true
  rw [Bool.and_eq_true]
  exact ⟨d.lay h, decide_eq_true (by omega)⟩
section
variable [DecidableEq α]
theorem DpR.eqd {r : Rep α} (d : DpR K r) (x y : α) : PyData.eqv (d.enc x) (d.enc y) = decide (x = y) := by
  rw [Bool.eq_iff_iff]
  simp only [decide_eq_true_eq]
  exact d.eqv x y
theorem ev_eqD {x y : α} (d : DpR K rα) (hn : d.n ≤ 64) (ha : Ev ta Γ c c1 (tv rα x)) (hb : Ev tb Γ c1 c2 (tv rα y)) : Ev (tOp (rEqD K) ta tb) Γ c c2 (tv rBl (decide (x = y))) :=
  ev_op ha hb fun G H v w hd h1 h2 Q q => ⟨d.enc x, d.enc y, dp_mono hd.ex _ _ (d.dp h1), dp_mono hd.ex _ _ (d.dp h2), d.shaped hn h1, d.shaped hn h2, by
    rw [d.eqd]; exact q _ G H (.refl hd) rfl⟩
theorem ev_neD {x y : α} (d : DpR K rα) (hn : d.n ≤ 64) (ha : Ev ta Γ c c1 (tv rα x)) (hb : Ev tb Γ c1 c2 (tv rα y)) : Ev (tOp (rNeD K) ta tb) Γ c c2 (tv rBl (!decide (x = y))) :=
  ev_op ha hb fun G H v w hd h1 h2 Q q => ⟨d.enc x, d.enc y, dp_mono hd.ex _ _ (d.dp h1), dp_mono hd.ex _ _ (d.dp h2), d.shaped hn h1, d.shaped hn h2, by
    rw [d.eqd]; exact q _ G H (.refl hd) rfl⟩
theorem any_eqv {r : Rep α} (d : DpR K r) (x : α) : ∀ xs : List α, ((xs.map d.enc).any fun z => PyData.eqv z (d.enc x)) = decide (x ∈ xs)
  | [] => by simp
  | y :: ys => by
    rw [List.map_cons, List.any_cons, any_eqv d x ys, d.eqd, Bool.eq_iff_iff]
    simp only [Bool.or_eq_true, decide_eq_true_eq, List.mem_cons]
    exact ⟨fun h => h.elim (fun h => .inl h.symm) .inr, fun h => h.elim (fun h => .inl h.symm) .inr⟩
theorem ev_inD {x : α} {ys : List α} (d : DpR K rα) (hn : d.n ≤ 63) (ha : Ev ta Γ c c1 (tv rα x)) (hb : Ev tb Γ c1 c2 (tv (rLst rα) ys)) : Ev (tOp (rInD K) ta tb) Γ c c2 (tv rBl (decide (x ∈ ys))) :=
  ev_op ha hb fun G H v w hd h1 h2 Q q => ⟨d.enc x, ys.map d.enc, dp_mono hd.ex _ _ (d.dp h1), dp_mono hd.ex _ _ ((dLst d).dp h2), d.shaped (by omega) h1, (dLst d).shaped (by show d.n + 1 ≤ 64; omega) h2, by
    rw [any_eqv]; exact q _ G H (.refl hd) rfl⟩
theorem ev_notInD {x : α} {ys : List α} (d : DpR K rα) (hn : d.n ≤ 63) (ha : Ev ta Γ c c1 (tv rα x)) (hb : Ev tb Γ c1 c2 (tv (rLst rα) ys)) : Ev (tOp (rNotInD K) ta tb) Γ c c2 (tv rBl (!decide (x ∈ ys))) :=
  ev_op ha hb fun G H v w hd h1 h2 Q q => ⟨d.enc x, ys.map d.enc, dp_mono hd.ex _ _ (d.dp h1), dp_mono hd.ex _ _ ((dLst d).dp h2), d.shaped (by omega) h1, (dLst d).shaped (by show d.n + 1 ≤ 64; omega) h2, by
    rw [any_eqv]; exact q _ G H (.refl hd) rfl⟩
/-- the first place -/
def idxO (xs : List α) (x : α) : Option Int := if x ∈ xs then some (xs.findIdx (fun y => decide (y = x)) : Nat) else none
theorem ev_idxD {x : α} {ys : List α} {i : Int} (d : DpR K rα) (hn : d.n ≤ 63) (ha : Ev ta Γ c c1 (tv (rLst rα) ys)) (hb : Ev tb Γ c1 c2 (tv rα x)) (hm : idxO ys x = some i) : Ev (tBM K "list" (rIndexD K) ta (tCons tb tNil)) Γ c c2 (tv rInt i) := fun σ G H e hd Q q =>
  ha σ G H e hd _ fun v G1 H1 a1 k1 => ⟨by
    obtain ⟨a, vs, h1, h2, h3, h4⟩ := k1
    subst h1
    exact .inl ⟨rfl, vs, .inl (.inl (a1.hld.ex _ _ h2))⟩, (ea_one hb) σ G1 H1 (e.mono a1.gg) a1.hld _ fun ws G2 H2 a2 k2 => by
    obtain ⟨w, ew, k3⟩ := vs1 k2
    subst ew
    have k1 := (tv (rLst rα) ys).mono a2.gg k1
    obtain ⟨a, vs, h1, h2, h3, h4⟩ := id k1
    unfold idxO at hm
    split at hm
    · rename_i hin
      cases hm
      have hlt : ys.findIdx (fun y => decide (y = x)) < ys.length := List.findIdx_lt_length_of_exists ⟨x, hin, by simp⟩
      have hp := List.findIdx_getElem (w := hlt)
      simp only [decide_eq_true_eq] at hp
      refine ⟨a, w, d.enc x, ys.map d.enc, ys.findIdx (fun y => decide (y = x)), d.enc x, h1, rfl, by rw [← h1]; exact dp_mono a2.hld.ex _ _ ((dLst d).dp k1), dp_mono a2.hld.ex _ _ (d.dp k3), (dLst d).shaped (by show d.n + 1 ≤ 64; omega) k1, d.shaped (by omega) k3, ?_, (d.eqv x x).mpr rfl, fun m z hmj hz => ?_, q _ G2 H2 (a1.trans a2) rfl⟩
      · rw [List.getElem?_map, List.getElem?_eq_getElem hlt, hp]; rfl
      · rw [List.getElem?_map, List.getElem?_eq_getElem (by omega)] at hz
        have ez : d.enc ys[m] = z := Option.some.inj hz
        rw [← ez, d.eqd]
        have := List.not_of_lt_findIdx hmj
        simpa using this
    · cases hm⟩
end
/-! in, of plain things -/
structure FlR (r : Rep α) where
  f : α → V
  rep : ∀ {G v x}, r.rp G v x → v = f x
  fl : ∀ x, flatV (f x) = true
  eqv : ∀ x y, eqV (f x) (f y) = true ↔ x = y
def fInt : FlR rInt := ⟨V.int, fun h => h, fun _ => rfl, fun x y => by simp [eqV]⟩
def fBl : FlR rBl := ⟨V.bl, fun h => h, fun _ => rfl, fun x y => by simp [eqV]⟩
def fStr : FlR rStr := ⟨fun x => V.str (sOf x), fun h => h.1, fun _ => rfl, fun x y => by simp only [eqV, beq_iff_eq]; exact ⟨sOf_inj, fun h => by rw [h]⟩⟩
section
variable [DecidableEq α]
theorem inV_map (d : FlR rα) (x : α) : ∀ xs : List α, inV (d.f x) (xs.map d.f) = decide (x ∈ xs)
  | [] => by simp [inV]
  | y :: ys => by
    have ih := inV_map d x ys
    unfold inV at ih ⊢
    rw [List.map_cons, List.any_cons, ih, Bool.eq_iff_iff]
    simp only [Bool.or_eq_true, decide_eq_true_eq, List.mem_cons, d.eqv]
    exact ⟨fun h => h.elim (fun h => .inl h.symm) .inr, fun h => h.elim (fun h => .inl h.symm) .inr⟩
theorem all_flat (d : FlR rα) : ∀ xs : List α, (xs.map d.f).all flatV = true
  | [] => rfl
  | y :: ys => by rw [List.map_cons, List.all_cons, d.fl, all_flat d ys]; rfl
theorem FlR.all (d : FlR rα) {G : Hp} {vs : List V} {xs : List α} (h : All2 rα G vs xs) : vs = xs.map d.f := All2.map (fun _ _ _ k => d.rep k) h
theorem rv_inL (d : FlR rα) {neg : Bool} {x : α} {ys : List α} : RV2 (rIn K neg) c (tv rα x) (tv (rLst rα) ys) c (tv rBl (if neg = true then !decide (x ∈ ys) else decide (x ∈ ys))) := fun G H v w hd h1 ⟨a, vs, k1, k2, k3, k4⟩ Q q => by
  have e1 := d.rep h1
  have e2 := d.all k3
  subst k1 e1 e2
  refine ⟨a, _, rfl, .inl (.inl (.inl (hd.ex _ _ k2))), d.fl x, all_flat d ys, ?_⟩
  rw [inV_map]
  exact q _ G H (.refl hd) rfl
theorem rv_inT (d : FlR rα) {neg : Bool} {x : α} {ys : List α} : RV2 (rIn K neg) c (tv rα x) (tv (rTup K rα) ys) c (tv rBl (if neg = true then !decide (x ∈ ys) else decide (x ∈ ys))) := fun G H v w hd h1 ⟨a, vs, k1, k2, k3, k4⟩ Q q => by
  have e1 := d.rep h1
  have e2 := d.all k3
  subst k1 e1 e2
  refine ⟨a, _, rfl, .inr (ex_t hd.ex k2), d.fl x, all_flat d ys, ?_⟩
  rw [inV_map]
  exact q _ G H (.refl hd) rfl
theorem rv_inO (d : FlR rα) {neg : Bool} {x : α} {ys : List α} {l : Addr} (hl : (l, tcL rα ys) ∈ c) : RV2 (rIn K neg) c (tv rα x) (tv rAddr l) c (tv rBl (if neg = true then !decide (x ∈ ys) else decide (x ∈ ys))) := fun G H v w hd h1 h2 Q q => by
  obtain ⟨_, o, ho, vs, rfl, k3, k4⟩ := hd.own _ hl
  have e1 := d.rep h1
  have e2 := d.all k3
  have h2 : w = .ref l := h2
  subst h2 e1 e2
  refine ⟨l, _, rfl, .inl (.inl (.inl ho)), d.fl x, all_flat d ys, ?_⟩
  rw [inV_map]
  exact q _ G H (.refl hd) rfl
theorem ev_inL (d : FlR rα) {x : α} {ys : List α} (ha : Ev ta Γ c c1 (tv rα x)) (hb : Ev tb Γ c1 c2 (tv (rLst rα) ys)) : Ev (tOp (rIn K false) ta tb) Γ c c2 (tv rBl (decide (x ∈ ys))) := ev_op ha hb (rv_inL d)
theorem ev_niL (d : FlR rα) {x : α} {ys : List α} (ha : Ev ta Γ c c1 (tv rα x)) (hb : Ev tb Γ c1 c2 (tv (rLst rα) ys)) : Ev (tOp (rIn K true) ta tb) Γ c c2 (tv rBl (!decide (x ∈ ys))) := ev_op ha hb (rv_inL d)
theorem ev_inT (d : FlR rα) {x : α} {ys : List α} (ha : Ev ta Γ c c1 (tv rα x)) (hb : Ev tb Γ c1 c2 (tv (rTup K rα) ys)) : Ev (tOp (rIn K false) ta tb) Γ c c2 (tv rBl (decide (x ∈ ys))) := ev_op ha hb (rv_inT d)
theorem ev_niT (d : FlR rα) {x : α} {ys : List α} (ha : Ev ta Γ c c1 (tv rα x)) (hb : Ev tb Γ c1 c2 (tv (rTup K rα) ys)) : Ev (tOp (rIn K true) ta tb) Γ c c2 (tv rBl (!decide (x ∈ ys))) := ev_op ha hb (rv_inT d)
theorem ev_inO (d : FlR rα) {x : α} {ys : List α} {l : Addr} (ha : Ev ta Γ c c1 (tv rα x)) (hb : Ev tb Γ c1 c2 (tv rAddr l)) (hl : (l, tcL rα ys) ∈ c2) : Ev (tOp (rIn K false) ta tb) Γ c c2 (tv rBl (decide (x ∈ ys))) := ev_op ha hb (rv_inO d hl)
theorem ev_niO (d : FlR rα) {x : α} {ys : List α} {l : Addr} (ha : Ev ta Γ c c1 (tv rα x)) (hb : Ev tb Γ c1 c2 (tv rAddr l)) (hl : (l, tcL rα ys) ∈ c2) : Ev (tOp (rIn K true) ta tb) Γ c c2 (tv rBl (!decide (x ∈ ys))) := ev_op ha hb (rv_inO d hl)
end
/-! texts -/
def sidxO (x y : List Nat) : Option Int := match Builtin.Str.occurrences (sOf x) (sOf y) 0 (sOf x).length 1 with
  | i :: _ => some (i : Nat)
  | [] => none
abbrev rSidx : V → List V → Hp → VK → Prop := fun x xs H Q => ∃ a b i rest, x = .str a ∧ xs = [.str b] ∧ Builtin.Str.occurrences a b 0 a.length 1 = i :: rest ∧ Q (.int (i : Nat)) H
theorem ev_sidx {x y : List Nat} {i : Int} (ha : Ev ta Γ c c1 (tv rStr x)) (hb : Ev tb Γ c1 c2 (tv rStr y)) (hm : sidxO x y = some i) : Ev (tM1 rSidx ta tb) Γ c c2 (tv rInt i) := fun σ G H e hd Q q =>
  ha σ G H e hd _ fun v G1 H1 a1 k1 => ⟨⟨_, k1.1⟩, hb σ G1 H1 (e.mono a1.gg) a1.hld _ fun w G2 H2 a2 k2 => by
    unfold sidxO at hm
    split at hm
    · rename_i j rest ho
      cases hm
      exact ⟨sOf x, sOf y, j, rest, k1.1, by rw [k2.1], ho, q _ G2 H2 (a1.trans a2) rfl⟩
    · cases hm⟩
def joinO (s : List Nat) (xs : List (List Nat)) : Option (List Nat) := if (xs.map (·.length)).sum + xs.length * s.length ≤ 16777216 ∧ SOk (TL.joinL s xs) then some (TL.joinL s xs) else none
abbrev rJoinC (K : PySem.W.Frag) : V → List V → Hp → VK → Prop := fun x xs H Q => ∃ a p, ∃ ys : List Str, x = .str a ∧ xs = [.ref p] ∧ (SqL K H p (ys.map V.str) ∨ SqT K H p (ys.map V.str)) ∧ (ys.map (·.length)).sum + ys.length * a.length ≤ 16777216 ∧ Q (.str (Txt.join a ys)) H
theorem all2_str : ∀ {G : Hp} {vs : List V} {xs : List (List Nat)}, All2 rStr G vs xs → vs = (xs.map sOf).map V.str := fun {G vs xs} h => by
  rw [List.map_map]
  exact All2.map (r := rStr) (f := V.str ∘ sOf) (fun _ _ _ k => (show _ ∧ _ from k).1) h
theorem join_sOf (s : List Nat) (xs : List (List Nat)) : Txt.join (sOf s) (xs.map sOf) = sOf (TL.joinL s xs) := by
  refine TL.ext_tl ?_
  rw [TL.join_eq, TL.tl_join]
  show TL.joinL (sOf s).cps.toList _ = (sOf _).cps.toList
  rw [sOf_cps, sOf_cps, List.map_map]
  congr 1
  exact (List.map_congr_left fun x _ => sOf_cps x).trans (List.map_id _)
theorem ev_join {s y : List Nat} {xs : List (List Nat)} (ha : Ev ta Γ c c1 (tv rStr s)) (hb : Ev tb Γ c1 c2 (tv (rLst rStr) xs)) (hm : joinO s xs = some y) : Ev (tM1 (rJoinC K) ta tb) Γ c c2 (tv rStr y) := fun σ G H e hd Q q =>
  ha σ G H e hd _ fun v G1 H1 a1 k1 => ⟨⟨_, k1.1⟩, hb σ G1 H1 (e.mono a1.gg) a1.hld _ fun w G2 H2 a2 ⟨a, vs, h1, h2, h3, h4⟩ => by
    unfold joinO at hm
    split at hm
    · rename_i hc
      cases hm
      rw [all2_str h3] at h2
      refine ⟨sOf s, a, xs.map sOf, k1.1, by rw [h1], .inl (.inl (.inl (a2.hld.ex _ _ h2))), ?_, ?_⟩
      · rw [List.map_map, List.length_map, sOf_len]
        have e2 : (fun x : Str => x.length) ∘ sOf = (fun x : List Nat => x.length) := by
          funext x; exact sOf_len x
        rw [e2]; exact hc.1
      · rw [join_sOf]
        exact q _ G2 H2 (a1.trans a2) ⟨rfl, hc.2⟩
    · cases hm⟩
end
end TW
namespace TW
open PySem L2

/-! ### cells by their places -/
theorem split_at {α : Type} {l : List α} {n : Nat} {x : α} (h : l[n]? = some x) : l = l.take n ++ x :: l.drop (n + 1) := by
  obtain ⟨hn, e⟩ := List.getElem?_eq_some_iff.mp h
  rw [← e, List.getElem_cons_drop, List.take_append_drop]
theorem set_at {α : Type} {l : List α} {n : Nat} {x : α} (h : l[n]? = some x) (y : α) : l.set n y = l.take n ++ y :: l.drop (n + 1) := by
  obtain ⟨hn, e⟩ := List.getElem?_eq_some_iff.mp h
  rw [List.set_eq_take_append_cons_drop, if_pos hn]
theorem erase_at {α : Type} {l : List α} {n : Nat} {x : α} (h : l[n]? = some x) : l.eraseIdx n = l.take n ++ l.drop (n + 1) := List.eraseIdx_eq_take_drop_succ _ _
theorem Aft.wrN {G : Hp} {c : Cells} {H : Hp} {p : Addr} {o : HO} {t t' : TC} {n : Nat} (hn : c[n]? = some (p, t)) (h : Hld G c H) (k : t'.ok G o) : Aft G c H G (c.set n (p, t')) (upd H p o) := by
  rw [set_at hn]
  have e := split_at hn
  have h' : Hld G (c.take n ++ (p, t) :: c.drop (n + 1)) H := by rw [← e]; exact h
  have r := Aft.wr h' k
  rw [← e] at r
  exact r
theorem Aft.frzN {G : Hp} {c : Cells} {H : Hp} {p : Addr} {t : TC} {n : Nat} (hn : c[n]? = some (p, t)) (h : Hld G c H) : ∃ o G', G' = upd G p o ∧ t.ok G o ∧ G p = none ∧ Aft G c H G' (c.eraseIdx n) H := by
  rw [erase_at hn]
  have e := split_at hn
  have h' : Hld G (c.take n ++ (p, t) :: c.drop (n + 1)) H := by rw [← e]; exact h
  obtain ⟨o, G', h1, h2, h3, h4⟩ := Aft.freeze h'
  rw [← e] at h4
  exact ⟨o, G', h1, h2, h3, h4⟩
theorem Aft.newN {G : Hp} {c : Cells} {H : Hp} {p : Addr} {o : HO} {t : TC} (h : Hld G c H) (e : H p = none) (k : t.ok G o) : Aft G c H G (c ++ [(p, t)]) (upd H p o) := by
  have a := Aft.own1 h e k
  refine a.sub ?_ fun q hq => ?_
  · have nd := a.hld.nd
    have e1 : ads (c ++ [(p, t)]) = ads c ++ [p] := by simp [ads]
    rw [e1]
    have nd' : p ∉ ads c ∧ (ads c).Nodup := List.nodup_cons.mp nd
    exact List.nodup_append.mpr ⟨nd'.2, by simp, fun x hx y hy z => nd'.1 (by
      have : y = p := by simpa using hy
      rw [← this, ← z]; exact hx)⟩
  · rcases List.mem_append.mp hq with z | z
    · exact List.mem_cons_of_mem _ z
    · have : q = (p, t) := by simpa using z
      rw [this]; exact List.mem_cons_self
theorem Hld.cell {G : Hp} {c : Cells} {H : Hp} {p : Addr} {t : TC} {n : Nat} (h : Hld G c H) (hn : c[n]? = some (p, t)) : G p = none ∧ ∃ o, H p = some o ∧ t.ok G o := h.own _ (List.mem_of_getElem? hn)

/-! ### ends -/
structure Bs where
  G : Hp
  c : Cells
  H : Hp
def Post (B : Bs) (Γ : TEnv) (c : Cells) : L2.St → Hp → Prop := fun σ H => ∃ G, Aft B.G B.c B.H G c H ∧ EnvOk G Γ σ
abbrev Im (B : Bs) (Γ : TEnv) (c : Cells) (N : L2.St → Hp → Prop) : Prop := ∀ σ H, Post B Γ c σ H → N σ H
abbrev Sv (t : TS) (D : Ends) (B : Bs) (Γ : TEnv) (c : Cells) : Prop := Im B Γ c (t D)
def RT (rt : VK) (B : Bs) (c : Cells) (P : TV) : Prop := ∀ v G H, Aft B.G B.c B.H G c H → P.ok G v → rt v H
/-- what may come in several ways -/
def EvX (te : TE) (Γ : TEnv) (c : Cells) (W : Cells → TV → Prop) : Prop := ∀ σ G H, EnvOk G Γ σ → Hld G c H → ∀ Q : VK, (∀ c' P v G' H', W c' P → Aft G c H G' c' H' → P.ok G' v → Q v H') → te σ H Q
def WN (c : Cells) (t : TC) : Cells → TV → Prop := fun c' P => ∃ l, c' = c ++ [(l, t)] ∧ P = tv rAddr l
abbrev EvN (te : TE) (Γ : TEnv) (c c1 : Cells) (t : TC) : Prop := EvX te Γ c (WN c1 t)
section
variable {Γ Γ' Γ'' : TEnv} {c c1 c2 c3 : Cells} {P P' P2 R : TV} {ta tb td te : TE} {t u w : TS} {tt : TT} {K : PySem.W.Frag} {α β : Type} {rα : Rep α} {D : Ends} {B : Bs}
theorem Post.refl {G H : Hp} {σ : L2.St} (h : Hld G c H) (e : EnvOk G Γ σ) : Post ⟨G, c, H⟩ Γ c σ H := ⟨G, Aft.refl h, e⟩
theorem im_le {N : L2.St → Hp → Prop} (l : Le Γ Γ') (k : Im B Γ' c N) : Im B Γ c N := fun σ H ⟨G, a, e⟩ => k σ H ⟨G, a, e.le l⟩
theorem im_sub {N : L2.St → Hp → Prop} (s : c1.Sublist c) (k : Im B Γ c1 N) : Im B Γ c N := fun σ H ⟨G, a, e⟩ => k σ H ⟨G, a.drop s, e⟩
theorem RT.rebase {rt : VK} {G H : Hp} (k : RT rt B c P) (a : Aft B.G B.c B.H G c1 H) : RT rt ⟨G, c1, H⟩ c P := fun v G' H' a' p => k v G' H' (a.trans a') p
theorem RT.sub {rt : VK} (s : c1.Sublist c) (k : RT rt B c1 P) : RT rt B c P := fun v G H a p => k v G H (a.drop s) p
theorem im_rebase {N : L2.St → Hp → Prop} {G H : Hp} (k : Im B Γ c N) (a : Aft B.G B.c B.H G c1 H) : Im ⟨G, c1, H⟩ Γ c N := fun σ H' ⟨G', a', e⟩ => k σ H' ⟨G', a.trans a', e⟩
/-! frames of what is evaluated -/
theorem Ev.fr (h : Ev te Γ c c1 P) : Ev te Γ (c ++ c2) (c1 ++ c2) P := fun σ G H e hd Q q => h σ G H e hd.left Q fun v G' H' a k => q v G' H' (Aft.frame hd a) k
theorem EvT.fr {b : Bool} (h : EvT tt Γ c c1 b) : EvT tt Γ (c ++ c2) (c1 ++ c2) b := fun σ G H e hd Q q => h σ G H e hd.left Q fun G' H' a => q G' H' (Aft.frame hd a)
theorem Ev.sub (h : Ev te Γ c c1 P) (s : c2.Sublist c1) : Ev te Γ c c2 P := fun σ G H e hd Q q => h σ G H e hd Q fun v G' H' a k => q v G' H' (a.drop s) k
theorem Ev.le (h : Ev te Γ' c c1 P) (l : Le Γ Γ') : Ev te Γ c c1 P := fun σ G H e hd Q q => h σ G H (e.le l) hd Q q
/-- an owned list, frozen as it is handed on -/
theorem ev_frz {xs : List α} (h : EvN te Γ c c1 (tcL rα xs)) : Ev te Γ c c1 (tv (rLst rα) xs) := fun σ G H e hd Q q => h σ G H e hd Q fun c' P v G' H' ⟨l, e1, e2⟩ a k => by
  subst e1 e2
  have k : v = .ref l := k
  subst k
  have hn : (c1 ++ [(l, tcL rα xs)])[c1.length]? = some (l, tcL rα xs) := by simp
  obtain ⟨o, G2, g, ⟨vs, h1, h2, h3⟩, h4, a2⟩ := Aft.frzN hn a.hld
  have e3 : (c1 ++ [(l, tcL rα xs)]).eraseIdx c1.length = c1 := by
    rw [List.eraseIdx_append_of_length_le (Nat.le_refl _)]; simp
  rw [e3] at a2
  refine q _ _ _ (a.trans a2) ⟨l, vs, rfl, ?_, h2.mono a2.gg, h3⟩
  rw [g, upd_same, h1]
theorem ev_frzD {κ : Type} {kf : κ → Key} {xs : List (κ × α)} (h : EvN te Γ c c1 (tcD kf rα xs)) : Ev te Γ c c1 (tv (rDic kf rα) xs) := fun σ G H e hd Q q => h σ G H e hd Q fun c' P v G' H' ⟨l, e1, e2⟩ a k => by
  subst e1 e2
  have k : v = .ref l := k
  subst k
  have hn : (c1 ++ [(l, tcD kf rα xs)])[c1.length]? = some (l, tcD kf rα xs) := by simp
  obtain ⟨o, G2, g, ⟨vs, h1, h2, h3⟩, h4, a2⟩ := Aft.frzN hn a.hld
  have e3 : (c1 ++ [(l, tcD kf rα xs)]).eraseIdx c1.length = c1 := by
    rw [List.eraseIdx_append_of_length_le (Nat.le_refl _)]; simp
  rw [e3] at a2
  refine q _ _ _ (a.trans a2) ⟨l, vs, rfl, ?_, h2.mono a2.gg, h3⟩
  rw [g, upd_same, h1]
/-- a name's owned list is frozen and given -/
theorem ev_varF {i n : Nat} {l : Addr} {xs : List α} (h : Γ[i]? = some (some (tv rAddr l))) (hn : c[n]? = some (l, tcL rα xs)) : Ev (tVar i) Γ c (c.eraseIdx n) (tv (rLst rα) xs) := fun σ G H e hd Q q => by
  obtain ⟨v, h1, h2⟩ := e.get h
  have h2 : v = .ref l := h2
  subst h2
  obtain ⟨o, G2, g, ⟨vs, k1, k2, k3⟩, h4, a2⟩ := Aft.frzN hn hd
  refine ⟨_, h1, q _ _ _ a2 ⟨l, vs, rfl, ?_, k2.mono a2.gg, k3⟩⟩
  rw [g, upd_same, k1]
theorem ev_varFD {κ : Type} {kf : κ → Key} {i n : Nat} {l : Addr} {xs : List (κ × α)} (h : Γ[i]? = some (some (tv rAddr l))) (hn : c[n]? = some (l, tcD kf rα xs)) : Ev (tVar i) Γ c (c.eraseIdx n) (tv (rDic kf rα) xs) := fun σ G H e hd Q q => by
  obtain ⟨v, h1, h2⟩ := e.get h
  have h2 : v = .ref l := h2
  subst h2
  obtain ⟨o, G2, g, ⟨vs, k1, k2, k3⟩, h4, a2⟩ := Aft.frzN hn hd
  refine ⟨_, h1, q _ _ _ a2 ⟨l, vs, rfl, ?_, k2.mono a2.gg, k3⟩⟩
  rw [g, upd_same, k1]
/-! new owned lists -/
theorem EvX.le {W : Cells → TV → Prop} (h : EvX te Γ' c W) (l : Le Γ Γ') : EvX te Γ c W := fun σ G H e hd Q q => h σ G H (e.le l) hd Q q
theorem en_lst {tl : TA} {xs : List α} (ha : EvA tl Γ c c1 (xs.map (tv rα))) (hn : xs.length ≤ sizeLine) : EvN (tLst tl) Γ c c1 (tcL rα xs) := fun σ G H e hd Q q =>
  ha σ G H e hd _ fun vs G1 H1 a1 k1 => ⟨by rw [k1.len, List.length_map]; exact hn, fun p hp => by
    have a2 := Aft.newN (t := tcL rα xs) (o := .lst vs) a1.hld hp ⟨vs, rfl, all2_of k1, hn⟩
    exact q _ _ _ _ _ ⟨p, rfl, rfl⟩ (a1.trans a2) rfl⟩
theorem en_nil : EvN (tLst tNil) Γ c c (tcL rα []) := en_lst (xs := []) ea_nil (Nat.zero_le _)
theorem en_listL {xs : List α} (h : Ev te Γ c c1 (tv (rLst rα) xs)) : EvN (tCB (rListC K) (tCons te tNil)) Γ c c1 (tcL rα xs) := fun σ G H e hd Q q =>
  ea_one h σ G H e hd _ fun vs G1 H1 a1 k1 => by
    obtain ⟨v, e1, a, us, h1, h2, h3, h4⟩ := vs1 k1
    subst e1 h1
    refine ⟨a, us, rfl, .inl (.inl (.inl (a1.hld.ex _ _ h2))), fun l hl => ?_⟩
    have a2 := Aft.newN (t := tcL rα xs) (o := .lst us) a1.hld hl ⟨us, rfl, h3, h4⟩
    exact q _ _ _ _ _ ⟨l, rfl, rfl⟩ (a1.trans a2) rfl
theorem en_listT {xs : List α} (h : Ev te Γ c c1 (tv (rTup K rα) xs)) : EvN (tCB (rListC K) (tCons te tNil)) Γ c c1 (tcL rα xs) := fun σ G H e hd Q q =>
  ea_one h σ G H e hd _ fun vs G1 H1 a1 k1 => by
    obtain ⟨v, e1, a, us, h1, h2, h3, h4⟩ := vs1 k1
    subst e1 h1
    refine ⟨a, us, rfl, .inr (ex_t a1.hld.ex h2), fun l hl => ?_⟩
    have a2 := Aft.newN (t := tcL rα xs) (o := .lst us) a1.hld hl ⟨us, rfl, h3, h4⟩
    exact q _ _ _ _ _ ⟨l, rfl, rfl⟩ (a1.trans a2) rfl
theorem en_catL {xs ys zs : List α} (ha : Ev ta Γ c c1 (tv (rLst rα) xs)) (hb : Ev tb Γ c1 c2 (tv (rLst rα) ys)) (h : appO xs ys = some zs) : EvN (tOp rCat ta tb) Γ c c2 (tcL rα zs) := fun σ G H e hd Q q =>
  ha σ G H e hd _ fun v G1 H1 a1 k1 => hb σ G1 H1 (e.mono a1.gg) a1.hld _ fun w G2 H2 a2 ⟨b, ws, k1', k2, k3, k4⟩ => by
    obtain ⟨hl, rfl⟩ := appO_some h
    obtain ⟨a, us, h1, h2, h3, h4⟩ := (tv (rLst rα) xs).mono a2.gg k1
    refine ⟨a, b, us, ws, h1, k1', a2.hld.ex _ _ h2, a2.hld.ex _ _ k2, by rw [h3.len, k3.len]; exact hl, fun p hp => ?_⟩
    have a3 := Aft.newN (t := tcL rα (xs ++ ys)) (o := .lst (us ++ ws)) a2.hld hp ⟨_, rfl, h3.app k3, by rw [List.length_append]; exact hl⟩
    exact q _ _ _ _ _ ⟨p, rfl, rfl⟩ ((a1.trans a2).trans a3) rfl
theorem en_dK {κ : Type} {kf : κ → Key} : EvN tDNewK Γ c c (tcD kf rα []) := fun σ G H e hd Q q p hp =>
  q _ _ _ _ _ ⟨p, rfl, rfl⟩ (Aft.newN (t := tcD kf rα []) (o := .dK []) hd hp ⟨[], rfl, trivial, Nat.zero_le _⟩) rfl
theorem en_dT {κ : Type} {kf : κ → List Key} : EvN tDNewT Γ c c (tcDT kf rα []) := fun σ G H e hd Q q p hp =>
  q _ _ _ _ _ ⟨p, rfl, rfl⟩ (Aft.newN (t := tcDT kf rα []) (o := .dT []) hd hp ⟨[], rfl, trivial, Nat.zero_le _⟩) rfl

/-! ### statements -/
theorem sv_seq (h : Sv t { D with nx := u D } B Γ c) : Sv (tSeq t u) D B Γ c := h
theorem sv_next (k : Im B Γ c D.nx) : Sv tNext D B Γ c := k
theorem sv_brk (k : Im B Γ c D.bk) : Sv tBreak D B Γ c := k
theorem sv_cont (k : Im B Γ c D.ct) : Sv tCont D B Γ c := k
theorem sv_never (h : False) : Sv t D B Γ c := h.elim
theorem sv_asg {i : Nat} (h : Ev te Γ c c1 P) (k : Im B (Γ.set i (some P)) c1 D.nx) : Sv (tAsg te (gName i)) D B Γ c := fun σ H ⟨G, a, e⟩ =>
  h σ G H e a.hld _ fun v G1 H1 a1 k1 => k _ _ ⟨G1, a.trans a1, (e.mono a1.gg).set k1 i⟩
theorem sv_asgX {i : Nat} {W : Cells → TV → Prop} (h : EvX te Γ c W) (k : ∀ c' P, W c' P → Im B (Γ.set i (some P)) c' D.nx) : Sv (tAsg te (gName i)) D B Γ c := fun σ H ⟨G, a, e⟩ =>
  h σ G H e a.hld _ fun c' P v G1 H1 w a1 k1 => k c' P w _ _ ⟨G1, a.trans a1, (e.mono a1.gg).set k1 i⟩
theorem sv_asgN {i : Nat} {x : TC} (h : EvN te Γ c c1 x) (k : ∀ l, Im B (Γ.set i (some (tv rAddr l))) (c1 ++ [(l, x)]) D.nx) : Sv (tAsg te (gName i)) D B Γ c :=
  sv_asgX h fun c' P ⟨l, e1, e2⟩ => by subst e1 e2; exact k l
/-- a target and what it names -/
def Pt (g : TG) (P : TV) (Γ Γ' : TEnv) (vs : List Nat) : Prop := ∀ v σ G H, P.ok G v → EnvOk G Γ σ → Ex G H → ∀ Q : L2.St → Hp → Prop, (∀ σ', EnvOk G Γ' σ' → wipe σ' vs = wipe σ vs → Q σ' H) → g v σ H Q
theorem sv_asgP {g : TG} {vs : List Nat} (h : Ev te Γ c c1 P) (hp : Pt g P Γ Γ' vs) (k : Im B Γ' c1 D.nx) : Sv (tAsg te g) D B Γ c := fun σ H ⟨G, a, e⟩ =>
  h σ G H e a.hld _ fun v G1 H1 a1 k1 => hp v σ G1 H1 k1 (e.mono a1.gg) a1.hld.ex _ fun σ' e' _ => k _ _ ⟨G1, a.trans a1, e'⟩
theorem sv_if {b : Bool} (h : EvT tt Γ c c1 b) (h1 : b = true → Sv t D B Γ c1) (h2 : b = false → Sv u D B Γ c1) : Sv (tIfS tt t u) D B Γ c := fun σ H ⟨G, a, e⟩ =>
  h σ G H e a.hld _ fun G1 H1 a1 => by
    cases b with
    | true => rw [if_pos rfl]; exact h1 rfl _ _ ⟨G1, a.trans a1, e.mono a1.gg⟩
    | false => rw [if_neg Bool.false_ne_true]; exact h2 rfl _ _ ⟨G1, a.trans a1, e.mono a1.gg⟩
theorem sv_ret (h : Ev te Γ c c1 P) (k : RT D.rt B c1 P) : Sv (tRet te) D B Γ c := fun σ H ⟨G, a, e⟩ =>
  h σ G H e a.hld _ fun v G1 H1 a1 k1 => k v G1 H1 (a.trans a1) k1
theorem sv_retN (k : RT D.rt B c (tv rNon ())) : Sv tRetN D B Γ c := fun σ H ⟨G, a, e⟩ => k _ G H a rfl
theorem sv_drop (h : Ev te Γ c c1 P) (k : Im B Γ c1 D.nx) : Sv (tDrop te) D B Γ c := fun σ H ⟨G, a, e⟩ =>
  h σ G H e a.hld _ fun v G1 H1 a1 k1 => k _ _ ⟨G1, a.trans a1, e.mono a1.gg⟩
theorem sv_dropX {W : Cells → TV → Prop} (h : EvX te Γ c W) (k : ∀ c' P, W c' P → Im B Γ c' D.nx) : Sv (tDrop te) D B Γ c := fun σ H ⟨G, a, e⟩ =>
  h σ G H e a.hld _ fun c' P v G1 H1 w a1 k1 => k c' P w _ _ ⟨G1, a.trans a1, e.mono a1.gg⟩
theorem sv_augI {i : Nat} {f : Int → Int → Int} {x y : Int} (hx : Γ[i]? = some (some (tv rInt x))) (h : Ev te Γ c c1 (tv rInt y)) (k : Im B (Γ.set i (some (tv rInt (f x y)))) c1 D.nx) : Sv (tAug i te (ipI f)) D B Γ c := fun σ H ⟨G, a, e⟩ => by
  obtain ⟨v, h1, h2⟩ := e.get hx
  have h2 : v = .int x := h2
  subst h2
  exact ⟨_, h1, h σ G H e a.hld _ fun w G1 H1 a1 k1 => ⟨x, y, rfl, k1, k _ _ ⟨G1, a.trans a1, EnvOk.set (show (tv rInt (f x y)).ok G1 _ from rfl) i (e.mono a1.gg)⟩⟩⟩
def ipS : TIp := fun x y H Q => ∃ i j, x = .str i ∧ y = .str j ∧ i.length + j.length ≤ sizeLine ∧ Q (.str (i ++ j)) H
theorem ip_addS {X : Cx} : PIp X .Add ipS := fun pins s σ H x y v u Q I rx ry h => iop_add_str pins s σ H x y v u Q I rx ry h
theorem sv_augS {i : Nat} {x y z : List Nat} (hx : Γ[i]? = some (some (tv rStr x))) (h : Ev te Γ c c1 (tv rStr y)) (hm : catO x y = some z) (k : Im B (Γ.set i (some (tv rStr z))) c1 D.nx) : Sv (tAug i te ipS) D B Γ c := fun σ H ⟨G, a, e⟩ => by
  obtain ⟨v, h1, h2⟩ := e.get hx
  obtain ⟨hl, rfl⟩ := catO_some hm
  refine ⟨_, h1, h σ G H e a.hld _ fun w G1 H1 a1 k1 => ⟨_, _, h2.1, k1.1, by rw [sOf_len, sOf_len]; exact hl, ?_⟩⟩
  rw [sOf_app]
  exact k _ _ ⟨G1, a.trans a1, EnvOk.set (show (tv rStr (x ++ y)).ok G1 _ from ⟨rfl, by rw [List.length_append]; exact hl, by rw [List.all_append, h2.2.2, k1.2.2]; rfl⟩) i (e.mono a1.gg)⟩
theorem sv_par {i j : Nat} (h1 : Ev ta Γ c c1 P) (h2 : Ev tb Γ c1 c2 P') (k : Im B ((Γ.set i (some P)).set j (some P')) c2 D.nx) : Sv (tPar i j (tCons ta (tCons tb tNil))) D B Γ c := fun σ H ⟨G, a, e⟩ =>
  ea_two h1 h2 σ G H e a.hld _ fun vs G1 H1 a1 k1 => by
    obtain ⟨v, w, ew, q1, q2⟩ := vs2 k1
    subst ew
    exact ⟨v, w, rfl, k _ _ ⟨G1, a.trans a1, ((e.mono a1.gg).set q1 i).set q2 j⟩⟩
/-- a name's owned list is frozen ahead of a statement -/
theorem sv_frz {N : L2.St → Hp → Prop} {i n : Nat} {l : Addr} {xs : List α} (h : Γ[i]? = some (some (tv rAddr l))) (hn : c[n]? = some (l, tcL rα xs)) (k : Im B (Γ.set i (some (tv (rLst rα) xs))) (c.eraseIdx n) N) : Im B Γ c N := fun σ H ⟨G, a, e⟩ => by
  obtain ⟨v, h1, h2⟩ := e.get h
  have h2 : v = .ref l := h2
  subst h2
  obtain ⟨o, G2, g, ⟨vs, k1, k2, k3⟩, h4, a2⟩ := Aft.frzN hn a.hld
  have e2 := (e.mono a2.gg).set (P := tv (rLst rα) xs) (v := .ref l) ⟨l, vs, rfl, by rw [g, upd_same, k1], k2.mono a2.gg, k3⟩ i
  have e3 : σ.set i (some (.ref l)) = σ := by
    obtain ⟨hi, e4⟩ := List.getElem?_eq_some_iff.mp h1
    rw [← e4]; exact List.set_getElem_self hi
  rw [e3] at e2
  exact k _ _ ⟨G2, a.trans a2, e2⟩
theorem sv_frzD {N : L2.St → Hp → Prop} {κ : Type} {kf : κ → Key} {i n : Nat} {l : Addr} {xs : List (κ × α)} (h : Γ[i]? = some (some (tv rAddr l))) (hn : c[n]? = some (l, tcD kf rα xs)) (k : Im B (Γ.set i (some (tv (rDic kf rα) xs))) (c.eraseIdx n) N) : Im B Γ c N := fun σ H ⟨G, a, e⟩ => by
  obtain ⟨v, h1, h2⟩ := e.get h
  have h2 : v = .ref l := h2
  subst h2
  obtain ⟨o, G2, g, ⟨vs, k1, k2, k3⟩, h4, a2⟩ := Aft.frzN hn a.hld
  have e2 := (e.mono a2.gg).set (P := tv (rDic kf rα) xs) (v := .ref l) ⟨l, vs, rfl, by rw [g, upd_same, k1], k2.mono a2.gg, k3⟩ i
  have e3 : σ.set i (some (.ref l)) = σ := by
    obtain ⟨hi, e4⟩ := List.getElem?_eq_some_iff.mp h1
    rw [← e4]; exact List.set_getElem_self hi
  rw [e3] at e2
  exact k _ _ ⟨G2, a.trans a2, e2⟩
/-! ### targets -/
theorem wipe_set_self (σ : L2.St) (i : Nat) (x : Option V) : ∀ vs : List Nat, i ∈ vs → wipe (σ.set i x) vs = wipe σ vs
  | [], h => by cases h
  | v :: vs, h => by
    unfold wipe
    by_cases hv : i ∈ vs
    · rw [wipe_set_self σ i x vs hv]
    · have e : i = v := by
        rcases List.mem_cons.mp h with z | z
        · exact z
        · exact absurd z hv
      subst e
      have comm : ∀ (ws : List Nat) (τ : L2.St), i ∉ ws → wipe (τ.set i x) ws = (wipe τ ws).set i x := by
        intro ws
        induction ws with
        | nil => intro τ _; rfl
        | cons w ws ih =>
          intro τ hw
          unfold wipe
          rw [ih τ fun z => hw (List.mem_cons_of_mem _ z)]
          exact List.set_comm _ _ fun z => hw (by rw [z]; exact List.mem_cons_self)
      rw [comm vs σ hv, List.set_set]
theorem pt_name {i : Nat} {vs : List Nat} (hi : i ∈ vs) : Pt (gName i) P Γ (Γ.set i (some P)) vs := fun v σ G H k e _ Q q => q _ (e.set k i) (wipe_set_self σ i _ vs hi)
theorem pt_pair {α β : Type} {r : Rep α} {s : Rep β} {x : α × β} {g1 g2 : TG} {vs : List Nat} (h1 : Pt g1 (tv r x.1) Γ Γ' vs) (h2 : Pt g2 (tv s x.2) Γ' Γ'' vs) : Pt (gTup K 2 (gCons g1 (gCons g2 gNil))) (tv (rPair K r s) x) Γ Γ'' vs :=
  fun v σ G H ⟨a, u, w, k1, k2, k3, k4⟩ e ex Q q => ⟨a, [u, w], k1, ex_t ex k2, rfl, u, [w], rfl, h1 u σ G H k3 e ex _ fun σ1 e1 w1 => ⟨w, [], rfl, h2 w σ1 G H k4 e1 ex _ fun σ2 e2 w2 => ⟨rfl, q _ e2 (w2.trans w1)⟩⟩⟩
theorem pt_tri {α β γ : Type} {r : Rep α} {s : Rep β} {t : Rep γ} {x : α × β × γ} {Γ3 : TEnv} {g1 g2 g3 : TG} {vs : List Nat} (h1 : Pt g1 (tv r x.1) Γ Γ' vs) (h2 : Pt g2 (tv s x.2.1) Γ' Γ'' vs) (h3 : Pt g3 (tv t x.2.2) Γ'' Γ3 vs) :
    Pt (gTup K 3 (gCons g1 (gCons g2 (gCons g3 gNil)))) (tv (rTri K r s t) x) Γ Γ3 vs :=
  fun v σ G H ⟨a, u, w, z, k1, k2, k3, k4, k5⟩ e ex Q q => ⟨a, [u, w, z], k1, ex_t ex k2, rfl, u, [w, z], rfl, h1 u σ G H k3 e ex _ fun σ1 e1 w1 => ⟨w, [z], rfl, h2 w σ1 G H k4 e1 ex _ fun σ2 e2 w2 => ⟨z, [], rfl, h3 z σ2 G H k5 e2 ex _ fun σ3 e3 w3 => ⟨rfl, q _ e3 (w3.trans (w2.trans w1))⟩⟩⟩⟩
end
end TW
namespace TW
open PySem L2
section
variable {Γ Γ' Γ'' : TEnv} {c c1 c2 c3 : Cells} {P P' P2 R : TV} {ta tb td te : TE} {t u w : TS} {tt : TT} {K : PySem.W.Frag} {α β : Type} {rα : Rep α} {rβ : Rep β} {D : Ends} {B : Bs}
/-! ### owned lists -/
def pushO (xs : List α) (y : α) : Option (List α) := if xs.length < sizeLine then some (xs ++ [y]) else none
theorem pushO_some {xs zs : List α} {y : α} (h : pushO xs y = some zs) : xs.length < sizeLine ∧ zs = xs ++ [y] := by
  unfold pushO at h
  split at h
  · exact ⟨by assumption, (Option.some.inj h).symm⟩
  · cases h
theorem tyV_lst {H : Hp} {l : Addr} {vs : List V} (h : H l = some (.lst vs)) : tyV K "list" (.ref l) H := .inl ⟨rfl, vs, .inl (.inl h)⟩
theorem ev_app {n : Nat} {l : Addr} {xs xs1 zs : List α} {y : α} (ho : Ev ta Γ c c1 (tv rAddr l)) (h0 : (l, tcL rα xs1) ∈ c1) (he : Ev te Γ c1 c2 (tv rα y)) (hn : c2[n]? = some (l, tcL rα xs)) (hm : pushO xs y = some zs) :
    Ev (tBM K "list" rAppend ta (tCons te tNil)) Γ c (c2.set n (l, tcL rα zs)) (tv rNon ()) := fun σ G H e hd Q q =>
  ho σ G H e hd _ fun v G1 H1 a1 k1 => by
    have k1 : v = .ref l := k1
    subst k1
    obtain ⟨_, o, hl, us, rfl, _, _⟩ := a1.hld.own _ h0
    refine ⟨tyV_lst hl, (ea_one he) σ G1 H1 (e.mono a1.gg) a1.hld _ fun ws G2 H2 a2 k2 => ?_⟩
    obtain ⟨w, ew, k3⟩ := vs1 k2
    subst ew
    obtain ⟨hlt, rfl⟩ := pushO_some hm
    obtain ⟨g, o, hl2, vs, rfl, h2, h3⟩ := a2.hld.cell hn
    refine ⟨l, vs, w, rfl, rfl, hl2, by rw [h2.len]; exact hlt, ?_⟩
    have a3 := Aft.wrN (t' := tcL rα (xs ++ [y])) (o := .lst (vs ++ [w])) hn a2.hld ⟨_, rfl, h2.app ⟨k3, trivial⟩, by rw [List.length_append, List.length_singleton]; omega⟩
    exact q _ _ _ ((a1.trans a2).trans a3) rfl
/-- the item a new owned list's address, or anything told by values alone -/
theorem ev_ext {n : Nat} {l : Addr} {xs xs1 ys zs : List α} (ho : Ev ta Γ c c1 (tv rAddr l)) (h0 : (l, tcL rα xs1) ∈ c1) (he : Ev te Γ c1 c2 (tv (rLst rα) ys)) (hn : c2[n]? = some (l, tcL rα xs)) (hm : appO xs ys = some zs) :
    Ev (tBM K "list" rExtend ta (tCons te tNil)) Γ c (c2.set n (l, tcL rα zs)) (tv rNon ()) := fun σ G H e hd Q q =>
  ho σ G H e hd _ fun v G1 H1 a1 k1 => by
    have k1 : v = .ref l := k1
    subst k1
    obtain ⟨_, o, hl, us, rfl, _, _⟩ := a1.hld.own _ h0
    refine ⟨tyV_lst hl, (ea_one he) σ G1 H1 (e.mono a1.gg) a1.hld _ fun ws G2 H2 a2 k2 => ?_⟩
    obtain ⟨w, ew, b, us2, k3, k4, k5, k6⟩ := vs1 k2
    subst ew k3
    obtain ⟨hlt, rfl⟩ := appO_some hm
    obtain ⟨g, o, hl2, vs, rfl, h2, h3⟩ := a2.hld.cell hn
    refine ⟨l, b, vs, us2, rfl, rfl, hl2, a2.hld.ex _ _ k4, by rw [h2.len, k5.len]; exact hlt, ?_⟩
    have a3 := Aft.wrN (t' := tcL rα (xs ++ ys)) (o := .lst (vs ++ us2)) hn a2.hld ⟨_, rfl, h2.app k5, by rw [List.length_append]; exact hlt⟩
    exact q _ _ _ ((a1.trans a2).trans a3) rfl
theorem All2.dropLast {G : Hp} {vs : List V} {xs : List α} (h : All2 rα G vs xs) : All2 rα G vs.dropLast xs.dropLast := by
  rw [List.dropLast_eq_take, List.dropLast_eq_take, h.len]
  exact h.take _
/-- the last one, and the rest -/
def popO (xs : List α) : Option (α × List α) := match xs.getLast? with
  | some x => some (x, xs.dropLast)
  | none => none
theorem ev_pop {n : Nat} {l : Addr} {xs : List α} {z : α × List α} (ho : Ev ta Γ c c1 (tv rAddr l)) (hn : c1[n]? = some (l, tcL rα xs)) (hm : popO xs = some z) :
    Ev (tBM0 K "list" rPop ta) Γ c (c1.set n (l, tcL rα z.2)) (tv rα z.1) := fun σ G H e hd Q q =>
  ho σ G H e hd _ fun v G1 H1 a1 k1 => by
    have k1 : v = .ref l := k1
    subst k1
    obtain ⟨g, o, hl, vs, rfl, h2, h3⟩ := a1.hld.cell hn
    unfold popO at hm
    split at hm
    · rename_i x hx
      cases hm
      rw [List.getLast?_eq_getElem?] at hx
      obtain ⟨y, hy, ry⟩ := h2.get hx
      rw [← h2.len] at hy
      refine ⟨tyV_lst hl, l, vs, y, rfl, rfl, hl, hy, ?_⟩
      have a3 := Aft.wrN (t' := tcL rα xs.dropLast) (o := .lst vs.dropLast) hn a1.hld ⟨_, rfl, h2.dropLast, by rw [List.length_dropLast]; omega⟩
      exact q _ _ _ (a1.trans a3) ry
    · cases hm
/-- pop(0), pop(i) -/
def popAtO (xs : List α) (i : Int) : Option (α × List α) := match ixN xs.length i with
  | some k => match xs[k]? with
    | some x => if -(2 ^ 63) ≤ i ∧ i < 2 ^ 63 then some (x, xs.eraseIdx k) else none
    | none => none
  | none => none
theorem ev_popAt {n : Nat} {l : Addr} {xs xs1 : List α} {i : Int} {z : α × List α} (ho : Ev ta Γ c c1 (tv rAddr l)) (h0 : (l, tcL rα xs1) ∈ c1) (hi : Ev te Γ c1 c2 (tv rInt i)) (hn : c2[n]? = some (l, tcL rα xs)) (hm : popAtO xs i = some z) :
    Ev (tBM K "list" rPopAt ta (tCons te tNil)) Γ c (c2.set n (l, tcL rα z.2)) (tv rα z.1) := fun σ G H e hd Q q =>
  ho σ G H e hd _ fun v G1 H1 a1 k1 => by
    have k1 : v = .ref l := k1
    subst k1
    obtain ⟨_, o, hl, us, rfl, _, _⟩ := a1.hld.own _ h0
    refine ⟨tyV_lst hl, (ea_one hi) σ G1 H1 (e.mono a1.gg) a1.hld _ fun ws G2 H2 a2 k2 => ?_⟩
    obtain ⟨w, ew, k3⟩ := vs1 k2
    have k3 : w = .int i := k3
    subst ew k3
    obtain ⟨g, o, hl2, vs, rfl, h2, h3⟩ := a2.hld.cell hn
    unfold popAtO at hm
    split at hm
    · rename_i k hk
      split at hm
      · rename_i x hx
        split at hm
        · rename_i hb
          cases hm
          obtain ⟨y, hy, ry⟩ := h2.get hx
          refine ⟨l, vs, i, k, y, rfl, rfl, hl2, hb.1, hb.2, by rw [h2.len]; exact (ixN_seq hk).1, hy, ?_⟩
          have a3 := Aft.wrN (t' := tcL rα (xs.eraseIdx k)) (o := .lst (vs.eraseIdx k)) hn a2.hld ⟨_, rfl, h2.eraseIdx k, by have := List.length_eraseIdx_le (l := xs) (i := k); omega⟩
          exact q _ _ _ ((a1.trans a2).trans a3) ry
        · cases hm
      · cases hm
    · cases hm
def insO (xs : List α) (i : Int) (y : α) : Option (List α) := if xs.length < sizeLine ∧ 0 ≤ i ∧ i < 2 ^ 63 then some (xs.take i.toNat ++ [y] ++ xs.drop i.toNat) else none
abbrev rInsert : V → List V → Hp → VK → Prop := fun x vs H Q => ∃ (l : Addr) (xs : List V) (i : Int) (y : V), x = .ref l ∧ vs = [.int i, y] ∧ H l = some (.lst xs) ∧ xs.length < sizeLine ∧ 0 ≤ i ∧ i < 2 ^ 63 ∧
    Q .non (upd H l (.lst (xs.take i.toNat ++ [y] ++ xs.drop i.toNat)))
theorem ev_ins {n : Nat} {l : Addr} {xs xs1 zs : List α} {i : Int} {y : α} (ho : Ev ta Γ c c1 (tv rAddr l)) (h0 : (l, tcL rα xs1) ∈ c1) (hi : Ev tb Γ c1 c2 (tv rInt i)) (hy : Ev te Γ c2 c3 (tv rα y)) (hn : c3[n]? = some (l, tcL rα xs)) (hm : insO xs i y = some zs) :
    Ev (tBM K "list" rInsert ta (tCons tb (tCons te tNil))) Γ c (c3.set n (l, tcL rα zs)) (tv rNon ()) := fun σ G H e hd Q q =>
  ho σ G H e hd _ fun v G1 H1 a1 k1 => by
    have k1 : v = .ref l := k1
    subst k1
    obtain ⟨_, o, hl, us, rfl, _, _⟩ := a1.hld.own _ h0
    refine ⟨tyV_lst hl, (ea_two hi hy) σ G1 H1 (e.mono a1.gg) a1.hld _ fun ws G2 H2 a2 k2 => ?_⟩
    obtain ⟨w, w2, ew, k3, k4⟩ := vs2 k2
    have k3 : w = .int i := k3
    subst ew k3
    obtain ⟨g, o, hl2, vs, rfl, h2, h3⟩ := a2.hld.cell hn
    unfold insO at hm
    split at hm
    · rename_i hb
      cases hm
      refine ⟨l, vs, i, w2, rfl, rfl, hl2, by rw [h2.len]; exact hb.1, hb.2.1, hb.2.2, ?_⟩
      have a3 := Aft.wrN (t' := tcL rα (xs.take i.toNat ++ [y] ++ xs.drop i.toNat)) (o := .lst (vs.take i.toNat ++ [w2] ++ vs.drop i.toNat)) hn a2.hld
        ⟨_, rfl, ((h2.take _).app (show All2 rα G2 [w2] [y] from ⟨k4, trivial⟩)).app (h2.drop _), by
          rw [List.length_append, List.length_append, List.length_take, List.length_drop, List.length_singleton]
          have := hb.1
          omega⟩
      exact q _ _ _ ((a1.trans a2).trans a3) rfl
    · cases hm
theorem ev_ixO {l : Addr} {xs : List α} {i : Int} {x : α} (ha : Ev ta Γ c c1 (tv rAddr l)) (hb : Ev tb Γ c1 c2 (tv rInt i)) (hl : (l, tcL rα xs) ∈ c2) (h : atI xs i = some x) : Ev (tOp (rIxL K) ta tb) Γ c c2 (tv rα x) :=
  ev_op ha hb fun G H v w hd h1 h2 Q q => by
    obtain ⟨_, o, ho, vs, rfl, e3, e4⟩ := hd.own _ hl
    have h1 : v = .ref l := h1
    subst h1
    obtain ⟨j, s1, s2, s3, s4, s5⟩ := atI_get h
    obtain ⟨z, g1, g2⟩ := All2.get e3 s2
    refine ⟨l, vs, i, z, rfl, h2, .inl (.inl ho), ?_, q _ G H (.refl hd) g2⟩
    unfold atI at h ⊢
    rw [e3.len]
    cases e : ixN xs.length i with
    | none => rw [e] at h; cases h
    | some k =>
      rw [e] at h
      have k1 : k = j := by
        have := (ixN_seq e).1
        rw [s1] at this; exact (Option.some.inj this).symm
      subst k1
      exact g1
def setO (xs : List α) (i : Int) (y : α) : Option (List α) := (ixN xs.length i).map fun j => xs.set j y
theorem sv_setL {n : Nat} {l : Addr} {xs zs : List α} {i : Int} {y : α} (hv : Ev te Γ c c1 (tv rα y)) (ho : Ev ta Γ c1 c2 (tv rAddr l)) (hi : Ev tb Γ c2 c3 (tv rInt i)) (hn : c3[n]? = some (l, tcL rα xs)) (hm : setO xs i y = some zs) (k : Im B Γ (c3.set n (l, tcL rα zs)) D.nx) :
    Sv (tAsg te (gSub ta tb rSetL)) D B Γ c := fun σ H ⟨G, a, e⟩ =>
  hv σ G H e a.hld _ fun v G1 H1 a1 k1 => ho σ G1 H1 (e.mono a1.gg) a1.hld _ fun o G2 H2 a2 k2 => hi σ G2 H2 (e.mono (a1.gg.trans a2.gg)) a2.hld _ fun iv G3 H3 a3 k3 => by
    have k2 : o = .ref l := k2
    have k3 : iv = .int i := k3
    subst k2 k3
    obtain ⟨g, o, hl2, vs, rfl, h2, h3⟩ := a3.hld.cell hn
    unfold setO at hm
    cases hj : ixN xs.length i with
    | none => rw [hj] at hm; cases hm
    | some j =>
      rw [hj] at hm
      cases hm
      refine ⟨l, vs, i, j, rfl, rfl, hl2, by rw [h2.len]; exact hj, ?_⟩
      have a4 := Aft.wrN (t' := tcL rα (xs.set j y)) (o := .lst (vs.set j v)) hn a3.hld ⟨_, rfl, h2.set ((tv rα y).mono (a2.gg.trans a3.gg) k1) j, by rw [List.length_set]; exact h3⟩
      exact k _ _ ⟨_, a.trans (((a1.trans a2).trans a3).trans a4), e.mono (((a1.gg.trans a2.gg).trans a3.gg).trans a4.gg)⟩
/-! ### what is walked -/
def Gw (G H G' H' : Hp) : Prop := (G' = G ∧ H' = H) ∨ ∃ T o, H T = none ∧ G' = upd G T o ∧ H' = upd H T o
theorem Gw.aft {G H G' H' : Hp} (g : Gw G H G' H') (h : Hld G c H) : Aft G c H G' c H' := by
  rcases g with ⟨rfl, rfl⟩ | ⟨T, o, hn, rfl, rfl⟩
  · exact .refl h
  · exact .frz o h hn
def Wk (J : It) (G0 : Hp) (Ps : List TV) : Prop := Ps.length ≤ sizeLine ∧ ∀ G H, Ex G0 G → Ex G H → (∀ (i : Nat) P, Ps[i]? = some P → J.go i H ∧ ∀ x H', J.yld i H x H' → ∃ G', Gw G H G' H' ∧ P.ok G' x) ∧ J.stop Ps.length H
def EvI (wi : TI) (Γ : TEnv) (c c' : Cells) (Ps : List TV) : Prop := ∀ σ G H, EnvOk G Γ σ → Hld G c H → ∀ R : It → Hp → Prop, (∀ J G' H', Aft G c H G' c' H' → Wk J G' Ps → R J H') → wi σ H R
theorem ei_lst {tl : TE} {xs : List α} (h : Ev tl Γ c c1 (tv (rLst rα) xs)) : EvI (iList K tl) Γ c c1 (xs.map (tv rα)) := fun σ G H e hd R r =>
  h σ G H e hd _ fun v G1 H1 a1 ⟨a, vs, h1, h2, h3, h4⟩ => ⟨a, h1, ⟨vs, .inl (.inl (a1.hld.ex _ _ h2))⟩, r _ G1 H1 a1 ⟨by rw [List.length_map]; exact h4, fun G2 H2 e1 e2 => by
    have hs : SqL K H2 a vs := .inl (.inl (e2 _ _ (e1 _ _ h2)))
    refine ⟨fun i P hP => ?_, ⟨vs, hs, by rw [h3.len, List.length_map]; exact Nat.le_refl _⟩⟩
    rw [List.getElem?_map] at hP
    cases hx : xs[i]? with
    | none => rw [hx] at hP; cases hP
    | some x =>
      rw [hx] at hP
      cases hP
      obtain ⟨y, hy, ry⟩ := h3.get hx
      refine ⟨⟨vs, y, hs, hy⟩, fun z H' ⟨eH, hz⟩ => ⟨G2, .inl ⟨rfl, eH⟩, ?_⟩⟩
      have : z = y := Option.some.inj ((hz vs hs).symm.trans hy)
      subst this
      exact rα.mono e1 ry⟩⟩
theorem ei_tup {tl : TE} {xs : List α} (h : Ev tl Γ c c1 (tv (rTup K rα) xs)) : EvI (iTup K tl) Γ c c1 (xs.map (tv rα)) := fun σ G H e hd R r =>
  h σ G H e hd _ fun v G1 H1 a1 ⟨a, vs, h1, h2, h3, h4⟩ => ⟨a, h1, ⟨vs, ex_t a1.hld.ex h2⟩, r _ G1 H1 a1 ⟨by rw [List.length_map]; exact h4, fun G2 H2 e1 e2 => by
    have hs : SqT K H2 a vs := ex_t e2 (ex_t e1 h2)
    refine ⟨fun i P hP => ?_, ⟨vs, hs, by rw [h3.len, List.length_map]; exact Nat.le_refl _⟩⟩
    rw [List.getElem?_map] at hP
    cases hx : xs[i]? with
    | none => rw [hx] at hP; cases hP
    | some x =>
      rw [hx] at hP
      cases hP
      obtain ⟨y, hy, ry⟩ := h3.get hx
      refine ⟨⟨vs, y, hs, hy⟩, fun z H' ⟨eH, hz⟩ => ⟨G2, .inl ⟨rfl, eH⟩, ?_⟩⟩
      have : z = y := Option.some.inj ((hz vs hs).symm.trans hy)
      subst this
      exact rα.mono e1 ry⟩⟩
/-- a pair of two things of one kind, walked -/
theorem ev_pairT {x : α × α} (h : Ev te Γ c c1 (tv (rPair K rα rα) x)) : Ev te Γ c c1 (tv (rTup K rα) [x.1, x.2]) := h.is fun G v ⟨a, u, w, h1, h2, h3, h4⟩ => ⟨a, [u, w], h1, h2, ⟨h3, h4, trivial⟩, by show 2 ≤ sizeLine; decide⟩
/-- the script, or another list that is only known -/
def rLstS (K : PySem.W.Frag) (r : Rep α) : Rep (List α) := ⟨fun G v x => ∃ a vs, v = .ref a ∧ SqL K G a vs ∧ All2 r G vs x ∧ x.length ≤ sizeLine, fun e ⟨a, vs, h1, h2, h3, h4⟩ => ⟨a, vs, h1, ex_l e h2, All2.mono e h3, h4⟩⟩
theorem en_listS {xs : List α} (h : Ev te Γ c c1 (tv (rLstS K rα) xs)) : EvN (tCB (rListC K) (tCons te tNil)) Γ c c1 (tcL rα xs) := fun σ G H e hd Q q =>
  ea_one h σ G H e hd _ fun vs G1 H1 a1 k1 => by
    obtain ⟨v, e1, a, us, h1, h2, h3, h4⟩ := vs1 k1
    subst e1 h1
    refine ⟨a, us, rfl, .inl (ex_l a1.hld.ex h2), fun l hl => ?_⟩
    have a2 := Aft.newN (t := tcL rα xs) (o := .lst us) a1.hld hl ⟨us, rfl, h3, h4⟩
    exact q _ _ _ _ _ ⟨l, rfl, rfl⟩ (a1.trans a2) rfl
/-- the signs of a text -/
theorem ei_str {tl : TE} {x : List Nat} (h : Ev tl Γ c c1 (tv rStr x)) : EvI (iStr tl) Γ c c1 ((x.map fun k => [k]).map (tv rStr)) := fun σ G H e hd R r =>
  h σ G H e hd _ fun v G1 H1 a1 ⟨h1, h2⟩ => ⟨sOf x, h1, r _ G1 H1 a1 ⟨by rw [List.length_map, List.length_map]; exact h2.1, fun G2 H2 e1 e2 => by
    have hsz : (sOf x).cps.size = x.length := by simp [sOf]
    refine ⟨fun i P hP => ?_, by show (sOf x).cps.size ≤ _; rw [hsz, List.length_map, List.length_map]; exact Nat.le_refl _⟩
    rw [List.getElem?_map, List.getElem?_map] at hP
    cases hx : x[i]? with
    | none => rw [hx] at hP; cases hP
    | some k =>
      rw [hx] at hP
      cases hP
      obtain ⟨hi, _⟩ := List.getElem?_eq_some_iff.mp hx
      refine ⟨by show i < (sOf x).cps.size; rw [hsz]; exact hi, fun z H' ⟨eH, k', hz, ez⟩ => ⟨G2, .inl ⟨rfl, eH⟩, ?_⟩⟩
      have e3 : (sOf x).cps[i]? = x[i]? := by rw [← Array.getElem?_toList, sOf_cps]
      rw [e3, hx] at hz
      cases hz
      subst ez
      refine ⟨rfl, by show 1 ≤ sizeLine; decide, ?_⟩
      have := List.all_eq_true.mp h2.2 k (List.mem_of_getElem? hx)
      rw [List.all_cons, this]; rfl⟩⟩
/-! ranges -/
def rngL (lo hi : Int) : List Int := (List.range (hi - lo).toNat).map fun i : Nat => lo + (i : Int)
def rng1O (n : Int) : Option (List Int) := if -1000000 ≤ n ∧ n ≤ 1000000 then some (rngL 0 n) else none
def rng2O (lo hi : Int) : Option (List Int) := if -1000000 ≤ lo ∧ lo ≤ 1000000 ∧ -1000000 ≤ hi ∧ hi ≤ 1000000 then some (rngL lo hi) else none
theorem rngL_len (lo hi : Int) : (rngL lo hi).length = (hi - lo).toNat := by simp [rngL]
theorem wk_rng {G0 : Hp} {lo : Int} {n : Nat} {xs : List Int} (hn : n ≤ 2000000) (e : xs = (List.range n).map fun i : Nat => lo + (i : Int)) : Wk (Itr lo n) G0 (xs.map (tv rInt)) := by
  subst e
  refine ⟨by rw [List.length_map, List.length_map, List.length_range]; exact Nat.le_trans hn (by decide), fun G H e1 e2 => ?_⟩
  refine ⟨fun i P hP => ?_, by show n ≤ _; simp⟩
  rw [List.getElem?_map, List.getElem?_map] at hP
  by_cases hi : i < n
  · rw [List.getElem?_range hi] at hP
    cases hP
    exact ⟨hi, fun z H' ⟨eH, ez⟩ => ⟨G, .inl ⟨rfl, eH⟩, ez⟩⟩
  · rw [List.getElem?_eq_none (by simp; omega)] at hP
    cases hP
theorem ei_rng1 {tl : TE} {n : Int} {xs : List Int} (h : Ev tl Γ c c1 (tv rInt n)) (hm : rng1O n = some xs) : EvI (iRng1 (tCons tl tNil)) Γ c c1 (xs.map (tv rInt)) := fun σ G H e hd R r =>
  ea_one h σ G H e hd _ fun vs G1 H1 a1 k1 => by
    obtain ⟨v, e1, k2⟩ := vs1 k1
    have k2 : v = .int n := k2
    subst e1 k2
    unfold rng1O at hm
    split at hm
    · rename_i hb
      cases hm
      refine ⟨n, rfl, by omega, by omega, r _ G1 H1 a1 (wk_rng (by omega) ?_)⟩
      unfold rngL
      rw [Int.sub_zero]
    · cases hm
theorem ei_rng2 {tl th : TE} {lo hi : Int} {xs : List Int} (h : Ev tl Γ c c1 (tv rInt lo)) (h2 : Ev th Γ c1 c2 (tv rInt hi)) (hm : rng2O lo hi = some xs) : EvI (iRng2 (tCons tl (tCons th tNil))) Γ c c2 (xs.map (tv rInt)) := fun σ G H e hd R r =>
  ea_two h h2 σ G H e hd _ fun vs G1 H1 a1 k1 => by
    obtain ⟨v, w, e1, k2, k3⟩ := vs2 k1
    have k2 : v = .int lo := k2
    have k3 : w = .int hi := k3
    subst e1 k2 k3
    unfold rng2O at hm
    split at hm
    · rename_i hb
      cases hm
      exact ⟨lo, hi, rfl, ⟨by omega, by omega, by omega, by omega⟩, r _ G1 H1 a1 (wk_rng (by omega) rfl)⟩
    · cases hm
/-- downwards by ones -/
def rngD (hi lo : Int) : List Int := (List.range (hi - lo).toNat).map fun i : Nat => hi - (i : Int)
def rngDO (hi lo : Int) : Option (List Int) := if -1000000 ≤ lo ∧ lo ≤ 1000000 ∧ -1000000 ≤ hi ∧ hi ≤ 1000000 then some (rngD hi lo) else none
theorem ei_rngD {t1 t2 t3 : TE} {lo hi : Int} {xs : List Int} (h : Ev t1 Γ c c1 (tv rInt hi)) (h2 : Ev t2 Γ c1 c2 (tv rInt lo)) (h3 : Ev t3 Γ c2 c3 (tv rInt (-1))) (hm : rngDO hi lo = some xs) : EvI (iRng3 (tCons t1 (tCons t2 (tCons t3 tNil)))) Γ c c3 (xs.map (tv rInt)) := fun σ G H e hd R r =>
  (ea_cons h (ea_cons h2 (ea_one h3))) σ G H e hd _ fun vs G1 H1 a1 k1 => by
    cases vs with
    | nil => exact k1.elim
    | cons v vs =>
    obtain ⟨k2, k1⟩ := k1
    obtain ⟨w, z, e1, k3, k4⟩ := vs2 k1
    have k2 : v = .int hi := k2
    have k3 : w = .int lo := k3
    have k4 : z = .int (-1) := k4
    subst e1 k2 k3 k4
    unfold rngDO at hm
    split at hm
    · rename_i hb
      cases hm
      refine ⟨hi, lo, -1, (hi - lo).toNat, rfl, RgC.neg (by omega) (by omega) (by omega) (by omega), r _ G1 H1 a1 ⟨by rw [List.length_map]; exact Nat.le_trans (show (rngD hi lo).length ≤ 2000000 by simp [rngD]; omega) (by decide), fun G H e1 e2 => ?_⟩⟩
      refine ⟨fun i P hP => ?_, by show (hi - lo).toNat ≤ _; simp [rngD]⟩
      unfold rngD at hP
      rw [List.getElem?_map, List.getElem?_map] at hP
      by_cases hi' : i < (hi - lo).toNat
      · rw [List.getElem?_range hi'] at hP
        cases hP
        refine ⟨hi', fun z H' ⟨eH, ez⟩ => ⟨G, .inl ⟨rfl, eH⟩, ?_⟩⟩
        rw [ez]
        show V.int (hi + (i : Int) * (-1)) = V.int (hi - (i : Int))
        congr 1
        omega
      · rw [List.getElem?_eq_none (by simp; omega)] at hP
        cases hP
    · cases hm
/-! ### for -/
inductive Stp (S ρ : Type) where
  | nx (s : S)
  | bk (s : S)
  | rt (y : ρ)
def foldO {S : Type} (f : S → α → Option S) : S → List α → Option S
  | s, [] => some s
  | s, x :: xs => (f s x).bind fun s' => foldO f s' xs
/-- with break and return -/
def foldB {S ρ : Type} (f : S → α → Option (Stp S ρ)) : S → List α → Option (Stp S ρ)
  | s, [] => some (.nx s)
  | s, x :: xs => match f s x with
    | none => none
    | some (.nx s') => foldB f s' xs
    | some (.bk s') => some (.bk s')
    | some (.rt y) => some (.rt y)
/-- what is due behind a turn -/
def Sink {S ρ : Type} (D : Ends) (B : Bs) (Γs : S → TEnv) (cs : S → Cells) (cr : ρ → Cells) (Pr : ρ → TV) (st : Stp S ρ) : Prop := match st with
  | .nx s => Im B (Γs s) (cs s) D.nx ∧ Im B (Γs s) (cs s) D.ct
  | .bk s => Im B (Γs s) (cs s) D.bk
  | .rt y => RT D.rt B (cr y) (Pr y)
theorem sv_for {S ρ : Type} {wi : TI} {g : TG} {tb : TS} {vs : List Nat} {r : Rep α} {xs : List α} (f : S → α → Option (Stp S ρ)) (Γs : S → TEnv) (cs : S → Cells) (cr : ρ → Cells) (Pr : ρ → TV) (Γx : S → α → TEnv)
    (hi : EvI wi Γ c c1 (xs.map (tv r))) (s0 : S) (h0 : Le Γ (Γs s0)) (hc0 : (cs s0).Sublist c1) (hp : ∀ s x, Pt g (tv r x) (Γs s) (Γx s x) vs)
    (body : ∀ s x st, f s x = some st → ∀ (D' : Ends) (B' : Bs), Sink D' B' Γs cs cr Pr st → Sv tb D' B' (Γx s x) (cs s))
    (st : Stp S ρ) (hf : foldB f s0 xs = some st)
    (hn : ∀ s, st = .nx s → Im B (Γs s) (cs s) D.nx) (hb : ∀ s, st = .bk s → Im B (Γs s) (cs s) D.nx) (hr : ∀ y, st = .rt y → RT D.rt B (cr y) (Pr y)) :
    Sv (tFor wi g tb) D B Γ c := fun σ H ⟨G, a, e⟩ => by
  refine hi σ G H e a.hld _ fun J G0 H0 a0 wk => ?_
  refine ⟨fun i m σ H => m = xs.length - i ∧ i ≤ xs.length ∧ ∃ s, foldB f s (xs.drop i) = some st ∧ ∃ G, Ex G0 G ∧ Aft B.G B.c B.H G (cs s) H ∧ EnvOk G (Γs s) σ, ⟨xs.length, by simp, Nat.zero_le _, s0, hf, G0, Ex.rfl _, (a.trans a0).drop hc0, (e.mono a0.gg).le h0⟩, ?_⟩
  rintro i m σ H ⟨rfl, hi, s, hs, G, eG, aG, eE⟩
  obtain ⟨wk1, wk2⟩ := wk.2 G H eG aG.hld.ex
  by_cases hlt : i < xs.length
  · have hx : xs[i]? = some xs[i] := List.getElem?_eq_getElem hlt
    obtain ⟨go, step⟩ := wk1 i (tv r xs[i]) (by rw [List.getElem?_map, hx]; rfl)
    have hd : xs.drop i = xs[i] :: xs.drop (i + 1) := List.drop_eq_getElem_cons hlt
    rw [hd] at hs
    -- what the body reaches
    refine .inr ⟨go, fun σ' H' => ∃ s', foldB f s' (xs.drop (i + 1)) = some st ∧ ∃ G', Ex G0 G' ∧ Aft B.G B.c B.H G' (cs s') H' ∧ EnvOk G' (Γs s') σ', fun σ' H' ⟨s', h1, h2⟩ => ⟨xs.length - (i + 1), by omega, rfl, hlt, s', h1, h2⟩, fun x H' hy => ?_⟩
    obtain ⟨G', gw, px⟩ := step x H' hy
    have a1 := gw.aft aG.hld
    refine hp s xs[i] x σ G' H' px (eE.mono a1.gg) a1.hld.ex _ fun σ2 e2 _ => ?_
    unfold foldB at hs
    cases hfx : f s xs[i] with
    | none => rw [hfx] at hs; cases hs
    | some st' =>
      rw [hfx] at hs
      refine body s xs[i] st' hfx _ ⟨G', cs s, H'⟩ ?_ σ2 H' (Post.refl a1.hld e2)
      have aB := aG.trans a1
      cases st' with
      | nx s' =>
        have fin : Im ⟨G', cs s, H'⟩ (Γs s') (cs s') (fun σ' H' => ∃ s', foldB f s' (xs.drop (i + 1)) = some st ∧ ∃ G', Ex G0 G' ∧ Aft B.G B.c B.H G' (cs s') H' ∧ EnvOk G' (Γs s') σ') :=
          fun σ3 H3 ⟨G3, a3, e3⟩ => ⟨s', hs, G3, (eG.trans a1.gg).trans a3.gg, aB.trans a3, e3⟩
        exact ⟨fin, fin⟩
      | bk s' =>
        cases hs
        exact fun σ3 H3 ⟨G3, a3, e3⟩ => hb s' rfl σ3 H3 ⟨G3, aB.trans a3, e3⟩
      | rt y =>
        cases hs
        exact (hr y rfl).rebase aB
  · have ei : i = xs.length := by omega
    subst ei
    rw [List.drop_length] at hs
    cases hs
    rw [List.length_map] at wk2
    exact .inl ⟨wk2, hn s rfl σ H ⟨G, aG, eE⟩⟩
theorem foldO_B {S ρ : Type} {f : S → α → Option S} : ∀ {xs : List α} {s s1 : S}, foldO f s xs = some s1 → foldB (ρ := ρ) (fun s x => (f s x).map Stp.nx) s xs = some (.nx s1)
  | [], s, s1, h => by
    cases h; rfl
  | x :: xs, s, s1, h => by
    unfold foldO at h
    unfold foldB
    cases e : f s x with
    | none => rw [e] at h; cases h
    | some s' =>
      rw [e] at h
      exact foldO_B h
/-- the body falls through, always -/
theorem sv_forO {S : Type} {wi : TI} {g : TG} {tb : TS} {vs : List Nat} {r : Rep α} {xs : List α} (f : S → α → Option S) (Γs : S → TEnv) (cs : S → Cells) (Γx : S → α → TEnv)
    (hi : EvI wi Γ c c1 (xs.map (tv r))) (s0 : S) (h0 : Le Γ (Γs s0)) (hc0 : (cs s0).Sublist c1) (hp : ∀ s x, Pt g (tv r x) (Γs s) (Γx s x) vs)
    (body : ∀ s x s', f s x = some s' → ∀ (D' : Ends) (B' : Bs), Im B' (Γs s') (cs s') D'.nx → Im B' (Γs s') (cs s') D'.ct → Sv tb D' B' (Γx s x) (cs s))
    (s1 : S) (hf : foldO f s0 xs = some s1) (hn : Im B (Γs s1) (cs s1) D.nx) : Sv (tFor wi g tb) D B Γ c :=
  sv_for (ρ := Unit) (fun s x => (f s x).map Stp.nx) Γs cs (fun _ => []) (fun _ => tv rNon ()) Γx hi s0 h0 hc0 hp (fun s x st h D' B' k => by
    cases e : f s x with
    | none => rw [e] at h; cases h
    | some s' =>
      rw [e] at h
      cases h
      exact body s x s' e D' B' k.1 k.2) (.nx s1) (foldO_B hf) (fun s e => by cases e; exact hn) (fun s e => by cases e) fun y e => by cases e
/-! ### while -/
/-- n turns at most: a condition and a turn -/
def whileB {S ρ : Type} (cnd : S → Option Bool) (f : S → Option (Stp S ρ)) : Nat → S → Option (Stp S ρ)
  | 0, _ => none
  | n + 1, s => match cnd s with
    | none => none
    | some false => some (.nx s)
    | some true => match f s with
      | none => none
      | some (.nx s') => whileB cnd f n s'
      | some (.bk s') => some (.bk s')
      | some (.rt y) => some (.rt y)
def whileO {S : Type} (cnd : S → Option Bool) (f : S → Option S) : Nat → S → Option S
  | 0, _ => none
  | n + 1, s => match cnd s with
    | none => none
    | some false => some s
    | some true => (f s).bind fun s' => whileO cnd f n s'
theorem sv_while {S ρ : Type} {tb : TS} (cnd : S → Option Bool) (f : S → Option (Stp S ρ)) (Γs : S → TEnv) (cs : S → Cells) (cr : ρ → Cells) (Pr : ρ → TV) (s0 : S) (h0 : Le Γ (Γs s0)) (hc0 : (cs s0).Sublist c)
    (hc : ∀ s b, cnd s = some b → EvT tt (Γs s) (cs s) (cs s) b)
    (body : ∀ s st, cnd s = some true → f s = some st → ∀ (D' : Ends) (B' : Bs), Sink D' B' Γs cs cr Pr st → Sv tb D' B' (Γs s) (cs s))
    (n : Nat) (st : Stp S ρ) (hf : whileB cnd f n s0 = some st)
    (hn : ∀ s, st = .nx s → Im B (Γs s) (cs s) D.nx) (hb : ∀ s, st = .bk s → Im B (Γs s) (cs s) D.nx) (hr : ∀ y, st = .rt y → RT D.rt B (cr y) (Pr y)) :
    Sv (tWhile tt tb) D B Γ c := fun σ H ⟨G, a, e⟩ => by
  refine ⟨fun m σ H => ∃ s, whileB cnd f m s = some st ∧ ∃ G, Aft B.G B.c B.H G (cs s) H ∧ EnvOk G (Γs s) σ, ⟨n, s0, hf, G, a.drop hc0, e.le h0⟩, ?_⟩
  rintro m σ H ⟨s, hs, G, aG, eE⟩
  cases m with
  | zero => cases hs
  | succ m =>
    unfold whileB at hs
    cases hcn : cnd s with
    | none => rw [hcn] at hs; cases hs
    | some b =>
      rw [hcn] at hs
      refine hc s b hcn σ G H eE aG.hld _ fun G1 H1 a1 => ?_
      have aB := aG.trans a1
      cases b with
      | false =>
        rw [if_neg Bool.false_ne_true]
        cases hs
        exact hn s rfl σ H1 ⟨G1, aB, eE.mono a1.gg⟩
      | true =>
        rw [if_pos rfl]
        refine ⟨fun σ' H' => ∃ s', whileB cnd f m s' = some st ∧ ∃ G', Aft B.G B.c B.H G' (cs s') H' ∧ EnvOk G' (Γs s') σ', fun σ' H' ⟨s', h1, h2⟩ => ⟨m, Nat.lt_succ_self m, s', h1, h2⟩, ?_⟩
        dsimp only at hs
        cases hfx : f s with
        | none => rw [hfx] at hs; cases hs
        | some st' =>
          rw [hfx] at hs
          refine body s st' hcn hfx _ ⟨G1, cs s, H1⟩ ?_ σ H1 (Post.refl a1.hld (eE.mono a1.gg))
          cases st' with
          | nx s' =>
            have fin : Im ⟨G1, cs s, H1⟩ (Γs s') (cs s') (fun σ' H' => ∃ s', whileB cnd f m s' = some st ∧ ∃ G', Aft B.G B.c B.H G' (cs s') H' ∧ EnvOk G' (Γs s') σ') := fun σ3 H3 ⟨G3, a3, e3⟩ => ⟨s', hs, G3, aB.trans a3, e3⟩
            exact ⟨fin, fin⟩
          | bk s' =>
            cases hs
            exact fun σ3 H3 ⟨G3, a3, e3⟩ => hb s' rfl σ3 H3 ⟨G3, aB.trans a3, e3⟩
          | rt y =>
            cases hs
            exact (hr y rfl).rebase aB
theorem whileO_B {S ρ : Type} {cnd : S → Option Bool} {f : S → Option S} : ∀ {n : Nat} {s s1 : S}, whileO cnd f n s = some s1 → whileB (ρ := ρ) cnd (fun s => (f s).map Stp.nx) n s = some (.nx s1)
  | 0, s, s1, h => by cases h
  | n + 1, s, s1, h => by
    unfold whileO at h
    unfold whileB
    cases ec : cnd s with
    | none => rw [ec] at h; cases h
    | some b =>
      rw [ec] at h
      cases b with
      | false => cases h; rfl
      | true =>
        dsimp only at h ⊢
        cases e : f s with
        | none => rw [e] at h; cases h
        | some s' =>
          rw [e] at h
          exact whileO_B h
theorem sv_whileO {S : Type} {tb : TS} (cnd : S → Option Bool) (f : S → Option S) (Γs : S → TEnv) (cs : S → Cells) (s0 : S) (h0 : Le Γ (Γs s0)) (hc0 : (cs s0).Sublist c)
    (hc : ∀ s b, cnd s = some b → EvT tt (Γs s) (cs s) (cs s) b)
    (body : ∀ s s', cnd s = some true → f s = some s' → ∀ (D' : Ends) (B' : Bs), Im B' (Γs s') (cs s') D'.nx → Im B' (Γs s') (cs s') D'.ct → Sv tb D' B' (Γs s) (cs s))
    (n : Nat) (s1 : S) (hf : whileO cnd f n s0 = some s1) (hn : Im B (Γs s1) (cs s1) D.nx) : Sv (tWhile tt tb) D B Γ c :=
  sv_while (ρ := Unit) cnd (fun s => (f s).map Stp.nx) Γs cs (fun _ => []) (fun _ => tv rNon ()) s0 h0 hc0 hc (fun s st h1 h D' B' k => by
    cases e : f s with
    | none => rw [e] at h; cases h
    | some s' =>
      rw [e] at h
      cases h
      exact body s s' h1 e D' B' k.1 k.2) n (.nx s1) (whileO_B hf) (fun s e => by cases e; exact hn) (fun s e => by cases e) fun y e => by cases e
end
end TW
namespace TW
open PySem L2
def wipeE (Γ : TEnv) : List Nat → TEnv
  | [] => Γ
  | v :: vs => (wipeE Γ vs).set v none
theorem EnvOk.wipe {G : Hp} {Γ : TEnv} {σ : L2.St} (e : EnvOk G Γ σ) : ∀ vs : List Nat, EnvOk G (wipeE Γ vs) (wipe σ vs)
  | [] => e
  | v :: vs => (EnvOk.wipe e vs).wipe1 v
section
variable {Γ Γ' Γ'' : TEnv} {c c1 c2 c3 : Cells} {P P' P2 R : TV} {ta tb td te tk tw : TE} {t u w : TS} {tt : TT} {K : PySem.W.Frag} {α β γ : Type} {rα : Rep α} {rβ : Rep β} {D : Ends} {B : Bs}
/-- items made of items, with a state; none of an item that is left out -/
def compS {S : Type} (f : S → α → Option (Option β × S)) : S → List α → Option (List β × S)
  | s, [] => some ([], s)
  | s, x :: xs => match f s x with
    | none => none
    | some (o, s') => match compS f s' xs with
      | none => none
      | some (ys, s2) => some (o.toList ++ ys, s2)
theorem compS_len {S : Type} {f : S → α → Option (Option β × S)} : ∀ {xs : List α} {s s2 : S} {ys : List β}, compS f s xs = some (ys, s2) → ys.length ≤ xs.length
  | [], s, s2, ys, h => by cases h; exact Nat.le_refl _
  | x :: xs, s, s2, ys, h => by
    unfold compS at h
    cases e : f s x with
    | none => rw [e] at h; cases h
    | some p =>
      obtain ⟨o, s'⟩ := p
      rw [e] at h
      dsimp only at h
      cases e2 : compS f s' xs with
      | none => rw [e2] at h; cases h
      | some p2 =>
        obtain ⟨zs, s3⟩ := p2
        rw [e2] at h
        cases h
        have := compS_len e2
        rw [List.length_append, List.length_cons]
        cases o <;> simp <;> omega
theorem wipe_out {σ : L2.St} {i : Nat} : ∀ {vs : List Nat}, i ∈ vs → i < σ.length → (wipe σ vs)[i]? = some none
  | [], h, _ => by cases h
  | v :: vs, h, hl => by
    unfold wipe
    by_cases e : v = i
    · subst e
      rw [List.getElem?_set_self (by rw [wipe_length]; exact hl)]
    · rw [List.getElem?_set_ne e]
      refine wipe_out ?_ hl
      rcases List.mem_cons.mp h with z | z
      · exact absurd z.symm e
      · exact z
theorem wipe_in {σ : L2.St} {i : Nat} : ∀ {vs : List Nat}, i ∉ vs → (wipe σ vs)[i]? = σ[i]?
  | [], _ => rfl
  | v :: vs, h => by
    unfold wipe
    rw [List.getElem?_set_ne fun z => h (by rw [z]; exact List.mem_cons_self)]
    exact wipe_in fun z => h (List.mem_cons_of_mem _ z)
theorem wipe_idem (σ : L2.St) (vs : List Nat) : wipe (wipe σ vs) vs = wipe σ vs := by
  apply List.ext_getElem?
  intro i
  by_cases h : i ∈ vs
  · by_cases hl : i < σ.length
    · rw [wipe_out h (by rw [wipe_length]; exact hl), wipe_out h hl]
    · rw [List.getElem?_eq_none (by rw [wipe_length, wipe_length]; omega), List.getElem?_eq_none (by rw [wipe_length]; omega)]
  · rw [wipe_in h]
theorem last_at {c : Cells} (p : Addr × TC) : (c ++ [p])[c.length]? = some p := by simp
theorem last_set {c : Cells} (p q : Addr × TC) : (c ++ [p]).set c.length q = c ++ [q] := by
  rw [List.set_append_right _ _ (Nat.le_refl _)]; simp
theorem en_lcS {S : Type} {wi : TI} {g : TG} {vs : List Nat} {xs : List α} (f : S → α → Option (Option β × S)) (cs : S → Cells) (Γx : α → TEnv)
    (hi : EvI wi Γ c c1 (xs.map (tv rα))) (s0 : S) (hc0 : c1 = cs s0) (hp : ∀ x, Pt g (tv rα x) (wipeE Γ vs) (Γx x) vs)
    (step : ∀ s x o s', f s x = some (o, s') → ∃ s1 b, EvT tt (Γx x) (cs s) (cs s1) b ∧ (b = true → ∃ y, o = some y ∧ Ev te (Γx x) (cs s1) (cs s') (tv rβ y)) ∧ (b = false → o = none ∧ s' = s1))
    (ys : List β) (s2 : S) (hf : compS f s0 xs = some (ys, s2)) : EvN (tLc wi g tt te vs) Γ c (cs s2) (tcL rβ ys) := fun σ G H e hd Q q => by
  refine hi σ G H e hd _ fun J G0 H0 a0 wk Dl hD => ?_
  have hl : xs.length ≤ sizeLine := by simpa using wk.1
  have aN := Aft.newN (t := tcL rβ []) (o := .lst []) a0.hld hD ⟨[], rfl, trivial, Nat.zero_le _⟩
  have aS := a0.trans aN
  refine ⟨fun i m H' => m = xs.length - i ∧ i ≤ xs.length ∧ ∃ s acc zs, acc.length ≤ i ∧ compS f s (xs.drop i) = some (zs, s2) ∧ acc ++ zs = ys ∧ ∃ G', Ex G0 G' ∧ Aft G c H G' (cs s ++ [(Dl, tcL rβ acc)]) H', ⟨xs.length, by simp, Nat.zero_le _, s0, [], ys, Nat.le_refl _, hf, rfl, G0, Ex.rfl _, by rw [← hc0]; exact aS⟩, ?_⟩
  rintro i m H' ⟨rfl, hi, s, acc, zs, hacc, hs, hys, G', eG, aG⟩
  obtain ⟨wk1, wk2⟩ := wk.2 G' H' eG aG.hld.ex
  by_cases hlt : i < xs.length
  · have hx : xs[i]? = some xs[i] := List.getElem?_eq_getElem hlt
    obtain ⟨go, stp⟩ := wk1 i (tv rα xs[i]) (by rw [List.getElem?_map, hx]; rfl)
    have hd : xs.drop i = xs[i] :: xs.drop (i + 1) := List.drop_eq_getElem_cons hlt
    rw [hd] at hs
    unfold compS at hs
    cases hfx : f s xs[i] with
    | none => rw [hfx] at hs; cases hs
    | some p =>
      obtain ⟨o, s'⟩ := p
      rw [hfx] at hs
      dsimp only at hs
      cases hrest : compS f s' (xs.drop (i + 1)) with
      | none => rw [hrest] at hs; cases hs
      | some p2 =>
        obtain ⟨zs', s2'⟩ := p2
        rw [hrest] at hs
        cases hs
        obtain ⟨s1, b, ht, hb1, hb2⟩ := step s xs[i] o s' hfx
        refine .inr ⟨go, fun H'' => ∃ acc', acc'.length ≤ i + 1 ∧ acc' ++ zs' = ys ∧ ∃ G'', Ex G0 G'' ∧ Aft G c H G'' (cs s' ++ [(Dl, tcL rβ acc')]) H'', fun H'' ⟨acc', h1, h2, h3⟩ => ⟨xs.length - (i + 1), by omega, rfl, hlt, s', acc', zs', h1, hrest, h2, h3⟩, fun x H'' hy => ?_⟩
        obtain ⟨G1, gw, px⟩ := stp x H'' hy
        have a1 := gw.aft aG.hld
        have a2 := aG.trans a1
        refine hp xs[i] x (wipe σ vs) G1 H'' px ((e.mono a2.gg).wipe vs) a1.hld.ex _ fun σ2 e2 w2 => ⟨w2.trans (wipe_idem σ vs), ?_⟩
        refine ht.fr σ2 G1 H'' e2 a2.hld _ fun G2 H2 a3 => ?_
        have a4 := a2.trans a3
        cases b with
        | false =>
          obtain ⟨rfl, rfl⟩ := hb2 rfl
          rw [if_neg Bool.false_ne_true]
          exact ⟨acc, by omega, hys, G2, ((eG.trans a1.gg).trans a3.gg), a4⟩
        | true =>
          obtain ⟨y, rfl, he⟩ := hb1 rfl
          rw [if_pos rfl]
          refine he.fr σ2 G2 H2 (e2.mono a3.gg) a4.hld _ fun v G3 H3 a5 kv => ?_
          have a6 := a4.trans a5
          obtain ⟨_, ob, hob, us, rfl, k2, k3⟩ := a6.hld.cell (last_at (Dl, tcL rβ acc))
          have hlen : acc.length < sizeLine := by omega
          refine ⟨us, hob, by rw [k2.len]; exact hlen, acc ++ [y], by rw [List.length_append, List.length_singleton]; omega, by rw [← hys, List.append_assoc]; rfl, G3, (((eG.trans a1.gg).trans a3.gg).trans a5.gg), ?_⟩
          have a7 := Aft.wrN (t' := tcL rβ (acc ++ [y])) (o := .lst (us ++ [v])) (last_at (Dl, tcL rβ acc)) a6.hld ⟨_, rfl, k2.app ⟨kv, trivial⟩, by rw [List.length_append, List.length_singleton]; omega⟩
          rw [last_set] at a7
          exact a6.trans a7
  · have ei : i = xs.length := by omega
    subst ei
    rw [List.drop_length] at hs
    cases hs
    rw [List.append_nil] at hys
    subst hys
    rw [List.length_map] at wk2
    exact .inl ⟨wk2, q _ _ _ _ _ ⟨Dl, rfl, rfl⟩ aG rfl⟩
/-- without a state, without tests -/
def mapO (f : α → Option β) : List α → Option (List β)
  | [] => some []
  | x :: xs => (f x).bind fun y => (mapO f xs).map fun ys => y :: ys
theorem mapO_S {f : α → Option β} : ∀ {xs : List α} {ys : List β}, mapO f xs = some ys → compS (S := Unit) (fun s x => (f x).map fun y => (some y, s)) () xs = some (ys, ())
  | [], ys, h => by cases h; rfl
  | x :: xs, ys, h => by
    unfold mapO at h
    unfold compS
    cases e : f x with
    | none => rw [e] at h; cases h
    | some y =>
      rw [e] at h
      cases e2 : mapO f xs with
      | none => rw [e2] at h; cases h
      | some zs =>
        rw [e2] at h
        cases h
        simp only [Option.map_some, mapO_S e2]
        rfl
theorem mapO_len {f : α → Option β} {xs : List α} {ys : List β} (h : mapO f xs = some ys) : ys.length = xs.length := by
  induction xs generalizing ys with
  | nil => cases h; rfl
  | cons x xs ih =>
    unfold mapO at h
    cases e : f x with
    | none => rw [e] at h; cases h
    | some y =>
      rw [e] at h
      cases e2 : mapO f xs with
      | none => rw [e2] at h; cases h
      | some zs =>
        rw [e2] at h
        cases h
        rw [List.length_cons, List.length_cons, ih e2]
theorem tt_yes : EvT tYes Γ c c true := fun σ G H e hd Q q => q G H (.refl hd)
theorem en_lc {wi : TI} {g : TG} {vs : List Nat} {xs : List α} (f : α → Option β) (Γx : α → TEnv)
    (hi : EvI wi Γ c c1 (xs.map (tv rα))) (hp : ∀ x, Pt g (tv rα x) (wipeE Γ vs) (Γx x) vs)
    (step : ∀ x y, f x = some y → Ev te (Γx x) c1 c1 (tv rβ y)) (ys : List β) (hf : mapO f xs = some ys) : EvN (tLc wi g tYes te vs) Γ c c1 (tcL rβ ys) :=
  en_lcS (S := Unit) (fun s x => (f x).map fun y => (some y, s)) (fun _ => c1) Γx hi () rfl hp (fun s x o s' h => by
    cases e : f x with
    | none => rw [e] at h; cases h
    | some y =>
      rw [e] at h
      cases h
      exact ⟨(), true, tt_yes, fun _ => ⟨y, rfl, step x y e⟩, fun z => by cases z⟩) ys () (mapO_S hf)
/-- with tests -/
def filtO (p : α → Option Bool) (f : α → Option β) : List α → Option (List β)
  | [] => some []
  | x :: xs => (p x).bind fun b => if b = true then (f x).bind fun y => (filtO p f xs).map fun ys => y :: ys else filtO p f xs
theorem filtO_S {p : α → Option Bool} {f : α → Option β} : ∀ {xs : List α} {ys : List β}, filtO p f xs = some ys → compS (S := Unit) (fun s x => (p x).bind fun b => if b = true then (f x).map fun y => (some y, s) else some (none, s)) () xs = some (ys, ())
  | [], ys, h => by cases h; rfl
  | x :: xs, ys, h => by
    unfold filtO at h
    unfold compS
    cases eb : p x with
    | none => rw [eb] at h; cases h
    | some b =>
      rw [eb] at h
      simp only [Option.bind_some] at h ⊢
      cases b with
      | false =>
        rw [if_neg Bool.false_ne_true] at h ⊢
        simp only [filtO_S h]
        rfl
      | true =>
        rw [if_pos rfl] at h ⊢
        cases e : f x with
        | none => rw [e] at h; cases h
        | some y =>
          rw [e] at h
          cases e2 : filtO p f xs with
          | none => rw [e2] at h; cases h
          | some zs =>
            rw [e2] at h
            cases h
            simp only [Option.map_some, filtO_S e2]
            rfl
theorem en_lcF {wi : TI} {g : TG} {vs : List Nat} {xs : List α} (p : α → Option Bool) (f : α → Option β) (Γx : α → TEnv)
    (hi : EvI wi Γ c c1 (xs.map (tv rα))) (hp : ∀ x, Pt g (tv rα x) (wipeE Γ vs) (Γx x) vs)
    (test : ∀ x b, p x = some b → EvT tt (Γx x) c1 c1 b) (step : ∀ x y, f x = some y → Ev te (Γx x) c1 c1 (tv rβ y)) (ys : List β) (hf : filtO p f xs = some ys) : EvN (tLc wi g tt te vs) Γ c c1 (tcL rβ ys) :=
  en_lcS (S := Unit) (fun s x => (p x).bind fun b => if b = true then (f x).map fun y => (some y, s) else some (none, s)) (fun _ => c1) Γx hi () rfl hp (fun s x o s' h => by
    cases eb : p x with
    | none => rw [eb] at h; cases h
    | some b =>
      rw [eb] at h
      simp only [Option.bind_some] at h
      refine ⟨(), b, test x b eb, fun hb => ?_, fun hb => ?_⟩
      · subst hb
        rw [if_pos rfl] at h
        cases e : f x with
        | none => rw [e] at h; cases h
        | some y =>
          rw [e] at h
          cases h
          exact ⟨y, rfl, step x y e⟩
      · subst hb
        rw [if_neg Bool.false_ne_true] at h
        cases h
        exact ⟨rfl, rfl⟩) ys () (filtO_S hf)
/-- with a state -/
def mapS {S : Type} (f : S → α → Option (β × S)) : S → List α → Option (List β × S)
  | s, [] => some ([], s)
  | s, x :: xs => (f s x).bind fun p => (mapS f p.2 xs).map fun q => (p.1 :: q.1, q.2)
theorem mapS_S {S : Type} {f : S → α → Option (β × S)} : ∀ {xs : List α} {s : S} {q : List β × S}, mapS f s xs = some q → compS (fun s x => (f s x).map fun p => (some p.1, p.2)) s xs = some q
  | [], s, q, h => by cases h; rfl
  | x :: xs, s, q, h => by
    unfold mapS at h
    unfold compS
    cases e : f s x with
    | none => rw [e] at h; cases h
    | some p =>
      rw [e] at h
      simp only [Option.bind_some] at h
      cases e2 : mapS f p.2 xs with
      | none => rw [e2] at h; cases h
      | some q2 =>
        rw [e2] at h
        cases h
        simp only [Option.map_some, mapS_S e2]
        rfl
theorem en_lcM {S : Type} {wi : TI} {g : TG} {vs : List Nat} {xs : List α} (f : S → α → Option (β × S)) (cs : S → Cells) (Γx : α → TEnv)
    (hi : EvI wi Γ c c1 (xs.map (tv rα))) (s0 : S) (hc0 : c1 = cs s0) (hp : ∀ x, Pt g (tv rα x) (wipeE Γ vs) (Γx x) vs)
    (step : ∀ s x p, f s x = some p → Ev te (Γx x) (cs s) (cs p.2) (tv rβ p.1)) (q : List β × S) (hf : mapS f s0 xs = some q) : EvN (tLc wi g tYes te vs) Γ c (cs q.2) (tcL rβ q.1) :=
  en_lcS (fun s x => (f s x).map fun p => (some p.1, p.2)) cs Γx hi s0 hc0 hp (fun s x o s' h => by
    cases e : f s x with
    | none => rw [e] at h; cases h
    | some p =>
      rw [e] at h
      cases h
      exact ⟨s, true, tt_yes, fun _ => ⟨p.1, rfl, step s x p e⟩, fun z => by cases z⟩) q.1 q.2 (mapS_S hf)
/-! ### dicts -/
section
variable {κ κ' : Type} [DecidableEq κ] [DecidableEq κ'] {kf : κ → κ'} {r : Rep α}
def dgetO (m : List (κ × α)) (k : κ) : Option α := (m.find? fun p => decide (p.1 = k)).map (·.2)
def dput (m : List (κ × α)) (k : κ) (x : α) : List (κ × α) := if (m.any fun p => decide (p.1 = k)) = true then m.map (fun p => if p.1 = k then (p.1, x) else p) else m ++ [(k, x)]
def dputO (m : List (κ × α)) (k : κ) (x : α) : Option (List (κ × α)) := if m.length < sizeLine then some (dput m k x) else none
theorem AllD.get (hk : ∀ a b, kf a = kf b → a = b) {G : Hp} : ∀ {ps : List (κ' × V)} {m : List (κ × α)} (k : κ), AllD kf r G ps m → (∀ x, dgetO m k = some x → ∃ v, valV ps (kf k) = some v ∧ r.rp G v x) ∧ (dgetO m k = none → valV ps (kf k) = none)
  | [], [], k, _ => ⟨fun x h => (by cases h), fun _ => rfl⟩
  | p :: ps, q :: m, k, ⟨h1, h2, h⟩ => by
    obtain ⟨i1, i2⟩ := AllD.get hk (ps := ps) (m := m) k h
    by_cases e : q.1 = k
    · have e1 : dgetO (q :: m) k = some q.2 := by simp [dgetO, List.find?_cons, e]
      have e2 : p.1 = kf k := by rw [h1, e]
      rw [e1, valV_pos e2]
      exact ⟨fun x hx => ⟨p.2, rfl, by cases hx; exact h2⟩, fun z => by cases z⟩
    · have e1 : dgetO (q :: m) k = dgetO m k := by simp [dgetO, List.find?_cons, e]
      have e2 : ¬ p.1 = kf k := fun z => e (hk _ _ (h1.symm.trans z))
      rw [e1, valV_neg e2]
      exact ⟨i1, i2⟩
  | [], _ :: _, _, h => h.elim
  | _ :: _, [], _, h => h.elim
theorem AllD.any (hk : ∀ a b, kf a = kf b → a = b) {G : Hp} {ps : List (κ' × V)} {m : List (κ × α)} (k : κ) (h : AllD kf r G ps m) : (ps.any fun p => decide (p.1 = kf k)) = (m.any fun p => decide (p.1 = k)) := by
  rw [valV_any]
  obtain ⟨i1, i2⟩ := AllD.get hk k h
  have : (m.any fun p => decide (p.1 = k)) = (dgetO m k).isSome := by
    unfold dgetO
    rw [Option.isSome_map, List.isSome_find?]
  rw [this]
  cases e : dgetO m k with
  | none => rw [i2 e]; rfl
  | some x =>
    obtain ⟨v, hv, _⟩ := i1 x e
    rw [hv]; rfl
theorem AllD.app {G : Hp} : ∀ {ps ps' : List (κ' × V)} {m m' : List (κ × α)}, AllD kf r G ps m → AllD kf r G ps' m' → AllD kf r G (ps ++ ps') (m ++ m')
  | [], _, [], _, _, h => h
  | _ :: _, _, _ :: _, _, ⟨h1, h2, h⟩, k => ⟨h1, h2, AllD.app h k⟩
  | [], _, _ :: _, _, h, _ => h.elim
  | _ :: _, _, [], _, h, _ => h.elim
theorem AllD.upd (hk : ∀ a b, kf a = kf b → a = b) {G : Hp} {v : V} {x : α} (hv : r.rp G v x) (k : κ) : ∀ {ps : List (κ' × V)} {m : List (κ × α)}, AllD kf r G ps m → AllD kf r G (ps.map fun p => if p.1 = kf k then (p.1, v) else p) (m.map fun p => if p.1 = k then (p.1, x) else p)
  | [], [], h => h
  | p :: ps, q :: m, ⟨h1, h2, h⟩ => by
    rw [List.map_cons, List.map_cons]
    refine ⟨?_, ?_, AllD.upd hk hv k h⟩
    · by_cases e : q.1 = k
      · rw [if_pos e, if_pos (by rw [h1, e])]; exact h1
      · rw [if_neg e, if_neg (fun z => e (hk _ _ (h1.symm.trans z)))]; exact h1
    · by_cases e : q.1 = k
      · rw [if_pos e, if_pos (by rw [h1, e])]; exact hv
      · rw [if_neg e, if_neg (fun z => e (hk _ _ (h1.symm.trans z)))]; exact h2
  | [], _ :: _, h => h.elim
  | _ :: _, [], h => h.elim
theorem AllD.put (hk : ∀ a b, kf a = kf b → a = b) {G : Hp} {ps : List (κ' × V)} {m : List (κ × α)} {v : V} {x : α} (h : AllD kf r G ps m) (hv : r.rp G v x) (k : κ) : AllD kf r G (putK ps (kf k) v) (dput m k x) := by
  unfold putK dput
  rw [h.any hk k]
  by_cases e : (m.any fun p => decide (p.1 = k)) = true
  · rw [if_pos e, if_pos e]; exact AllD.upd hk hv k h
  · rw [if_neg e, if_neg e]; exact h.app ⟨rfl, hv, trivial⟩
theorem dput_len (m : List (κ × α)) (k : κ) (x : α) : (dput m k x).length ≤ m.length + 1 := by
  unfold dput
  split
  · rw [List.length_map]; omega
  · rw [List.length_append, List.length_singleton]; omega
end
theorem kInt_inj : ∀ a b, kInt a = kInt b → a = b := fun _ _ h => Sum.inl.inj h
theorem kStr_inj : ∀ a b, kStr a = kStr b → a = b := fun _ _ h => sOf_inj (Sum.inr.inj h)
/-- what a plain key looks like -/
structure KeyR {κ : Type} (kf : κ → Key) (r : Rep κ) : Prop where
  inj : ∀ a b, kf a = kf b → a = b
  rep : ∀ {G v x}, r.rp G v x → v = kV (kf x)
theorem keyI : KeyR kInt rInt := ⟨kInt_inj, fun h => h⟩
theorem keyS : KeyR kStr rStr := ⟨kStr_inj, fun h => h.1⟩
section
variable {κ : Type} [DecidableEq κ] {kf : κ → Key} {rk : Rep κ} {m : List (κ × α)} {k : κ}
theorem dg_of (hk : KeyR kf rk) {G H : Hp} {a : Addr} {ps : List (Key × V)} (h : H a = some (.dK ps)) {v : V} (hv : rk.rp G v k) : DGet H a v (valV ps (kf k)) := .inl ⟨ps, kf k, .inl h, hk.rep hv, rfl⟩
/-- d[k], k in d: of a frozen dict -/
theorem ev_dget {x : α} (hk : KeyR kf rk) (hd : Ev td Γ c c1 (tv (rDic kf rα) m)) (hi : Ev tk Γ c1 c2 (tv rk k)) (hm : dgetO m k = some x) : Ev (tDGet td tk) Γ c c2 (tv rα x) := fun σ G H e h Q q =>
  hd σ G H e h _ fun v G1 H1 a1 k1 => hi σ G1 H1 (e.mono a1.gg) a1.hld _ fun w G2 H2 a2 k2 => by
    obtain ⟨a, ps, h1, h2, h3, h4⟩ := (tv (rDic kf rα) m).mono a2.gg k1
    obtain ⟨y, hy, ry⟩ := (AllD.get hk.inj k h3).1 x hm
    exact ⟨a, y, h1, hy ▸ dg_of hk (a2.hld.ex _ _ h2) k2, q _ _ _ (a1.trans a2) ry⟩
theorem ev_din (hk : KeyR kf rk) (hi : Ev tk Γ c c1 (tv rk k)) (hd : Ev td Γ c1 c2 (tv (rDic kf rα) m)) : Ev (tDIn tk td) Γ c c2 (tv rBl (dgetO m k).isSome) := fun σ G H e h Q q =>
  hi σ G H e h _ fun w G1 H1 a1 k1 => hd σ G1 H1 (e.mono a1.gg) a1.hld _ fun v G2 H2 a2 ⟨a, ps, h1, h2, h3, h4⟩ => by
    refine ⟨a, valV ps (kf k), h1, dg_of hk (a2.hld.ex _ _ h2) ((tv rk k).mono a2.gg k1), ?_⟩
    have e1 : (valV ps (kf k)).isSome = (dgetO m k).isSome := by
      obtain ⟨i1, i2⟩ := AllD.get hk.inj k h3
      cases e : dgetO m k with
      | none => rw [i2 e]; rfl
      | some x => obtain ⟨v, hv, _⟩ := i1 x e; rw [hv]; rfl
    rw [e1]
    exact q _ _ _ (a1.trans a2) rfl
theorem ev_dnin (hk : KeyR kf rk) (hi : Ev tk Γ c c1 (tv rk k)) (hd : Ev td Γ c1 c2 (tv (rDic kf rα) m)) : Ev (tDNotIn tk td) Γ c c2 (tv rBl (!(dgetO m k).isSome)) := fun σ G H e h Q q =>
  hi σ G H e h _ fun w G1 H1 a1 k1 => hd σ G1 H1 (e.mono a1.gg) a1.hld _ fun v G2 H2 a2 ⟨a, ps, h1, h2, h3, h4⟩ => by
    refine ⟨a, valV ps (kf k), h1, dg_of hk (a2.hld.ex _ _ h2) ((tv rk k).mono a2.gg k1), ?_⟩
    have e1 : (valV ps (kf k)).isSome = (dgetO m k).isSome := by
      obtain ⟨i1, i2⟩ := AllD.get hk.inj k h3
      cases e : dgetO m k with
      | none => rw [i2 e]; rfl
      | some x => obtain ⟨v, hv, _⟩ := i1 x e; rw [hv]; rfl
    rw [e1]
    exact q _ _ _ (a1.trans a2) rfl
/-- the same of an owned dict -/
theorem ev_dgetO {x : α} {l : Addr} (hk : KeyR kf rk) (hd : Ev td Γ c c1 (tv rAddr l)) (hi : Ev tk Γ c1 c2 (tv rk k)) (hl : (l, tcD kf rα m) ∈ c2) (hm : dgetO m k = some x) : Ev (tDGet td tk) Γ c c2 (tv rα x) := fun σ G H e h Q q =>
  hd σ G H e h _ fun v G1 H1 a1 k1 => hi σ G1 H1 (e.mono a1.gg) a1.hld _ fun w G2 H2 a2 k2 => by
    have k1 : v = .ref l := k1
    obtain ⟨_, o, ho, ps, rfl, h3, h4⟩ := a2.hld.own _ hl
    obtain ⟨y, hy, ry⟩ := (AllD.get hk.inj k h3).1 x hm
    exact ⟨l, y, k1, hy ▸ dg_of hk ho k2, q _ _ _ (a1.trans a2) ry⟩
theorem ev_dinO {l : Addr} (hk : KeyR kf rk) (hi : Ev tk Γ c c1 (tv rk k)) (hd : Ev td Γ c1 c2 (tv rAddr l)) (hl : (l, tcD kf rα m) ∈ c2) : Ev (tDIn tk td) Γ c c2 (tv rBl (dgetO m k).isSome) := fun σ G H e h Q q =>
  hi σ G H e h _ fun w G1 H1 a1 k1 => hd σ G1 H1 (e.mono a1.gg) a1.hld _ fun v G2 H2 a2 k2 => by
    have k2 : v = .ref l := k2
    obtain ⟨_, o, ho, ps, rfl, h3, h4⟩ := a2.hld.own _ hl
    refine ⟨l, valV ps (kf k), k2, dg_of hk ho ((tv rk k).mono a2.gg k1), ?_⟩
    have e1 : (valV ps (kf k)).isSome = (dgetO m k).isSome := by
      obtain ⟨i1, i2⟩ := AllD.get hk.inj k h3
      cases e : dgetO m k with
      | none => rw [i2 e]; rfl
      | some x => obtain ⟨v, hv, _⟩ := i1 x e; rw [hv]; rfl
    rw [e1]
    exact q _ _ _ (a1.trans a2) rfl
theorem ev_dninO {l : Addr} (hk : KeyR kf rk) (hi : Ev tk Γ c c1 (tv rk k)) (hd : Ev td Γ c1 c2 (tv rAddr l)) (hl : (l, tcD kf rα m) ∈ c2) : Ev (tDNotIn tk td) Γ c c2 (tv rBl (!(dgetO m k).isSome)) := fun σ G H e h Q q =>
  hi σ G H e h _ fun w G1 H1 a1 k1 => hd σ G1 H1 (e.mono a1.gg) a1.hld _ fun v G2 H2 a2 k2 => by
    have k2 : v = .ref l := k2
    obtain ⟨_, o, ho, ps, rfl, h3, h4⟩ := a2.hld.own _ hl
    refine ⟨l, valV ps (kf k), k2, dg_of hk ho ((tv rk k).mono a2.gg k1), ?_⟩
    have e1 : (valV ps (kf k)).isSome = (dgetO m k).isSome := by
      obtain ⟨i1, i2⟩ := AllD.get hk.inj k h3
      cases e : dgetO m k with
      | none => rw [i2 e]; rfl
      | some x => obtain ⟨v, hv, _⟩ := i1 x e; rw [hv]; rfl
    rw [e1]
    exact q _ _ _ (a1.trans a2) rfl
/-- d[k] = v -/
theorem sv_dput {n : Nat} {l : Addr} {m' : List (κ × α)} {x : α} (hk : KeyR kf rk) (hv : Ev te Γ c c1 (tv rα x)) (hd : Ev td Γ c1 c2 (tv rAddr l)) (hi : Ev tk Γ c2 c3 (tv rk k)) (hn : c3[n]? = some (l, tcD kf rα m)) (hm : dputO m k x = some m') (kk : Im B Γ (c3.set n (l, tcD kf rα m')) D.nx) :
    Sv (sDPut td tk te) D B Γ c := fun σ H ⟨G, a, e⟩ =>
  hv σ G H e a.hld _ fun v G1 H1 a1 k1 => hd σ G1 H1 (e.mono a1.gg) a1.hld _ fun o G2 H2 a2 k2 => hi σ G2 H2 (e.mono (a1.gg.trans a2.gg)) a2.hld _ fun iv G3 H3 a3 k3 => by
    have k2 : o = .ref l := k2
    obtain ⟨g, o, ho, ps, rfl, h3, h4⟩ := a3.hld.cell hn
    unfold dputO at hm
    split at hm
    · rename_i hlt
      cases hm
      have k4 := hk.rep k3
      subst k4
      refine ⟨l, _, k2, DPut.k ho (by rw [h3.len]; exact hlt), ?_⟩
      have a4 := Aft.wrN (t' := tcD kf rα (dput m k x)) (o := .dK (putK ps (kf k) v)) hn a3.hld ⟨_, rfl, h3.put hk.inj ((tv rα x).mono (a2.gg.trans a3.gg) k1) k, by have := dput_len m k x; omega⟩
      exact kk _ _ ⟨_, a.trans (((a1.trans a2).trans a3).trans a4), e.mono (((a1.gg.trans a2.gg).trans a3.gg).trans a4.gg)⟩
    · cases hm
end
end
end TW
namespace TW
open PySem L2
/-! ### objects -/
def FsOk (G : Hp) : List (Str × V) → List (Str × TV) → Prop
  | [], [] => True
  | p :: ps, q :: qs => p.1 = q.1 ∧ q.2.ok G p.2 ∧ FsOk G ps qs
  | _, _ => False
theorem FsOk.mono {G G' : Hp} (e : Ex G G') : ∀ {ps : List (Str × V)} {qs : List (Str × TV)}, FsOk G ps qs → FsOk G' ps qs
  | [], [], h => h
  | _ :: _, q :: _, ⟨h1, h2, h⟩ => ⟨h1, q.2.mono e h2, FsOk.mono e h⟩
  | [], _ :: _, h => h.elim
  | _ :: _, [], h => h.elim
theorem FsOk.len {G : Hp} : ∀ {ps : List (Str × V)} {qs : List (Str × TV)}, FsOk G ps qs → ps.length = qs.length
  | [], [], h => rfl
  | _ :: _, q :: _, ⟨_, _, h⟩ => congrArg (· + 1) (FsOk.len h)
  | [], _ :: _, h => h.elim
  | _ :: _, [], h => h.elim
/-- by name, as it is decided -/
def fget : List (Str × TV) → Str → Option TV
  | [], _ => none
  | p :: r, f => if f = p.1 then some p.2 else fget r f
def fput (f : Str) (P : TV) : List (Str × TV) → List (Str × TV)
  | [] => [(f, P)]
  | (g, x) :: r => if g = f then (g, P) :: r else (g, x) :: fput f P r
theorem FsOk.get {G : Hp} {f : Str} : ∀ {ps : List (Str × V)} {qs : List (Str × TV)}, FsOk G ps qs → (∀ P, fget qs f = some P → ∃ v, ps.lookup f = some v ∧ P.ok G v) ∧ (fget qs f = none → ps.lookup f = none)
  | [], [], _ => ⟨fun P h => (by cases h), fun _ => rfl⟩
  | p :: ps, q :: qs, ⟨h1, h2, h⟩ => by
    obtain ⟨i1, i2⟩ := FsOk.get (f := f) h
    by_cases e : f = q.1
    · have hb : (f == p.1) = true := beq_iff_eq.mpr (by rw [h1]; exact e)
      have e1 : fget (q :: qs) f = some q.2 := by simp only [fget, if_pos e]
      have e2 : List.lookup f (p :: ps) = some p.2 := by
        obtain ⟨g, v⟩ := p
        simp only [List.lookup, show (f == g) = true from hb]
      rw [e1, e2]
      exact ⟨fun P hP => ⟨p.2, rfl, by cases hP; exact h2⟩, fun z => by cases z⟩
    · have hb : (f == p.1) = false := beq_eq_false_iff_ne.mpr (fun z => e (by rw [← h1]; exact z))
      have e1 : fget (q :: qs) f = fget qs f := by simp only [fget, if_neg e]
      have e2 : List.lookup f (p :: ps) = List.lookup f ps := by
        obtain ⟨g, v⟩ := p
        simp only [List.lookup, show (f == g) = false from hb]
      rw [e1, e2]
      exact ⟨i1, i2⟩
  | [], _ :: _, h => h.elim
  | _ :: _, [], h => h.elim
theorem FsOk.put {G : Hp} {f : Str} {P : TV} {v : V} (hv : P.ok G v) : ∀ {ps : List (Str × V)} {qs : List (Str × TV)}, FsOk G ps qs → FsOk G (putF f v ps) (fput f P qs)
  | [], [], _ => ⟨rfl, hv, trivial⟩
  | (g, x) :: ps, (g', y) :: qs, ⟨h1, h2, h⟩ => by
    have h1 : g = g' := h1
    subst h1
    show FsOk G (if g = f then (g, v) :: ps else (g, x) :: putF f v ps) (if g = f then (g, P) :: qs else (g, y) :: fput f P qs)
    by_cases e : g = f
    · rw [if_pos e, if_pos e]; exact ⟨rfl, hv, h⟩
    · rw [if_neg e, if_neg e]; exact ⟨rfl, h2, FsOk.put hv h⟩
  | [], _ :: _, h => h.elim
  | _ :: _, [], h => h.elim
/-- an instance, frozen -/
def tvObj (C : Addr) (Fl : List (Str × TV)) : TV := ⟨fun G v => ∃ a dx fs, v = .ref a ∧ G a = some (.ins C dx fs) ∧ FsOk G fs Fl, fun e ⟨a, dx, fs, h1, h2, h3⟩ => ⟨a, dx, fs, h1, e _ _ h2, h3.mono e⟩⟩
/-- an instance, owned -/
def tcIns (C : Addr) (Fl : List (Str × TV)) : TC := ⟨fun G o => ∃ dx fs, o = .ins C dx fs ∧ FsOk G fs Fl, fun e ⟨dx, fs, h1, h2⟩ => ⟨dx, fs, h1, h2.mono e⟩⟩
/-- None, and what stands at x -/
def tvInit (x : Addr) (O : TV) : TV := ⟨fun G v => v = .non ∧ O.ok G (.ref x), fun e ⟨h1, h2⟩ => ⟨h1, O.mono e h2⟩⟩
section
variable {Γ Γ' Γ'' : TEnv} {c c1 c2 c3 : Cells} {P P' P2 R : TV} {ta tb td te tk tw : TE} {t u w : TS} {tt : TT} {K : PySem.W.Frag} {α β γ : Type} {rα : Rep α} {rβ : Rep β} {D : Ends} {B : Bs} {C : Addr} {Fl : List (Str × TV)} {f : Str}
theorem ev_fld (h : Ev ta Γ c c1 (tvObj C Fl)) (hc : Cls K C) (hn : NoAttr K C f) (hl : fget Fl f = some P) : Ev (tFld K ta f) Γ c c1 P := fun σ G H e hd Q q =>
  h σ G H e hd _ fun v G1 H1 a1 ⟨a, dx, fs, h1, h2, h3⟩ => by
    obtain ⟨y, hy, py⟩ := h3.get.1 P hl
    exact ⟨a, C, dx, fs, y, h1, a1.hld.ex _ _ h2, hc, hn, hy, q _ _ _ a1 py⟩
theorem ev_fldO {p : Addr} (h : Ev ta Γ c c1 (tv rAddr p)) (ho : (p, tcIns C Fl) ∈ c1) (hc : Cls K C) (hn : NoAttr K C f) (hl : fget Fl f = some P) : Ev (tFld K ta f) Γ c c1 P := fun σ G H e hd Q q =>
  h σ G H e hd _ fun v G1 H1 a1 k1 => by
    obtain ⟨_, o, hob, dx, fs, rfl, h3⟩ := a1.hld.own _ ho
    obtain ⟨y, hy, py⟩ := h3.get.1 P hl
    exact ⟨p, C, dx, fs, y, k1, hob, hc, hn, hy, q _ _ _ a1 py⟩
/-- o.f = e, the instance owned -/
theorem sv_fldX {p : Addr} {W : Cells → TV → Prop} {n : Nat} (hv : EvX te Γ c W) (hoC : ∀ c' P', W c' P' → Ev ta Γ c' c' (tv rAddr p)) (hn : ∀ c' P', W c' P' → c'[n]? = some (p, tcIns C Fl)) (hc : Cls K C) (hna : NoAttr K C f) (hl : Fl.length < 1000)
    (k : ∀ c' P', W c' P' → Im B Γ (c'.set n (p, tcIns C (fput f P' Fl))) D.nx) : Sv (sFld K ta te f) D B Γ c := fun σ H ⟨G, a, e⟩ =>
  hv σ G H e a.hld _ fun c' P' v G1 H1 w a1 k1 => hoC c' P' w σ G1 H1 (e.mono a1.gg) a1.hld _ fun x G2 H2 a2 k2 => by
    obtain ⟨g, o, hob, dx, fs, rfl, h3⟩ := a2.hld.cell (hn c' P' w)
    refine ⟨p, C, dx, fs, k2, hob, hc, hna, by rw [h3.len]; exact hl, ?_⟩
    have a3 := Aft.wrN (t' := tcIns C (fput f P' Fl)) (o := .ins C dx (putF f v fs)) (hn c' P' w) a2.hld ⟨dx, _, rfl, h3.put (P'.mono a2.gg k1)⟩
    exact k c' P' w _ _ ⟨_, a.trans ((a1.trans a2).trans a3), e.mono ((a1.gg.trans a2.gg).trans a3.gg)⟩
theorem Ev.x (h : Ev te Γ c c1 P) : EvX te Γ c (fun c' P' => c' = c1 ∧ P' = P) := fun σ G H e hd Q q => h σ G H e hd Q fun v G' H' a k => q c1 P v G' H' ⟨rfl, rfl⟩ a k
theorem sv_fld {p : Addr} {n : Nat} (hv : Ev te Γ c c1 P) (ho : Ev ta Γ c1 c1 (tv rAddr p)) (hn : c1[n]? = some (p, tcIns C Fl)) (hc : Cls K C) (hna : NoAttr K C f) (hl : Fl.length < 1000)
    (k : Im B Γ (c1.set n (p, tcIns C (fput f P Fl))) D.nx) : Sv (sFld K ta te f) D B Γ c :=
  sv_fldX (p := p) (n := n) hv.x (fun c' P' w => w.1 ▸ ho) (fun c' P' w => w.1 ▸ hn) hc hna hl fun c' P' w => by
    obtain ⟨e1, e2⟩ := w
    rw [e1, e2]; exact k
theorem sv_fldN {p : Addr} {n : Nat} {x : TC} (hv : EvN te Γ c c1 x) (ho : ∀ l, Ev ta Γ (c1 ++ [(l, x)]) (c1 ++ [(l, x)]) (tv rAddr p)) (hn : ∀ l, (c1 ++ [(l, x)])[n]? = some (p, tcIns C Fl)) (hc : Cls K C) (hna : NoAttr K C f) (hl : Fl.length < 1000)
    (k : ∀ l, Im B Γ ((c1 ++ [(l, x)]).set n (p, tcIns C (fput f (tv rAddr l) Fl))) D.nx) : Sv (sFld K ta te f) D B Γ c :=
  sv_fldX (p := p) (n := n) hv (fun c' P' ⟨l, e1, e2⟩ => by subst e1; exact ho l) (fun c' P' ⟨l, e1, e2⟩ => by subst e1; exact hn l) hc hna hl fun c' P' ⟨l, e1, e2⟩ => by subst e1 e2; exact k l
/-! ### promises and calls -/
def spOf (R : Hp → List V → Cells → (Cells → TV → Prop) → Prop) : Sp := fun vs H Q _ => ∃ G c W, Hld G c H ∧ R G vs c W ∧ ∀ c' P v G' H', W c' P → Aft G c H G' c' H' → P.ok G' v → Q v H'
def W1 (c : Cells) (P : TV) : Cells → TV → Prop := fun c' P' => c' = c ∧ P' = P
variable {R : Hp → List V → Cells → (Cells → TV → Prop) → Prop} {Ps : List TV} {tl : TA}
theorem evx_call {W : Cells → TV → Prop} (ha : EvA tl Γ c (c1 ++ c2) Ps) (hR : ∀ G vs, VsOk G Ps vs → R G vs c1 W) : EvX (tCall (spOf R) [] E0 tl) Γ c (fun c' P => ∃ c0, W c0 P ∧ c' = c0 ++ c2) := fun σ G H e hd Q q =>
  ha σ G H e hd _ fun vs G1 H1 a1 k1 => by
    rw [List.append_nil]
    exact ⟨G1, c1, W, a1.hld.left, hR G1 vs k1, fun c' P v G' H' w a k => q _ P v G' H' ⟨c', w, rfl⟩ (a1.trans (Aft.frame a1.hld a)) k⟩
theorem ev_call (ha : EvA tl Γ c (c1 ++ c2) Ps) (hR : ∀ G vs, VsOk G Ps vs → R G vs c1 (W1 c3 P)) : Ev (tCall (spOf R) [] E0 tl) Γ c (c3 ++ c2) P := fun σ G H e hd Q q =>
  evx_call ha hR σ G H e hd Q fun c' P' v G' H' ⟨c0, ⟨h1, h2⟩, h3⟩ a k => by
    subst h1 h2 h3
    exact q v G' H' a k
/-- a def that touches nothing -/
theorem ev_callP (ha : EvA tl Γ c c1 Ps) (hR : ∀ G vs, VsOk G Ps vs → R G vs [] (W1 [] P)) : Ev (tCall (spOf R) [] E0 tl) Γ c c1 P := ev_call (c1 := []) (c3 := []) ha hR
/-- an owned list is lent to a def that touches nothing and gives a scalar -/
theorem ev_lend {i n : Nat} {l : Addr} {xs : List α} {te : TE} (hs : P.Sc) (hi : Γ[i]? = some (some (tv rAddr l))) (hn : c[n]? = some (l, tcL rα xs)) (h : Ev te (Γ.set i (some (tv (rLst rα) xs))) [] [] P) : Ev te Γ c c P := fun σ G H e hd Q q => by
  obtain ⟨v, h1, h2⟩ := e.get hi
  have h2 : v = .ref l := h2
  subst h2
  obtain ⟨o, G2, g, ⟨vs, k1, k2, k3⟩, h4, a2⟩ := Aft.frzN hn hd
  have e2 := (e.mono a2.gg).set (P := tv (rLst rα) xs) (v := .ref l) ⟨l, vs, rfl, by rw [g, upd_same, k1], k2.mono a2.gg, k3⟩ i
  have e3 : σ.set i (some (.ref l)) = σ := by
    obtain ⟨hi', e4⟩ := List.getElem?_eq_some_iff.mp h1
    rw [← e4]; exact List.set_getElem_self hi'
  rw [e3] at e2
  have hd2 : Hld G2 [] H := ⟨a2.hld.ex, List.nodup_nil, fun p hp => by cases hp⟩
  refine h σ G2 H e2 hd2 Q fun v G3 H3 a3 k => q v G H3 ?_ (hs _ _ _ k)
  have kp : ∀ a o, H a = some o → H3 a = some o := fun a o ho => a3.keep a o ho (by simp)
  exact ⟨Ex.rfl G, fun a o ho _ => kp a o ho, fun a o ho _ g => g, fun a ha => .inl ha, fun a o ho => kp a o (hd.ex a o ho), hd.nd, fun p hp => by
    obtain ⟨g1, o1, g2, g3⟩ := hd.own p hp
    exact ⟨g1, o1, kp _ _ g2, g3⟩⟩
/-- the first of two arguments is the owned list itself -/
theorem ev_meth {m : Str} {to : TE} (ho : Ev to Γ c c1 (tvObj C Fl)) (hm : fget Fl m = none) (ha : EvA tl Γ c1 (c2 ++ c3) Ps) {c4 : Cells} (hR : ∀ G v vs, (tvObj C Fl).ok G v → VsOk G Ps vs → R G (v :: vs) c2 (W1 c4 P)) :
    Ev (tMeth C m (spOf R) [] E0 to tl) Γ c (c4 ++ c3) P := fun σ G H e hd Q q =>
  ho σ G H e hd _ fun v G1 H1 a1 k1 => by
    obtain ⟨a, dx, fs, h1, h2, h3⟩ := id k1
    refine ⟨a, dx, fs, h1, a1.hld.ex _ _ h2, h3.get.2 hm, ha σ G1 H1 (e.mono a1.gg) a1.hld _ fun vs G2 H2 a2 k2 => ?_⟩
    rw [List.append_nil]
    refine ⟨G2, c2, _, a2.hld.left, hR G2 v vs ((tvObj C Fl).mono a2.gg k1) k2, fun c' P' v' G' H' ⟨w1, w2⟩ a k => ?_⟩
    subst w1 w2
    exact q _ _ _ ((a1.trans a2).trans (Aft.frame a2.hld a)) k
theorem evx_meth {m : Str} {to : TE} {W : Cells → TV → Prop} (ho : Ev to Γ c c1 (tvObj C Fl)) (hm : fget Fl m = none) (ha : EvA tl Γ c1 (c2 ++ c3) Ps) (hR : ∀ G v vs, (tvObj C Fl).ok G v → VsOk G Ps vs → R G (v :: vs) c2 W) :
    EvX (tMeth C m (spOf R) [] E0 to tl) Γ c (fun c' P => ∃ c0, W c0 P ∧ c' = c0 ++ c3) := fun σ G H e hd Q q =>
  ho σ G H e hd _ fun v G1 H1 a1 k1 => by
    obtain ⟨a, dx, fs, h1, h2, h3⟩ := id k1
    refine ⟨a, dx, fs, h1, a1.hld.ex _ _ h2, h3.get.2 hm, ha σ G1 H1 (e.mono a1.gg) a1.hld _ fun vs G2 H2 a2 k2 => ?_⟩
    rw [List.append_nil]
    exact ⟨G2, c2, W, a2.hld.left, hR G2 v vs ((tvObj C Fl).mono a2.gg k1) k2, fun c' P' v' G' H' w a k => q _ _ _ _ _ ⟨c', w, rfl⟩ ((a1.trans a2).trans (Aft.frame a2.hld a)) k⟩
/-- C(..) -/
theorem evx_make {W : Addr → Cells → TV → Prop} (ha : EvA tl Γ c c1 Ps) (hR : ∀ x G vs, VsOk G Ps vs → R G (.ref x :: vs) [(x, tcIns C [])] (fun c' P => ∃ O, P = tvInit x O ∧ W x c' O)) : EvX (tMake C (spOf R) [] E0 tl) Γ c (fun c' O => ∃ x c0, W x c0 O ∧ c' = c1 ++ c0) := fun σ G H e hd Q q =>
  ha σ G H e hd _ fun vs G1 H1 a1 k1 x dx hx hdx hne => by
    rw [List.append_nil]
    -- the instance's own dict is junk to us
    have hj : Hld G1 c1 (upd H1 dx (.own x)) := ⟨fun a o g => by rw [upd_ne (ne_of_none (a1.hld.ex a o g) hdx)]; exact a1.hld.ex a o g, a1.hld.nd, fun p hp => by
      obtain ⟨g1, o1, g2, g3⟩ := a1.hld.own p hp
      exact ⟨g1, o1, by rw [upd_ne (ne_of_none g2 hdx)]; exact g2, g3⟩⟩
    have aj : Aft G1 c1 H1 G1 c1 (upd H1 dx (.own x)) := ⟨Ex.rfl _, fun a o g _ => by rw [upd_ne (ne_of_none g hdx)]; exact g, fun a o _ _ g => g, fun a h => .inl h, hj⟩
    have a2 := Aft.own1 (p := x) (o := .ins C dx []) (t := tcIns C []) hj (by rw [upd_ne hne.symm]; exact hx) ⟨dx, [], rfl, trivial⟩
    have e1 : ((x, tcIns C []) :: c1) = [(x, tcIns C [])] ++ c1 := rfl
    rw [e1] at a2
    refine ⟨G1, [(x, tcIns C [])], _, a2.hld.left, hR x G1 vs k1, fun c' P v G' H' ⟨O, w1, w2⟩ a k => ?_⟩
    subst w1
    obtain ⟨k3, k4⟩ := k
    refine ⟨k3, q _ O _ G' H' ⟨x, c', w2, rfl⟩ ?_ k4⟩
    have a3 := ((a1.trans aj).trans a2).trans (Aft.frame a2.hld a)
    refine a3.sub ?_ fun p hp => List.mem_append.mpr ((List.mem_append.mp hp).elim .inr .inl)
    have nd := a3.hld.nd
    have e2 : ads (c' ++ c1) = ads c' ++ ads c1 := by simp [ads]
    have e3 : ads (c1 ++ c') = ads c1 ++ ads c' := by simp [ads]
    rw [e2] at nd
    rw [e3]
    exact List.perm_append_comm.nodup nd
/-! a def's entry -/
theorem env_start {G : Hp} {N : List Str} {vs : List V} (h : VsOk G Ps vs) : EnvOk G (Ps.map some ++ List.replicate (N.length - Ps.length) none) (L2.start N vs) := by
  unfold L2.start
  rw [h.len]
  exact EnvOk.start _ h
/-- the end of an __init__: the instance is frozen -/
theorem im_init {n : Nat} {x : Addr} {Q : VK} {c0 : Cells} (h0 : c[n]? = some (x, tcIns C Fl)) (hs : c0.Sublist (c.eraseIdx n)) (k : RT Q B c0 (tvInit x (tvObj C Fl))) : Im B Γ c (fun _ H => Q .non H) := fun σ H ⟨G, a, e⟩ => by
  obtain ⟨o, G2, g, ⟨dx, fs, k1, k2⟩, h4, a2⟩ := Aft.frzN h0 a.hld
  refine k _ G2 H ((a.trans a2).drop hs) ⟨rfl, x, dx, fs, rfl, ?_, k2.mono a2.gg⟩
  rw [g, upd_same, k1]
theorem im_fall {Q : VK} {c0 : Cells} (hs : c0.Sublist c) (k : RT Q B c0 (tv rNon ())) : Im B Γ c (fun _ H => Q .non H) := fun σ H ⟨G, a, e⟩ => k _ G H (a.drop hs) rfl
end
/-! ### dicts whose keys are pairs of ints -/
section
variable {Γ Γ' Γ'' : TEnv} {c c1 c2 c3 : Cells} {P P' P2 R : TV} {ta tb td te tk tw : TE} {K : PySem.W.Frag} {α : Type} {rα : Rep α} {D : Ends} {B : Bs}
def kPair (p : Int × Int) : List Key := [Sum.inl p.1, Sum.inl p.2]
theorem kPair_inj : ∀ a b, kPair a = kPair b → a = b := fun a b h => by
  have h1 := (List.cons.inj h).1
  have h2 := (List.cons.inj (List.cons.inj h).2).1
  exact Prod.ext (Sum.inl.inj h1) (Sum.inl.inj h2)
/-- a key that is made on the way, a new tuple -/
def rPairK : Rep (Int × Int) := ⟨fun G v x => ∃ a, v = .ref a ∧ G a = some (.tup [.int x.1, .int x.2]), fun e ⟨a, h1, h2⟩ => ⟨a, h1, e _ _ h2⟩⟩
theorem ev_pairK {x y : Int} (ha : Ev ta Γ c c1 (tv rInt x)) (hb : Ev tb Γ c1 c2 (tv rInt y)) : Ev (tTup (tCons ta (tCons tb tNil))) Γ c c2 (tv rPairK (x, y)) :=
  ev_tup (ea_two ha hb) (by show 2 ≤ sizeLine; decide) fun G p vs h hp => by
    obtain ⟨u, w, e, k1, k2⟩ := vs2 h
    have k1 : u = .int x := k1
    have k2 : w = .int y := k2
    subst e k1 k2
    exact ⟨p, rfl, hp⟩
theorem dgT_of {G H : Hp} {a : Addr} {ps : List (List Key × V)} {k : Int × Int} (h : H a = some (.dT ps)) {v : V} (e : Ex G H) (hv : rPairK.rp G v k) : DGet H a v (valV ps (kPair k)) := by
  obtain ⟨b, h1, h2⟩ := hv
  exact .inr ⟨ps, kPair k, b, .inl h, h1, e _ _ h2, rfl⟩
theorem ev_dgetT {x : α} {l : Addr} {m : List ((Int × Int) × α)} {k : Int × Int} (hd : Ev td Γ c c1 (tv rAddr l)) (hi : Ev tk Γ c1 c2 (tv rPairK k)) (hl : (l, tcDT kPair rα m) ∈ c2) (hm : dgetO m k = some x) : Ev (tDGet td tk) Γ c c2 (tv rα x) := fun σ G H e h Q q =>
  hd σ G H e h _ fun v G1 H1 a1 k1 => hi σ G1 H1 (e.mono a1.gg) a1.hld _ fun w G2 H2 a2 k2 => by
    have k1 : v = .ref l := k1
    obtain ⟨_, o, ho, ps, rfl, h3, h4⟩ := a2.hld.own _ hl
    obtain ⟨y, hy, ry⟩ := (AllD.get kPair_inj k h3).1 x hm
    exact ⟨l, y, k1, hy ▸ dgT_of ho a2.hld.ex k2, q _ _ _ (a1.trans a2) ry⟩
theorem isS_of {m : List ((Int × Int) × α)} {k : Int × Int} {G : Hp} {ps : List (List Key × V)} (h3 : AllD kPair rα G ps m) : (valV ps (kPair k)).isSome = (dgetO m k).isSome := by
  obtain ⟨i1, i2⟩ := AllD.get kPair_inj k h3
  cases e : dgetO m k with
  | none => rw [i2 e]; rfl
  | some x => obtain ⟨v, hv, _⟩ := i1 x e; rw [hv]; rfl
theorem ev_dninT {l : Addr} {m : List ((Int × Int) × α)} {k : Int × Int} (hi : Ev tk Γ c c1 (tv rPairK k)) (hd : Ev td Γ c1 c2 (tv rAddr l)) (hl : (l, tcDT kPair rα m) ∈ c2) : Ev (tDNotIn tk td) Γ c c2 (tv rBl (!(dgetO m k).isSome)) := fun σ G H e h Q q =>
  hi σ G H e h _ fun w G1 H1 a1 k1 => hd σ G1 H1 (e.mono a1.gg) a1.hld _ fun v G2 H2 a2 k2 => by
    have k2 : v = .ref l := k2
    obtain ⟨_, o, ho, ps, rfl, h3, h4⟩ := a2.hld.own _ hl
    refine ⟨l, valV ps (kPair k), k2, dgT_of ho a2.hld.ex ((tv rPairK k).mono a2.gg k1), ?_⟩
    rw [isS_of h3]
    exact q _ _ _ (a1.trans a2) rfl
theorem ev_dinT {l : Addr} {m : List ((Int × Int) × α)} {k : Int × Int} (hi : Ev tk Γ c c1 (tv rPairK k)) (hd : Ev td Γ c1 c2 (tv rAddr l)) (hl : (l, tcDT kPair rα m) ∈ c2) : Ev (tDIn tk td) Γ c c2 (tv rBl (dgetO m k).isSome) := fun σ G H e h Q q =>
  hi σ G H e h _ fun w G1 H1 a1 k1 => hd σ G1 H1 (e.mono a1.gg) a1.hld _ fun v G2 H2 a2 k2 => by
    have k2 : v = .ref l := k2
    obtain ⟨_, o, ho, ps, rfl, h3, h4⟩ := a2.hld.own _ hl
    refine ⟨l, valV ps (kPair k), k2, dgT_of ho a2.hld.ex ((tv rPairK k).mono a2.gg k1), ?_⟩
    rw [isS_of h3]
    exact q _ _ _ (a1.trans a2) rfl
theorem sv_dputT {n : Nat} {l : Addr} {m m' : List ((Int × Int) × α)} {k : Int × Int} {x : α} (hv : Ev te Γ c c1 (tv rα x)) (hd : Ev td Γ c1 c2 (tv rAddr l)) (hi : Ev tk Γ c2 c3 (tv rPairK k)) (hn : c3[n]? = some (l, tcDT kPair rα m)) (hm : dputO m k x = some m') (kk : Im B Γ (c3.set n (l, tcDT kPair rα m')) D.nx) :
    Sv (sDPut td tk te) D B Γ c := fun σ H ⟨G, a, e⟩ =>
  hv σ G H e a.hld _ fun v G1 H1 a1 k1 => hd σ G1 H1 (e.mono a1.gg) a1.hld _ fun o G2 H2 a2 k2 => hi σ G2 H2 (e.mono (a1.gg.trans a2.gg)) a2.hld _ fun iv G3 H3 a3 k3 => by
    have k2 : o = .ref l := k2
    obtain ⟨g, o, ho, ps, rfl, h3, h4⟩ := a3.hld.cell hn
    unfold dputO at hm
    split at hm
    · rename_i hlt
      cases hm
      obtain ⟨b, k4, k5⟩ := k3
      subst k4
      refine ⟨l, _, k2, DPut.t (k := kPair k) ho (a3.hld.ex _ _ k5) (by rw [h3.len]; exact hlt), ?_⟩
      have a4 := Aft.wrN (t' := tcDT kPair rα (dput m k x)) (o := .dT (putK ps (kPair k) v)) hn a3.hld ⟨_, rfl, h3.put kPair_inj ((tv rα x).mono (a2.gg.trans a3.gg) k1) k, by have := dput_len m k x; omega⟩
      exact kk _ _ ⟨_, a.trans (((a1.trans a2).trans a3).trans a4), e.mono (((a1.gg.trans a2.gg).trans a3.gg).trans a4.gg)⟩
    · cases hm
end
end TW
/-! Sets whose members are nested tuples, below 64 of them: set(list), sorted(set). -/
namespace TW.SetN
open PySem L2
abbrev NK := NestedKey
abbrev IsN (h : Heap) (k : NK) (b : Addr) : Prop := NestedIs h k (.ref b) ∧ k.depth ≤ 8
abbrev hN (w : World) (k : NK) : Int := k.hash w
section
variable {P : Program} {w : World} {A : Around} {E : Value → Shared → Prop} {s : Shared}
theorem isN_mv {h h' : Heap} {k : NK} {b : Addr} (x : IsN h k b) (mv : ∀ a o vs n, h.get? a = some o → o.data = .seq vs n → h'.get? a = some o) : IsN h' k b := ⟨NestedIs.at mv k _ x.1, x.2⟩
theorem isN_keep {h h' : Heap} {k : NK} {b : Addr} (x : IsN h k b) (mv : ∀ a o, h.get? a = some o → h'.get? a = some o) : IsN h' k b := isN_mv x fun a o _ _ e _ => mv a o e
theorem isN_but {h h' : Heap} {k : NK} {a b : Addr} {o : Obj} {es : Array (Int × Value)} {ep : Nat} {t : SetTable} (x : IsN h k b) (ho : h.get? a = some o) (hd : o.data = .set es ep t) (sb : Heap.SameBut a h h') : IsN h' k b :=
  isN_mv x fun c ob vs n e d => by
    have ne : c ≠ a := by
      intro z; subst z
      rw [ho] at e; cases e
      rw [hd] at d; cases d
    exact (sb.2 c ne).trans e
theorem isN_ref {h : Heap} {k : NK} {b : Addr} (x : IsN h k b) : ∃ ks o vs n, k = .tup ks ∧ h.get? b = some o ∧ o.cls = .type "tuple" ∧ o.data = .seq vs n ∧ NestedAll h ks vs.toList := by
  obtain ⟨x, _⟩ := x
  cases x with
  | tup h1 h2 h3 h4 => exact ⟨_, _, _, _, rfl, h1, h2, h3, h4⟩
/-! ### the model's small questions -/
theorem class_scalar (n : Nat) (v : Value) (h : ∀ a, v ≠ .ref a) : ofAClassStatement n v = pure false := by
  cases n <;> cases v <;> first
    | rfl
    | exact absurd rfl (h _)
mutual
theorem class_key : ∀ (k : NK) (v : Value) (n : Nat) (A : Around) (s : Shared) (Q : Bool → Shared → Prop), NestedIs s.heap k v → k.depth ≤ n → Q false s → wpAny (model P w) A (ofAClassStatement n v) Q E s
  | .none, v, n, A, s, Q, x, _, q => by
    cases x
    rw [class_scalar n _ (fun a z => by cases z)]
    exact wpAny_pure q
  | .num i, v, n, A, s, Q, x, _, q => by
    rw [class_scalar n _ (fun a z => by subst z; cases x)]
    exact wpAny_pure q
  | .text z, v, n, A, s, Q, x, _, q => by
    rw [class_scalar n _ (fun a z => by subst z; cases x)]
    exact wpAny_pure q
  | .tup ks, v, n, A, s, Q, x, hn, q => by
    cases x with
    | @tup a o vs m _ h1 h2 h3 h4 =>
      have hn : NestedKey.depthAll ks + 1 ≤ n := hn
      cases n with
      | zero => omega
      | succ n =>
        have hT : s.TypeIs (.ref a) "tuple" := ⟨o, h1, h2⟩
        unfold ofAClassStatement
        refine wpAny_bind (wpAny_typeOf hT ?_)
        dsimp only
        rw [show (("tuple" : String) == "tuple") = true by decide]
        simp only [if_true, Bool.not_true, Bool.false_eq_true, if_false]
        refine wpAny_bind (wpAny_pure ?_)
        try simp only [Bool.not_true, Bool.false_eq_true, if_false]
        try refine wpAny_bind (wpAny_pure ?_)
        show wpAny _ _ (seqItems? (.ref a) >>= _) _ _ s
        refine wpAny_bind (wpAny_seqItems h1 h3 ?_)
        dsimp only
        refine wpAny_bind ?_
        show wpAny _ _ (forIn vs _ _) _ _ s
        rw [← Array.forIn_toList]
        refine wpAny_forIn_list _ (fun rest r s' => r.1 = none ∧ s' = s ∧ ∀ u ∈ rest, u ∈ vs.toList) _ ?_ ?_ _ _ ⟨rfl, rfl, fun u hu => hu⟩
        · rintro u rest r s' ⟨hr, rfl, hall⟩
          refine wpAny_bind (class_keys ks vs.toList n A s' _ h4 (by omega) u (hall u List.mem_cons_self) ?_)
          simp only [Bool.false_eq_true, if_false]
          exact wpAny_pure ⟨rfl, rfl, fun z hz => hall z (List.mem_cons_of_mem _ hz)⟩
        · rintro ⟨r1, r2⟩ s' ⟨hr, rfl, _⟩
          have hr : r1 = none := hr
          subst hr
          exact wpAny_pure q
theorem class_keys : ∀ (ks : List NK) (vs : List Value) (n : Nat) (A : Around) (s : Shared) (Q : Bool → Shared → Prop), NestedAll s.heap ks vs → NestedKey.depthAll ks ≤ n → ∀ u ∈ vs, Q false s → wpAny (model P w) A (ofAClassStatement n u) Q E s
  | [], _, n, A, s, Q, x, _, u, hu, q => by cases x; cases hu
  | k :: ks, _, n, A, s, Q, x, hn, u, hu, q => by
    have hn : max k.depth (NestedKey.depthAll ks) ≤ n := hn
    cases x with
    | cons x1 x2 =>
      rcases List.mem_cons.mp hu with e | hu
      · rw [e]; exact class_key k _ n A s Q x1 (by omega) q
      · exact class_keys ks _ n A s Q x2 (by omega) u hu q
end
/-- a search among such keys shows nothing -/
theorem seen_key {k : NK} {b : Addr} {Q : Bool → Shared → Prop} (x : IsN s.heap k b) {ys : List Value} (hy : ∀ y ∈ ys, ∃ k' c, y = Value.ref c ∧ IsN s.heap k' c) (q : Q false s) :
    wpAny (model P w) A (searchCouldBeSeen (.ref b) ys) Q E s := by
  unfold searchCouldBeSeen
  refine wpAny_bind ?_
  refine wpAny_forIn_list _ (fun rest r s' => r.1 = none ∧ s' = s ∧ ∀ y ∈ rest, ∃ k' c, y = Value.ref c ∧ IsN s.heap k' c) _ ?_ ?_ _ _ ⟨rfl, rfl, hy⟩
  · rintro v rest r s' ⟨hr, rfl, hall⟩
    obtain ⟨k', c, rfl, y⟩ := hall v List.mem_cons_self
    have fin : none = (none : Option Bool) ∧ s' = s' ∧ ∀ y ∈ rest, ∃ k' c, y = Value.ref c ∧ IsN s'.heap k' c := ⟨rfl, rfl, fun u hu => hall u (List.mem_cons_of_mem _ hu)⟩
    dsimp only
    by_cases hv : (b == c || (carriedByValue (.ref b) && carriedByValue (.ref c))) = true
    · exact wp_if_pos hv (wpAny_pure fin)
    · refine wp_if_neg hv ?_
      refine wpAny_bind (quiet_key k _ 8 s' x.1 x.2 A E _ ?_)
      simp only [Bool.not_true, Bool.false_eq_true, if_false]
      refine wpAny_bind (quiet_key k' _ 8 s' y.1 y.2 A E _ ?_)
      simp only [Bool.not_true, Bool.false_eq_true, if_false]
      refine wpAny_bind (class_key k _ 8 A s' _ x.1 x.2 ?_)
      simp only [Bool.false_eq_true, if_false]
      refine wpAny_bind (class_key k' _ 8 A s' _ y.1 y.2 ?_)
      simp only [Bool.false_eq_true, if_false]
      exact wpAny_pure fin
  · rintro ⟨r1, r2⟩ s' ⟨hr, rfl, _⟩
    have hr : r1 = none := hr
    subst hr
    exact wpAny_pure q
mutual
theorem byval_key : ∀ (k : NK) (v : Value) (n : Nat) (A : Around) (s : Shared) (Q : Bool → Shared → Prop), NestedIs s.heap k v → (∀ b, Q b s) → wpAny (model P w) A (hashByValue n v) Q E s
  | .none, v, n, A, s, Q, x, q => by
    cases x
    cases n <;> exact wpAny_pure (q _)
  | .num i, v, n, A, s, Q, x, q => by
    cases x <;> cases n <;> exact wpAny_pure (q _)
  | .text z, v, n, A, s, Q, x, q => by
    cases x
    cases n <;> exact wpAny_pure (q _)
  | .tup ks, v, n, A, s, Q, x, q => by
    cases x with
    | @tup a o vs m _ h1 h2 h3 h4 =>
      cases n with
      | zero => exact wpAny_pure (q _)
      | succ n =>
        have hT : s.TypeIs (.ref a) "tuple" := ⟨o, h1, h2⟩
        unfold hashByValue
        refine wpAny_bind (wpAny_specialOf hT F.slot_tuple_hash.lookup ?_)
        show wpAny _ _ (seqItems? (.ref a) >>= _) _ _ s
        refine wpAny_bind (wpAny_seqItems h1 h3 ?_)
        refine wpAny_bind ?_
        show wpAny _ _ (forIn vs _ _) _ _ s
        rw [← Array.forIn_toList]
        refine wpAny_forIn_list _ (fun rest r s' => s' = s ∧ ∀ u ∈ rest, u ∈ vs.toList) _ ?_ ?_ _ _ ⟨rfl, fun u hu => hu⟩
        · rintro u rest r s' ⟨rfl, hall⟩
          refine wpAny_bind (byval_keys ks vs.toList n A s' _ h4 u (hall u List.mem_cons_self) fun b => ?_)
          cases b with
          | true =>
            simp only [Bool.not_true, Bool.false_eq_true, if_false]
            exact wpAny_pure ⟨rfl, fun z hz => hall z (List.mem_cons_of_mem _ hz)⟩
          | false =>
            simp only [Bool.not_false, if_true]
            exact wpAny_pure (wpAny_pure (q _))
        · rintro ⟨r1, r2⟩ s' ⟨rfl, _⟩
          cases r1 with
          | none => exact wpAny_pure (q _)
          | some b => exact wpAny_pure (q _)
theorem byval_keys : ∀ (ks : List NK) (vs : List Value) (n : Nat) (A : Around) (s : Shared) (Q : Bool → Shared → Prop), NestedAll s.heap ks vs → ∀ u ∈ vs, (∀ b, Q b s) → wpAny (model P w) A (hashByValue n u) Q E s
  | [], _, n, A, s, Q, x, u, hu, q => by cases x; cases hu
  | k :: ks, _, n, A, s, Q, x, u, hu, q => by
    cases x with
    | cons x1 x2 =>
      rcases List.mem_cons.mp hu with e | hu
      · rw [e]; exact byval_key k _ n A s Q x1 q
      · exact byval_keys ks _ n A s Q x2 u hu q
end
end
end TW.SetN
namespace TW.SetN
open PySem L2
/-- a member's entry -/
abbrev ent (w : World) (p : Addr × NK) : Int × Value := (hN w p.2, Value.ref p.1)
abbrev hashes (w : World) (L : List (Addr × NK)) : List Int := L.map fun p => hN w p.2
/-- at a: the set of the tuples L -/
structure SetAtN (w : World) (h : Heap) (a : Addr) (L : List (Addr × NK)) (es : Array (Int × Value)) (ep : Nat) (t : SetTable) : Prop where
  obj : ∃ o, h.get? a = some o ∧ o.ExactSet ∧ o.data = .set es ep t
  lay : es.toList = L.map (ent w)
  tab : TabOk t (hashes w L)
  apart : (L.map (·.2)).Nodup
  keys : ∀ p ∈ L, IsN h p.2 p.1
  led : w.params.followText "set-order" = true ∨ t.led = true
  room : L.length * 5 < t.mask * 3
  few : L.length < 64
section
variable {P : Program} {w : World} {A : Around} {E : Value → Shared → Prop} {s : Shared} {a : Addr} {L : List (Addr × NK)} {es : Array (Int × Value)} {ep : Nat} {t : SetTable}
theorem size_of_lay (h : es.toList = L.map (ent w)) : es.size = L.length := by
  have q := congrArg List.length h
  rwa [Array.length_toList, List.length_map] at q
theorem get_of_lay (h : es.toList = L.map (ent w)) {i : Nat} {p : Addr × NK} (hp : L[i]? = some p) : es[i]? = some (ent w p) := by
  rw [← Array.getElem?_toList, h, List.getElem?_map, hp]; rfl
theorem fits_of (h : es.toList = L.map (ent w)) (T : TabOk t (hashes w L)) (hr : L.length ≤ t.mask) : t.fits es.size = true := by
  have z1 := T.sz
  rw [List.length_map] at z1
  have z2 := size_of_lay h
  unfold SetTable.fits SetTable.fill
  rw [T.dm, Bool.and_eq_true, beq_iff_eq, decide_eq_true_eq]
  show t.place.size = es.size ∧ t.place.size + 0 ≤ t.mask
  omega
theorem SetAtN.fit (R : SetAtN w s.heap a L es ep t) : t.fits es.size = true := fits_of R.lay R.tab (by have := R.room; omega)
theorem SetAtN.stays (R : SetAtN w s.heap a L es ep t) : ¬ t.gaveWay = true := by
  unfold SetTable.gaveWay
  rw [mask_odd R.tab.mok]
  decide
/-- where a key's way goes -/
abbrev wy (w : World) (t : SetTable) (k : NK) (c : Nat) : SetTable.Probe := nth t.mask (runAt t.mask (SetTable.bits (hN w k) % (t.mask + 1)) (SetTable.bits (hN w k))) c
theorem wy_dummy (t : SetTable) (k : NK) (c : Nat) : (wy w t k c).dummy = none := by
  have all : ∀ (n : Nat) (p : SetTable.Probe), p.dummy = none → (nth t.mask p n).dummy = none := by
    intro n
    induction n with
    | zero => exact fun p h => h
    | succ n ih =>
      intro p h
      refine ih (adv t.mask p) ?_
      unfold adv
      split
      · exact h
      · exact h
  exact all c _ rfl
theorem find_from (R : SetAtN w s.heap a L es ep t) {x : Addr} {k : NK} (hx : IsN s.heap k x) (hu : A.units + 8 < cLine) {Z : Nat} (hz1 : Z < 10 * SetTable.turns t.mask) (hz2 : (wy w t k Z).j ∉ t.place.toList) (hz3 : ∀ c, c < Z → (wy w t k c).j ∈ t.place.toList)
    {Q : SetFound → Shared → Prop} (yes : k ∈ L.map (·.2) → Q (.there none) s) (no : k ∉ L.map (·.2) → Q (.free (wy w t k Z).j false) s) :
    ∀ (f c : Nat) (stand : Option SetTable.Probe), stand.getD (t.probeStart (hN w k)) = wy w t k c → c ≤ Z → Z - c < f →
      (∀ (i : Nat) p, L[i]? = some p → p.2 = k → ∃ c', c ≤ c' ∧ c' < Z ∧ t.place.toList[i]? = some (wy w t k c').j) →
      wpAny (model P w) A (setSearchFrom a (.ref x) (hN w k) true f stand) Q E s := by
  obtain ⟨o, ho, hex, hd⟩ := R.obj
  intro f
  induction f with
  | zero => intro c stand _ _ hf; exact absurd hf (Nat.not_lt_zero _)
  | succ f ih =>
    intro c stand hst hc hf ahead
    rw [setSearchFrom_succ]
    refine wpAny_bind (wpAny_setState_of ho hd R.fit ?_)
    dsimp only
    refine wp_if_neg R.stays ?_
    try refine wpAny_bind (wpAny_pure ?_)
    have shift : ∀ q, nth t.mask (wy w t k c) q = wy w t k (c + q) := fun q => (nth_add t.mask c _ q).symm
    have spec := go_spec t R.tab.ris R.tab.dm (fun i => (es[i]?.map (·.1)).getD 0) (hN w k) (10 * SetTable.turns t.mask) (Z - c) (wy w t k c) (wy_dummy t k c) (by omega)
      (fun q hq => by rw [shift]; exact hz3 (c + q) (by omega)) (by rw [shift, show c + (Z - c) = Z by omega]; exact hz2)
    have hash_of : ∀ (i : Nat) p, L[i]? = some p → (es[i]?.map (·.1)).getD 0 = hN w p.2 := fun i p hp => by rw [get_of_lay R.lay hp]; rfl
    rcases spec with ⟨q, i, hq, hi, hh, hno, hpr⟩ | ⟨hno, hpr⟩
    · rw [shift] at hi
      rw [hst, show t.probe (fun i => (es[i]?.map (·.1)).getD 0) (hN w k) (wy w t k c) = some (.candidate (wy w t k (c + q)).j i (wy w t k (c + (q + 1)))) by rw [← shift q, ← shift (q + 1)]; exact hpr]
      dsimp only
      have hil : i < L.length := by
        have z1 := (List.getElem?_eq_some_iff.mp hi).1
        have z2 := R.tab.sz
        rw [Array.length_toList] at z1
        rw [List.length_map] at z2
        omega
      obtain ⟨p, hp⟩ : ∃ p, L[i]? = some p := ⟨_, List.getElem?_eq_getElem hil⟩
      have pin : p ∈ L := List.mem_of_getElem? hp
      have go : wpAny (model P w) A (searchRest a (.ref x) (hN w k) true f es t (wy w t k (c + q)).j i (wy w t k (c + (q + 1)))) Q E s := by
        unfold searchRest
        rw [get_of_lay R.lay hp]
        dsimp only
        refine wpAny_bind (wpAny_holding ((nestedKind P w).eqBool (show A.units + 8 < cLine from hu) (R.keys p pin) hx ?_))
        refine wpAny_bind (wpAny_setState_of ho hd R.fit ?_)
        dsimp only
        by_cases same : p.2 = k
        · refine wp_if_pos (by simp [same]) (wpAny_pure (yes (List.mem_map.mpr ⟨p, pin, same⟩)))
        · refine wp_if_neg (by simp [same]) ?_
          try refine wpAny_bind (wpAny_pure ?_)
          rw [sameMem]
          dsimp only
          have hsl : t.slot (wy w t k (c + q)).j = .live i := slot_live R.tab.ris hi
          simp only [if_true, hsl, get_of_lay R.lay hp]
          refine wpAny_bind (wpAny_isSame_ref_self (wpAny_bind (wpAny_pure ?_)))
          simp only [if_true]
          refine wp_if_neg (by simp [same]) ?_
          refine ih (c + (q + 1)) _ rfl (by omega) (by omega) fun j p' hp' hk' => ?_
          obtain ⟨c', g1, g2, g3⟩ := ahead j p' hp' hk'
          refine ⟨c', ?_, g2, g3⟩
          by_cases lt : c' < c + q
          · refine absurd ((hash_of j p' hp').trans (congrArg (hN w) hk')) (hno (c' - c) j (by omega) ?_)
            rw [shift, show c + (c' - c) = c' by omega]
            exact g3
          · by_cases eq : c' = c + q
            · rw [eq] at g3
              have s0 := slot_live R.tab.ris g3
              rw [hsl] at s0
              injection s0 with s0
              rw [← s0, hp] at hp'
              cases hp'
              exact absurd hk' same
            · omega
      by_cases hl : t.led = true
      · refine wp_if_neg (by simp [hl]) ?_
        try refine wpAny_bind (wpAny_pure ?_)
        exact go
      · refine wp_if_pos (by simp [hl]) ?_
        refine wpAny_bind (seen_key hx (fun y hy => ?_) ?_)
        · obtain ⟨e, he, rfl⟩ := List.mem_map.mp hy
          have he' : e ∈ es ∧ e.1 = hN w k := by simpa using he
          have he2 : e ∈ es.toList := by simpa using he'.1
          rw [R.lay] at he2
          obtain ⟨p2, hp2, rfl⟩ := List.mem_map.mp he2
          exact ⟨p2.2, p2.1, rfl, R.keys p2 hp2⟩
        · refine wp_if_neg (by decide) ?_
          try refine wpAny_bind (wpAny_pure ?_)
          exact go
    · rw [hst, show t.probe (fun i => (es[i]?.map (·.1)).getD 0) (hN w k) (wy w t k c) = some (.empty (wy w t k Z).j none) by
        have z := shift (Z - c)
        rw [show c + (Z - c) = Z by omega] at z
        rw [← z]
        exact hpr]
      dsimp only
      refine wpAny_pure (no fun hm => ?_)
      obtain ⟨p, hp, hk⟩ := List.mem_map.mp hm
      obtain ⟨i, hi, e⟩ := List.getElem_of_mem hp
      have hpi : L[i]? = some p := by rw [List.getElem?_eq_getElem hi, e]
      obtain ⟨c', g1, g2, g3⟩ := ahead i p hpi hk
      refine absurd ((hash_of i p hpi).trans (congrArg (hN w) hk)) (hno (c' - c) i (by omega) ?_)
      rw [shift, show c + (c' - c) = c' by omega]
      exact g3
/-- the search that adding asks for -/
theorem find_at (R : SetAtN w s.heap a L es ep t) {x : Addr} {k : NK} (hx : IsN s.heap k x) (hu : A.units + 8 < cLine) {Q : SetFound → Shared → Prop} (yes : k ∈ L.map (·.2) → Q (.there none) s)
    (no : ∀ Z, k ∉ L.map (·.2) → (wy w t k Z).j ∉ t.place.toList → (∀ c, c < Z → (wy w t k c).j ∈ t.place.toList) → Q (.free (wy w t k Z).j false) s) : wpAny (model P w) A (setSearch a (.ref x) (hN w k) true) Q E s := by
  have hroom := R.room
  obtain ⟨Z, z1, z2, z3⟩ := R.tab.first (by rw [List.length_map]; omega) (hN w k)
  have small : Z < 100000 := by
    have : 10 * SetTable.turns t.mask ≤ 1420 := by
      unfold SetTable.turns
      rcases R.tab.mok with e | e | e <;> omega
    omega
  unfold setSearch
  refine find_from R hx hu z1 z2 z3 yes (fun hn => no Z hn z2 z3) 100000 0 none rfl (Nat.zero_le _) (by omega) fun i p hp hk => ?_
  have hi : (hashes w L)[i]? = some (hN w k) := by rw [List.getElem?_map, hp, ← hk]; rfl
  have hil : i < t.place.toList.length := by
    have q1 := (List.getElem?_eq_some_iff.mp hp).1
    have q2 := R.tab.sz
    rw [List.length_map] at q2
    rw [Array.length_toList]
    omega
  obtain ⟨c, hc, e⟩ := R.tab.before z2 hi (List.getElem?_eq_getElem hil)
  exact ⟨c, Nat.zero_le _, hc, by rw [List.getElem?_eq_getElem hil, ← e]⟩
/-! ### the table laid anew -/
theorem ordered (order : List Nat) (hr : es.toList = L.map (ent w)) (hb : ∀ i ∈ order, i < L.length) :
    order.filterMap (fun i => es[i]?) = (order.filterMap fun i => L[i]?).map (ent w) ∧ hashes w (order.filterMap fun i => L[i]?) = order.map fun i => (es.map (·.1)).getD i 0 := by
  induction order with
  | nil => exact ⟨rfl, rfl⟩
  | cons i r ih =>
    obtain ⟨e1, e2⟩ := ih fun j hj => hb j (List.mem_cons_of_mem _ hj)
    have hi := hb i List.mem_cons_self
    have g1 : L[i]? = some L[i] := List.getElem?_eq_getElem hi
    have g2 := get_of_lay hr g1
    refine ⟨?_, ?_⟩
    · rw [List.filterMap_cons_some g2, List.filterMap_cons_some g1, List.map_cons, e1]
    · have hs : i < (es.map (·.1)).size := by rw [Array.size_map, size_of_lay hr]; exact hi
      have g3 : (es.map (·.1)).getD i 0 = hN w (L[i]).2 := by
        have g4 : (es.map (·.1))[i]? = some (hN w (L[i]).2) := by rw [Array.getElem?_map, g2]; rfl
        simp [Array.getD_eq_getD_getElem?, g4]
      rw [List.filterMap_cons_some g1, List.map_cons, g3, ← e2]
      rfl
theorem range_all (L : List (Addr × NK)) : (List.range L.length).filterMap (fun i => L[i]?) = L := by
  have all : ∀ n, n ≤ L.length → (List.range n).filterMap (fun i => L[i]?) = L.take n := by
    intro n
    induction n with
    | zero => intro _; rfl
    | succ n ih =>
      intro hn
      have hlt : n < L.length := hn
      rw [List.range_succ, List.filterMap_append, ih (Nat.le_of_lt hlt), List.take_succ, List.getElem?_eq_getElem hlt]
      simp [hlt]
  rw [all _ (Nat.le_refl _), List.take_length]
theorem relay_to {o : Obj} (ho : s.heap.get? a = some o) (hex : o.ExactSet) (hd : o.data = .set es ep t) (hr : es.toList = L.map (ent w)) (T : TabOk t (hashes w L)) (hroom : L.length ≤ t.mask) (nd : (L.map (·.2)).Nodup) (ks : ∀ p ∈ L, IsN s.heap p.2 p.1)
    (ld : w.params.followText "set-order" = true ∨ t.led = true) (few : L.length < 64) {n M : Nat} (hw : SetTable.sizeAbove n - 1 = M) (hM : MaskOk M) (h128 : SetTable.sizeAbove n ≤ 128) (hfit : L.length * 5 < M * 3) {Q : Unit → Shared → Prop}
    (hQ : ∀ h' L' es' ep' t', Heap.SameBut a s.heap h' → SetAtN w h' a L' es' ep' t' → L'.Perm L → Q () { s with heap := h' }) : wpAny (model P w) A (setRelay a n) Q E s := by
  have hsz := size_of_lay hr
  obtain ⟨t', order, e, hp, T', em, el, _, _⟩ := relaid_ok t (hs := es.map (·.1)) (wanted := n) hw hM (by rw [Array.size_map, hsz]; omega)
  rw [Array.size_map, hsz] at hp
  obtain ⟨o1, o2⟩ := ordered (w := w) (L := L) (es := es) order.toList hr fun i hi => List.mem_range.mp (hp.mem_iff.mp hi)
  rw [← o2] at T'
  have pm : (order.toList.filterMap fun i => L[i]?).Perm L := by
    have z := hp.filterMap fun i => L[i]?
    rwa [range_all] at z
  have lay' : (order.filterMap (es[·]?)).toList = (order.toList.filterMap fun i => L[i]?).map (ent w) := by
    rw [← o1]
    first | (rw [Array.toList_filterMap]; done) | simp
  generalize order.toList.filterMap (fun i => L[i]?) = L' at T' pm lay'
  have hs2 : (order.filterMap (es[·]?)).size = es.size := by rw [size_of_lay lay', pm.length_eq, hsz]
  rw [setRelay_eq]
  refine wpAny_bind (wpAny_setState_of ho hd (fits_of hr T hroom) ?_)
  dsimp only
  refine wp_if_neg (by rw [sizeLine_eq]; omega) ?_
  try refine wpAny_bind (wpAny_pure ?_)
  rw [e]
  dsimp only
  refine wpAny_bind ?_
  refine wp_if_neg (by rw [hs2]; simp) ?_
  try refine wpAny_bind (wpAny_pure ?_)
  refine wpAny_pure ?_
  dsimp only
  refine wpAny_storeSet_of ho hd ?_ (by rw [hs2, hsz, sizeLine_eq]; omega)
  have sb : Heap.SameBut a s.heap (s.heap.update a (Obj.putSet (order.filterMap (es[·]?)) t')) := Heap.SameBut.update ..
  refine hQ _ L' (order.filterMap (es[·]?)) (ep + 1) t' sb ⟨⟨_, store_at ho hd, ⟨hex.1, hex.2.1, hex.2.2⟩, rfl⟩, lay', T', (pm.map (·.2)).nodup_iff.mpr nd, fun p hpm => isN_but (ks p (pm.mem_iff.mp hpm)) ho hd sb, by rw [el]; exact ld, ?_, by rw [pm.length_eq]; exact few⟩ pm
  rw [pm.length_eq, em]
  exact hfit
end
end TW.SetN
namespace TW.SetN
open PySem PySem.Spec PyProof.Rows L2
section
variable {P : Program} {w : World} {A : Around} {E : Value → Shared → Prop} {s : Shared} {a : Addr} {L : List (Addr × NK)} {es : Array (Int × Value)} {ep : Nat} {t : SetTable}
theorem TabOk.unplain {hs : List Int} {b : Bool} (T : TabOk t hs) : TabOk (if b = true then t else { t with plain := false }) hs := by
  cases b with
  | true => exact T
  | false => exact ⟨T.ris, T.dm, T.sz, T.mok, T.bd, T.reach⟩
theorem add_to (R : SetAtN w s.heap a L es ep t) {x : Addr} {k : NK} (hx : IsN s.heap k x) (hu : A.units + 8 < cLine) (more : L.length + 1 < 64) {Q : Bool → Shared → Prop}
    (hQ : ∀ b h' L' es' ep' t', Heap.SameBut a s.heap h' → SetAtN w h' a L' es' ep' t' → (k ∈ L.map (·.2) → L' = L) → (k ∉ L.map (·.2) → L'.Perm ((x, k) :: L)) → Q b { s with heap := h' }) :
    wpAny (model P w) A (setAddHashed a (.ref x) (hN w k)) Q E s := by
  obtain ⟨o, ho, hex, hd⟩ := R.obj
  have hsz := size_of_lay R.lay
  have hroom := R.room
  unfold setAddHashed
  refine wpAny_holding ?_
  rw [show (100000 : Nat) = 99999 + 1 from rfl, setAddHashedIn_succ]
  refine wpAny_bind (wpAny_setState_of ho hd R.fit ?_)
  dsimp only
  refine wp_if_neg (by simp [byScan, Value.scannable]) ?_
  try refine wpAny_bind (wpAny_pure ?_)
  refine wpAny_bind (find_at R hx hu (fun hm => ?_) fun Z hm hz hb => ?_)
  · dsimp only
    exact wpAny_pure (hQ false s.heap L es ep t (Heap.SameBut.refl a s.heap) R (fun _ => rfl) fun z => absurd hm z)
  · dsimp only
    refine wpAny_bind (wpAny_setState_of ho hd R.fit ?_)
    dsimp only
    obtain ⟨q1, q2, q3, q4, q5, q6, q7, q8, q9⟩ := R.tab.put hz hb
    generalize hpt : t.put (wy w t k Z).j = pt at q1 q3 q4 q5 q6 q7 q8 q9 ⊢
    obtain ⟨t1, p⟩ := pt
    dsimp only at q1 q3 q4 q5 q6 q7 q8 q9 ⊢
    subst q1
    -- what follows, whatever is told of the hash
    have rest : ∀ b : Bool, wpAny (model P w) A (do
        storeSet a (SetTable.insertAt es (SetTable.below t.place (wy w t k Z).j) (hN w k, Value.ref x)) (if b = true then t1 else { t1 with plain := false })
        if (!false && (if b = true then t1 else { t1 with plain := false }).tooFull) = true then setRelay a (SetTable.grown (es.size + 1))
        pure true) Q E s := by
      intro b
      have T1 : TabOk (if b = true then t1 else { t1 with plain := false }) _ := TabOk.unplain q3
      have m1 : (if b = true then t1 else { t1 with plain := false }).mask = t.mask := by cases b <;> exact q4
      have l1 : (if b = true then t1 else { t1 with plain := false }).led = t.led := by cases b <;> exact q5
      have f1 : (if b = true then t1 else { t1 with plain := false }).tooFull = t1.tooFull := by cases b <;> rfl
      generalize (if b = true then t1 else { t1 with plain := false }) = t2 at T1 m1 l1 f1
      have hin : (SetTable.insertAt es (SetTable.below t.place (wy w t k Z).j) (hN w k, Value.ref x)).toList = (L.take (SetTable.below t.place (wy w t k Z).j) ++ (x, k) :: L.drop (SetTable.below t.place (wy w t k Z).j)).map (ent w) := by
        rw [SetTable.toList_insertAt, R.lay, List.map_append, List.map_cons, List.map_take, List.map_drop]
      have hhs : hashes w (L.take (SetTable.below t.place (wy w t k Z).j) ++ (x, k) :: L.drop (SetTable.below t.place (wy w t k Z).j)) = (hashes w L).take (SetTable.below t.place (wy w t k Z).j) ++ hN w k :: (hashes w L).drop (SetTable.below t.place (wy w t k Z).j) := by
        unfold hashes
        rw [List.map_append, List.map_cons, List.map_take, List.map_drop]
      generalize hpp : SetTable.below t.place (wy w t k Z).j = p at q2 T1 hin hhs ⊢
      have pm := put_perm L p (x, k)
      have hlen : (L.take p ++ (x, k) :: L.drop p).length = L.length + 1 := pm.length_eq
      rw [← hhs] at T1
      have nd1 : ((L.take p ++ (x, k) :: L.drop p).map (·.2)).Nodup := by
        refine (pm.map (·.2)).nodup_iff.mpr ?_
        rw [List.map_cons]
        exact List.nodup_cons.mpr ⟨hm, R.apart⟩
      have hes : (SetTable.insertAt es p (hN w k, Value.ref x)).size = L.length + 1 := by rw [size_of_lay hin, hlen]
      generalize SetTable.insertAt es p (hN w k, Value.ref x) = es1 at hin hes ⊢
      generalize L.take p ++ (x, k) :: L.drop p = L1 at pm hlen T1 nd1 hin
      refine wpAny_bind (wpAny_storeSet_of ho hd ?_ (by rw [hes, sizeLine_eq]; omega))
      have sb : Heap.SameBut a s.heap (s.heap.update a (Obj.putSet es1 t2)) := Heap.SameBut.update ..
      have ho1 := store_at (es' := es1) (t' := t2) ho hd
      generalize s.heap.update a (Obj.putSet es1 t2) = h1 at sb ho1 ⊢
      have ks1 : ∀ p ∈ L1, IsN h1 p.2 p.1 := fun p hp => by
        rcases List.mem_cons.mp (pm.mem_iff.mp hp) with e | hp
        · rw [e]; exact isN_but hx ho hd sb
        · exact isN_but (R.keys p hp) ho hd sb
      have ld1 : w.params.followText "set-order" = true ∨ t2.led = true := by rw [l1]; exact R.led
      have sz2 : t2.place.size = L.length + 1 := by
        have z := T1.sz
        rwa [List.length_map, hlen] at z
      by_cases hf : t1.tooFull = true
      · have hfull : (L.length + 1) * 5 ≥ t1.mask * 3 := by
          have z := hf
          unfold SetTable.tooFull at z
          rwa [decide_eq_true_eq, q9, List.length_map] at z
        have two : (t.mask = 7 ∧ L.length = 4) ∨ (t.mask = 31 ∧ L.length = 18) := by
          rcases R.tab.mok with e | e | e
          · left; rw [q4, e] at hfull; rw [e] at hroom; exact ⟨e, by omega⟩
          · right; rw [q4, e] at hfull; rw [e] at hroom; exact ⟨e, by omega⟩
          · exfalso; rw [q4, e] at hfull; omega
        have big : ∀ M, SetTable.sizeAbove (SetTable.grown (L.length + 1)) - 1 = M → MaskOk M → SetTable.sizeAbove (SetTable.grown (L.length + 1)) ≤ 128 → (L.length + 1) * 5 < M * 3 →
            wpAny (model P w) A (setRelay a (SetTable.grown (L.length + 1))) (fun _ s' => wpAny (model P w) A (pure true) Q E s') E { s with heap := h1 } := fun M g1 g2 g3 g4 =>
          relay_to (s := { s with heap := h1 }) (L := L1) ho1 ⟨hex.1, hex.2.1, hex.2.2⟩ rfl hin T1 (by rw [hlen, m1]; rcases two with ⟨e, e2⟩ | ⟨e, e2⟩ <;> omega) nd1 ks1 ld1 (by rw [hlen]; exact more) g1 g2 g3 (by rw [hlen]; exact g4)
            fun h2 L2 es2 ep2 t3 sb2 R2 pm2 => wpAny_pure (hQ true h2 L2 es2 ep2 t3 (sb.trans sb2) R2 (fun z => absurd z hm) fun _ => pm2.trans pm)
        have go : wpAny (model P w) A (setRelay a (SetTable.grown (L.length + 1))) (fun _ s' => wpAny (model P w) A (pure true) Q E s') E { s with heap := h1 } := by
          rcases two with ⟨_, e2⟩ | ⟨_, e2⟩
          · exact big 31 (by rw [e2, size_20]) (.inr (.inl rfl)) (by rw [e2, size_20]; decide) (by omega)
          · exact big 127 (by rw [e2, size_76]) (.inr (.inr rfl)) (by rw [e2, size_76]; decide) (by omega)
        rw [hsz]
        first
          | (refine wpAny_bind ?_; refine wp_if_pos (by simp [f1, hf]) ?_; exact go)
          | (refine wp_if_pos (by simp [f1, hf]) ?_; refine wpAny_bind ?_; exact go)
      · have fin : Q true { s with heap := h1 } := by
          refine hQ true h1 L1 es1 (ep + 1) t2 sb ⟨⟨_, ho1, ⟨hex.1, hex.2.1, hex.2.2⟩, rfl⟩, hin, T1, nd1, ks1, ld1, ?_, by rw [hlen]; exact more⟩ (fun z => absurd z hm) fun _ => pm
          have z := hf
          unfold SetTable.tooFull at z
          rw [decide_eq_true_eq, q9, List.length_map] at z
          rw [hlen, m1, ← q4]
          omega
        first
          | (refine wp_if_neg (by simp [f1, hf]) ?_; exact wpAny_pure fin)
          | (refine wpAny_bind ?_; refine wp_if_neg (by simp [f1, hf]) ?_; exact wpAny_pure (wpAny_pure fin))
    have ask : ∀ {α : Type} (f : Bool → Sem α) (Q' : α → Shared → Prop), (∀ b, wpAny (model P w) A (f b) Q' E s) → wpAny (model P w) A (hashByValue 8 (.ref x) >>= f) Q' E s := fun f Q' h =>
      wpAny_bind (byval_key k _ 8 A s _ hx.1 h)
    by_cases hpl : t1.plain = true
    · first
        | (refine wpAny_bind ?_; refine wp_if_pos hpl ?_; exact byval_key k _ 8 A s _ hx.1 fun b => rest b)
        | (refine wp_if_pos hpl ?_; exact ask _ _ fun b => rest b)
    · first
        | (refine wpAny_bind ?_; refine wp_if_neg hpl ?_; exact wpAny_pure (rest true))
        | (refine wp_if_neg hpl ?_; refine wpAny_bind (wpAny_pure ?_); exact rest true)
/-- what has been got of the first i items -/
structure Have (ks : List (Addr × NK)) (i : Nat) (L : List (Addr × NK)) : Prop where
  sub : ∀ p ∈ L, p ∈ ks.take i
  all : ∀ p ∈ ks.take i, p.2 ∈ L.map (·.2)
  len : L.length ≤ i
theorem Have.step {ks L L' : List (Addr × NK)} {i : Nat} {x : Addr × NK} (g : Have ks i L) (h : ks[i]? = some x) (c1 : x.2 ∈ L.map (·.2) → L' = L) (c2 : x.2 ∉ L.map (·.2) → L'.Perm (x :: L)) : Have ks (i + 1) L' := by
  have tk : ks.take (i + 1) = ks.take i ++ [x] := by rw [List.take_succ, h]; rfl
  by_cases hm : x.2 ∈ L.map (·.2)
  · rw [c1 hm]
    refine ⟨fun p hp => by rw [tk]; exact List.mem_append_left _ (g.sub p hp), fun p hp => ?_, Nat.le_succ_of_le g.len⟩
    rw [tk] at hp
    rcases List.mem_append.mp hp with z | z
    · exact g.all p z
    · rw [List.mem_singleton.mp z]; exact hm
  · have pm := c2 hm
    refine ⟨fun p hp => ?_, fun p hp => ?_, ?_⟩
    · rw [tk]
      rcases List.mem_cons.mp (pm.mem_iff.mp hp) with e | z
      · rw [e]; exact List.mem_append_right _ (List.mem_singleton.mpr rfl)
      · exact List.mem_append_left _ (g.sub p z)
    · rw [(pm.map (·.2)).mem_iff, List.map_cons]
      rw [tk] at hp
      rcases List.mem_append.mp hp with z | z
      · exact List.mem_cons_of_mem _ (g.all p z)
      · rw [List.mem_singleton.mp z]; exact List.mem_cons_self
    · rw [pm.length_eq, List.length_cons]
      exact Nat.succ_le_succ g.len
theorem SetAtN.mv {h h' : Heap} (R : SetAtN w h a L es ep t) (ha : ∀ o, h.get? a = some o → h'.get? a = some o) (hk : ∀ p ∈ L, IsN h' p.2 p.1) : SetAtN w h' a L es ep t := by
  obtain ⟨o, ho, r⟩ := R.obj
  exact ⟨⟨o, ha o ho, r⟩, R.lay, R.tab, R.apart, hk, R.led, R.room, R.few⟩
abbrev newSetObj (w : World) : Obj := { cls := .type "set", dict := none, data := .set #[] 0 (.fresh 0 0 (!w.params.followText "set-order")) }
theorem setN_new {h : Heap} (ho : h.get? a = some (newSetObj w)) : SetAtN w h a [] #[] 0 (.fresh 0 0 (!w.params.followText "set-order")) where
  obj := ⟨_, ho, ⟨rfl, rfl, rfl⟩, rfl⟩
  lay := rfl
  tab := ⟨List.Pairwise.nil, rfl, rfl, .inl rfl, fun x hx => (by cases hx), fun i h j hi => (by simp at hi)⟩
  apart := List.nodup_nil
  keys := fun p hp => (by cases hp)
  led := by
    show _ ∨ (!w.params.followText "set-order") = true
    cases w.params.followText "set-order"
    · exact .inr rfl
    · exact .inl rfl
  room := by show 0 * 5 < 7 * 3; decide
  few := by show 0 < 64; decide
theorem fill_loop {I : Addr} {fp wr : List Addr} {G : Array GenState → Array GenState → Prop} {n : Nat} {Pv : Nat → Value → Prop} {St : Nat → Shared → Prop} {R : Result → Shared → Prop}
    (W : WalksS P w A.in1 I fp wr G n Pv St) (S : Addr) (hSf : S ∉ fp) (ks : List (Addr × NK)) (hn : n = ks.length) (few : ks.length < 64) (hval : ∀ i v, Pv i v → ∃ p, ks[i]? = some p ∧ v = .ref p.1)
    (h0 : Heap) (hk : ∀ p ∈ ks, IsN h0 p.2 p.1) (hS0 : h0.get? S = none) (hw0 : ∀ b ∈ wr, h0.get? b = none) (hu : A.in1.units + 8 < cLine)
    (hR : ∀ s0 s' L es ep t, Moved (S :: wr) G s0 s' → SetAtN w s'.heap S L es ep t → Have ks n L → (∀ b o, h0.get? b = some o → s'.heap.get? b = some o) → s0 = s → R (.ok (.ret .none)) s') :
    ∀ (m i : Nat) (s1 : Shared), n - i = m → i ≤ n → St i s1 → (∀ b o, h0.get? b = some o → s1.heap.get? b = some o) → Moved (S :: wr) G s s1 → (∃ L es ep t, SetAtN w s1.heap S L es ep t ∧ Have ks i L) →
      codeAny (model P w) A (.builtin "set.update.loop" ⟨[.ref S, .ref I], []⟩) R s1 := by
  have hSw : S ∉ wr := fun h => hSf (W.sub _ h)
  have hsub : ∀ b ∈ wr, b ∈ S :: wr := fun b hb => List.mem_cons_of_mem _ hb
  have kept : ∀ {s1 s2 : Shared}, Moved wr G s1 s2 → (∀ b o, h0.get? b = some o → s1.heap.get? b = some o) → ∀ b o, h0.get? b = some o → s2.heap.get? b = some o := fun hm hkp b o e =>
    hm.heap b o (fun hb => by rw [hw0 b hb] at e; cases e) (hkp b o e)
  intro m
  induction m with
  | zero =>
    intro i s1 hm' hi hst hkp mv ⟨L, es, ep, t, hS, g⟩
    have hin : i = n := by omega
    subst hin
    refine codeAny_builtin F.entry_set_update_loop ?_
    rw [Around.under_plainId F.plain_set_update_loop _]
    show wpAny _ A.in1 (pyNext (.ref I) >>= _) _ _ s1
    refine wpAny_bind (W.done s1 _ _ hst fun s2 hm => ?_)
    show wpAny _ A.in1 (ret Value.none) _ _ s2
    have hkp' := kept hm hkp
    exact wpAny_pure (hR s s2 L es ep t (Moved.trans W.gtrans mv (hm.mono hsub)) (hS.mv (fun o e => hm.heap S o hSw e) fun p hp => isN_keep (hk p (List.mem_of_mem_take (g.sub p hp))) hkp') g hkp' rfl)
  | succ m ih =>
    intro i s1 hm' hi hst hkp mv ⟨L, es, ep, t, hS, g⟩
    have hlt : i < n := by omega
    refine codeAny_builtin F.entry_set_update_loop ?_
    rw [Around.under_plainId F.plain_set_update_loop _]
    show wpAny _ A.in1 (pyNext (.ref I) >>= _) _ _ s1
    refine wpAny_bind (W.item i s1 _ _ hlt hst fun v s2 hP hst' hm => ?_)
    obtain ⟨p, hp, rfl⟩ := hval i v hP
    have hkp' := kept hm hkp
    have hS' : SetAtN w s2.heap S L es ep t := hS.mv (fun o e => hm.heap S o hSw e) fun q hq => isN_keep (hk q (List.mem_of_mem_take (g.sub q hq))) hkp'
    have hx : IsN s2.heap p.2 p.1 := isN_keep (hk p (List.mem_of_getElem? hp)) hkp'
    show wpAny _ A.in1 (holding [Value.ref p.1] (setAdd S (.ref p.1)) >>= _) _ _ s2
    refine wpAny_bind (wpAny_holding ?_)
    unfold setAdd
    refine wpAny_holding ?_
    refine wpAny_bind (pyHash_key p.2 _ _ s2 _ hx.1 (by have := hx.2; omega) ?_)
    refine add_to (s := { s2 with toks := s2.toks + p.2.draws }) hS' hx hu (by have := g.len; omega) fun b h' L' es' ep' t' hsb hS2 c1 c2 => ?_
    have hkp2 : ∀ b o, h0.get? b = some o → h'.get? b = some o := fun b o e => (hsb.2 b (fun z => by rw [z, hS0] at e; cases e)).trans (hkp' b o e)
    refine wpAny_pure ⟨plainId_quiet F.plain_set_update_loop _, ih (i + 1) _ (by omega) hlt (W.frame _ s2 _ _ hst' (Nat.le_add_right _ _) fun b hb o e => ?_) hkp2 (Moved.trans W.gtrans mv ((hm.mono hsub).then_heap (Nat.le_add_right _ _) fun b o hb e => ?_)) ⟨L', es', ep', t', hS2, g.step hp c1 c2⟩⟩
    · rw [hsb.2 b (fun h : b = S => hSf (by rw [← h]; exact hb))]; exact e
    · rw [hsb.2 b (fun h : b = S => hb (by rw [h]; exact List.mem_cons_self))]; exact e
end
end TW.SetN
set_option maxHeartbeats 8000000
namespace TW.SetN
open PySem PySem.Spec PyProof.Rows L2
section
variable {P : Program} {w : World} {A : Around} {E : Value → Shared → Prop} {s : Shared} {a : Addr} {L : List (Addr × NK)} {es : Array (Int × Value)} {ep : Nat} {t : SetTable}
theorem past {h : Heap} {b : Addr} (hb : h.objs.size ≤ b) : h.get? b = none := by
  cases q : h.get? b with
  | none => rfl
  | some o => exact absurd (Nat.lt_of_lt_of_le (Heap.lt_size q) hb) (Nat.lt_irrefl _)
abbrev withSet (w : World) (s : Shared) : Shared := { s with heap := s.heap.push (newSetObj w) }
/-- set(xs) of a list of such tuples -/
theorem call_setN {l : Addr} {items : Array Value} (ks : List (Addr × NK)) {Q : Value → Shared → Prop} (hh : A.handled = none) (hl : s.heap.IsList l items) (hit : items.toList = ks.map fun p => Value.ref p.1) (hk : ∀ p ∈ ks, IsN s.heap p.2 p.1) (few : ks.length < 64) (hu : A.units + 20 < cLine)
    (q : ∀ (h' : Heap) (tk : Nat) L es ep t, SetAtN w h' s.heap.objs.size L es ep t → Have ks ks.length L → (∀ b o, s.heap.get? b = some o → h'.get? b = some o) → Q (.ref s.heap.objs.size) { s with heap := h', toks := tk }) :
    wpAny (model P w) A (call (.type "set") [.ref l]) Q E s := by
  have hcount : items.size = ks.length := by
    have z := congrArg List.length hit
    rwa [Array.length_toList, List.length_map] at z
  obtain ⟨c, tl, hmro⟩ := F.called_set.mro
  have m1 := F.called_set.made
  have m2 := F.called_set.sub
  refine wpAny_call (codeAny_of_tree ?_)
  show wpAny _ _ (callAny (.type "set") _) _ _ _
  refine wpAny_pure ⟨Code.quiet_builtin _ (by decide +kernel), codeAny_builtin F.entry_type_call ?_⟩
  rw [Around.under_plain (weight_type_call_type "set" [.ref l] []) rfl]
  have m3 := F.called_set.notType
  have m4 := F.called_set.canCreate
  have m5 := F.typeCall_set_1 (.ref l)
  repeat (any_goals (first | assumption | wp_step))
  refine codeAny_mono (code_set_led1 (.ref l) (E := E) (Q₁ := fun ob s1 => ob = .ref s.heap.objs.size ∧ s1 = withSet w s) ⟨rfl, rfl⟩) fun r s1 hr => ?_
  match r, hr with
  | .error e, hr => exact hr
  | .ok (.ret ob), hr =>
    obtain ⟨rfl, rfl⟩ := hr
    have hS : (withSet w s).heap.get? s.heap.objs.size = some (newSetObj w) := Heap.get?_push_size _ rfl
    have hT : (withSet w s).TypeIs (.ref s.heap.objs.size) "set" := ⟨_, hS, rfl⟩
    have m6 := F.called_set.init.lookup
    have m7 := F.called_set.init.bind (.ref s.heap.objs.size)
    repeat (any_goals (first | assumption | wp_step))
    refine codeAny_mono (codeAny_call_builtin (R := wants (fun r s2 => r = .none ∧ ∃ h' tk L es ep t, s2 = { s with heap := h', toks := tk } ∧ SetAtN w h' s.heap.objs.size L es ep t ∧ Have ks ks.length L ∧ ∀ b o, s.heap.get? b = some o → h'.get? b = some o) E)
      F.called_set.init.plain F.entry_set_init (check_set_init_1 hT ?_)) fun r2 s2 hr2 => ?_
    · obtain ⟨⟨ocls, odict, odata, oslots⟩, hol, hcl, nl, hdl⟩ := hl
      simp only at hcl hdl
      subst hcl hdl
      have hol' : (withSet w s).heap.get? l = some { cls := .type "list", dict := odict, data := .seq items nl, slots := oslots } := Heap.get?_push_of_some _ hol
      have n1 := F.sub_list_set
      have n2 := F.sub_list_frozenset
      have n3 : (Value.type "list" == Value.type "dict") = false := by decide
      have hl1 : (withSet w s).heap.IsList l items := ⟨_, hol', rfl, nl, rfl⟩
      unfold Builtin.«set.__init__» noKeywords Builtin.Frozenset.updateFrom
      generalize hPI : pyIter = PI
      wp_walk
      subst hPI
      refine wpAny_pyIter_list hl1 ?_
      refine wpAny_bind (wpAny_runValue ?_)
      have hlS : l < s.heap.objs.size := Heap.lt_size hol
      have hh3 : A.in1.in1.in1.handled = none := by simp [hh]
      have hz : (withSet w s).heap.objs.size = s.heap.objs.size + 1 := Heap.size_push ..
      have ne1 : l ≠ (withSet w s).heap.objs.size := by rw [hz]; exact Nat.ne_of_lt (Nat.lt_succ_of_lt hlS)
      have ne2 : s.heap.objs.size ∉ [(withSet w s).heap.objs.size, l] := by
        rw [hz]
        simp only [List.mem_cons, List.mem_singleton, List.not_mem_nil, or_false, not_or]
        exact ⟨Nat.ne_of_lt (Nat.lt_succ_self _), Nat.ne_of_gt hlS⟩
      have hval : ∀ (i : Nat) (v : Value), items[i]? = some v → ∃ p, ks[i]? = some p ∧ v = .ref p.1 := fun i v hv => by
        have z : items.toList[i]? = some v := by rw [Array.getElem?_toList]; exact hv
        rw [hit, List.getElem?_map] at z
        cases hq : ks[i]? with
        | none => rw [hq] at z; cases z
        | some p =>
          rw [hq] at z
          exact ⟨p, rfl, (Option.some.inj z).symm⟩
      have hunit : A.in1.in1.in1.units + 8 < cLine := by
        show A.units + 1 + 1 + 1 + 8 < cLine
        omega
      refine fill_loop (s := s) ((Walks.list hh3 _ l ne1 items).toS) s.heap.objs.size ne2 ks hcount few hval s.heap hk (past (Nat.le_refl _)) (fun b hb => past (by rw [List.mem_singleton.mp hb, hz]; exact Nat.le_succ _)) hunit (fun s0 s' L es ep t hm hS' g' hkp e0 => ?hR) (items.size - 0) 0 _ (by omega) (Nat.zero_le _)
        ⟨⟨_, Heap.get?_push_size _ rfl, rfl, rfl⟩, hl1.push _⟩ (fun b o e => Heap.get?_push_of_some _ (Heap.get?_push_of_some _ e)) ?hM ?hS0
      case hS0 =>
        exact ⟨[], #[], 0, _, setN_new (Heap.get?_push_of_some _ hS), ⟨fun p hp => (by cases hp), fun p hp => (by simp at hp), Nat.le_refl _⟩⟩
      case hM => exact ⟨fun b o _ e => Heap.get?_push_of_some _ (Heap.get?_push_of_some _ e), WalksS.grefl ((Walks.list (prog := P) (w := w) hh3 _ l ne1 items).toS) _, rfl, rfl, Nat.le_refl _⟩
      case hR =>
        subst e0
        obtain ⟨h', g2, d', tk', os'⟩ := s'
        have e1 : g2 = s0.gens := hm.gens
        have e2 : d' = s0.drawn := hm.drawn
        have e3 : os' = s0.os := hm.os
        subst e1; subst e2; subst e3
        show wpAny _ _ _ _ _ _
        refine wpAny_pure ?_
        show wpAny _ _ (ret Value.none) _ _ _
        rw [hcount] at g'
        exact wpAny_pure ⟨rfl, h', tk', L, es, ep, t, rfl, hS', g', hkp⟩
    · match r2, hr2 with
      | .error e, hr2 => exact hr2
      | .ok (.ret r), hr2 =>
        obtain ⟨rfl, h', tk, L, es, ep, t, rfl, hS', g', hk'⟩ := hr2
        repeat (any_goals (first | assumption | wp_step))
        exact q _ _ _ _ _ _ hS' g' hk'
      | .ok .next, hr2 => exact hr2.elim
      | .ok .brk, hr2 => exact hr2.elim
      | .ok .cont, hr2 => exact hr2.elim
  | .ok .next, hr => exact hr.elim
  | .ok .brk, hr => exact hr.elim
  | .ok .cont, hr => exact hr.elim
end
end TW.SetN
namespace TW.SetN
open PySem PySem.Spec PyProof.Rows L2
/-! ### sorted(set(xs)), xs a list of pairs of a number and a tuple of numbers -/
abbrev K2 := Int × List Int
def nk (k : K2) : NK := .tup [.num k.1, .tup (k.2.map .num)]
theorem datas_num : ∀ xs : List Int, NestedKey.datas (xs.map .num) = xs.map .int
  | [] => rfl
  | x :: xs => by
    show NestedKey.data (.num x) :: NestedKey.datas (xs.map .num) = _
    rw [datas_num xs] <;> rfl
def dk (k : K2) : PyData := .tuple [.int k.1, .tuple (k.2.map .int)]
theorem nk_inj {k k' : K2} (h : nk k = nk k') : k = k' := by
  obtain ⟨a, xs⟩ := k
  obtain ⟨b, ys⟩ := k'
  unfold nk at h
  injection h with h
  injection h with h1 h2
  injection h1 with h1
  injection h2 with h2 _
  injection h2 with h2
  have inj : ∀ xs ys : List Int, xs.map NestedKey.num = ys.map NestedKey.num → xs = ys := by
    intro xs
    induction xs with
    | nil => intro ys e; cases ys with
      | nil => rfl
      | cons _ _ => cases e
    | cons x xs ih => intro ys e; cases ys with
      | nil => cases e
      | cons y ys =>
        rw [List.map_cons, List.map_cons] at e
        injection e with e1 e2
        injection e1 with e1
        rw [e1, ih ys e2]
  have h1 : a = b := h1
  have e2 : xs = ys := inj _ _ h2
  rw [h1, e2]
theorem depth_num : ∀ xs : List Int, NestedKey.depthAll (xs.map .num) = 0
  | [] => rfl
  | x :: xs => by
    show max (NestedKey.depth (.num x)) (NestedKey.depthAll (xs.map .num)) = 0
    rw [depth_num xs] <;> rfl
theorem depth_nk (k : K2) : (nk k).depth ≤ 8 := by
  show max 0 (max (NestedKey.depthAll (k.2.map .num) + 1) 0) + 1 ≤ 8
  rw [depth_num]; decide
theorem alike_dk (k k' : K2) : PySem.W.alike (dk k) (dk k') = true := by
  unfold dk
  rw [PySem.W.alike, PySem.W.alikeAll, PySem.W.alikeAll, PySem.W.alikeAll, PySem.W.alike, PySem.W.alike, PySem.W.alike_ints]
  rfl
theorem depth_dk (k : K2) : (dk k).depth ≤ 2 := by
  unfold dk
  simp [PyData.depth, PyData.depthAll, PySem.W.depth_ints]
def kle (a b : K2) : Bool := PySem.W.dataLe false dk a b
theorem toks_ints : ∀ xs ys : List Int, PySem.W.keyToksAll (xs.map .int) = PySem.W.keyToksAll (ys.map .int) → xs = ys
  | [], [], _ => rfl
  | [], y :: ys, h => by
    simp [PySem.W.keyToksAll] at h
  | x :: xs, [], h => by
    simp [PySem.W.keyToksAll] at h
  | x :: xs, y :: ys, h => by
    simp only [List.map_cons, PySem.W.keyToksAll, PySem.W.keyToks, List.cons_append, List.nil_append, List.cons.injEq, true_and] at h
    obtain ⟨h1, h2⟩ := h
    injection h1 with h1
    rw [h1, toks_ints xs ys h2]
theorem kle_anti (a b : K2) (h1 : kle a b = true) (h2 : kle b a = true) : a = b := by
  have e : PySem.W.keyToks (dk a) = PySem.W.keyToks (dk b) := by
    refine KeyOrd.kle_antisymm (O := listOrd itemOrd) ?_ ?_
    · have z : (!(listOrd itemOrd).blt (PySem.W.keyToks (dk b)) (PySem.W.keyToks (dk a))) = true := h1
      rw [Bool.not_eq_true'] at z
      exact z
    · have z : (!(listOrd itemOrd).blt (PySem.W.keyToks (dk a)) (PySem.W.keyToks (dk b))) = true := h2
      rw [Bool.not_eq_true'] at z
      exact z
  obtain ⟨a, xs⟩ := a
  obtain ⟨b, ys⟩ := b
  simp only [dk, PySem.W.keyToks, PySem.W.keyToksAll, List.cons_append, List.nil_append, List.cons.injEq, true_and] at e
  obtain ⟨h1, h2⟩ := e
  injection h1 with h1
  rw [h1, toks_ints xs ys (List.append_cancel_right h2)]
theorem kle_tot : PySem.W.TotalLe kle := PySem.W.sortLe_total (listOrd itemOrd) false fun k : K2 => PySem.W.keyToks (dk k)
def ded : List K2 → List K2
  | [] => []
  | k :: ks => if k ∈ ded ks then ded ks else k :: ded ks
theorem mem_ded (k : K2) : ∀ ks, k ∈ ded ks ↔ k ∈ ks
  | [] => Iff.rfl
  | x :: ks => by
    unfold ded
    split
    · rename_i h
      rw [mem_ded k ks, List.mem_cons]
      refine ⟨Or.inr, fun z => z.elim (fun e => ?_) id⟩
      rw [e]; exact (mem_ded x ks).mp h
    · rw [List.mem_cons, List.mem_cons, mem_ded k ks]
theorem nodup_ded : ∀ ks, (ded ks).Nodup
  | [] => List.nodup_nil
  | x :: ks => by
    unfold ded
    split
    · exact nodup_ded ks
    · rename_i h
      exact List.nodup_cons.mpr ⟨h, nodup_ded ks⟩
def sortSet (ks : List K2) : List K2 := (ded ks).mergeSort kle
theorem mem_sortSet (k : K2) (ks : List K2) : k ∈ sortSet ks ↔ k ∈ ks := by
  unfold sortSet
  rw [(List.mergeSort_perm _ _).mem_iff, mem_ded]
theorem nodup_sortSet (ks : List K2) : (sortSet ks).Nodup := (List.mergeSort_perm _ _).nodup_iff.mpr (nodup_ded ks)
/-- the one way to sort a set -/
theorem sortSet_one {ks xs : List K2} (hm : ∀ k, k ∈ xs ↔ k ∈ ks) (nd : xs.Nodup) : xs.mergeSort kle = sortSet ks := by
  have p : xs.Perm (ded ks) := (List.perm_ext_iff_of_nodup nd (nodup_ded ks)).mpr fun k => by rw [hm k, mem_ded]
  exact PySem.W.Srt.the_of_perm kle (fun a b c => kle_tot.trans a b c) (fun a b => Bool.or_eq_true_iff.mpr (kle_tot.total a b)) kle_anti ((List.mergeSort_perm _ _).trans p) (PySem.W.sort_pairwise kle_tot _)

/-! ### the set at an address, without the tuples themselves -/
structure SetN0 (w : World) (h : Heap) (a : Addr) (L : List (Addr × NK)) : Prop where
  ex : ∃ (es : Array (Int × Value)) (ep : Nat) (t : SetTable), (∃ o, h.get? a = some o ∧ o.ExactSet ∧ o.data = .set es ep t) ∧ es.toList = L.map (ent w) ∧ TabOk t (hashes w L) ∧ (L.map (·.2)).Nodup ∧ (w.params.followText "set-order" = true ∨ t.led = true) ∧ L.length * 5 < t.mask * 3 ∧ L.length < 64
def SetNO (w : World) (a : Addr) (L : List (Addr × NK)) : HO := .ext fun h => SetN0 w h a L
section
variable {P : Program} {w : World} {A : Around} {E : Value → Shared → Prop} {s : Shared} {a : Addr} {L : List (Addr × NK)} {es : Array (Int × Value)} {ep : Nat} {t : SetTable}
theorem SetAtN.t0 {h : Heap} (R : SetAtN w h a L es ep t) : SetN0 w h a L := ⟨es, ep, t, R.obj, R.lay, R.tab, R.apart, R.led, R.room, R.few⟩
theorem SetN0.full {h : Heap} (R : SetN0 w h a L) (ht : ∀ p ∈ L, IsN h p.2 p.1) : ∃ es ep t, SetAtN w h a L es ep t := by
  obtain ⟨es, ep, t, h1, h2, h3, h4, h5, h6, h7⟩ := R.ex
  exact ⟨es, ep, t, h1, h2, h3, h4, ht, h5, h6, h7⟩
theorem setNO_new {H : Hp} {h : Heap} (R : SetN0 w h a L) : ObjOk P w H h a (SetNO w a L) := by
  have ⟨es, ep, t, ⟨o, ho, r⟩, q⟩ := R.ex
  refine ⟨R, ⟨o, ho⟩, fun h1 h2 p k => ?_⟩
  have ⟨es', ep', t', ⟨o', ho', r'⟩, q'⟩ := SetN0.ex p
  exact ⟨es', ep', t', ⟨o', k o' ho', r'⟩, q'⟩
end
theorem refs_of_vals : ∀ {ks : List (Addr × K2)} {us : List Value}, Vals (ks.map fun p => V.ref p.1) us → us = ks.map fun p => Value.ref p.1
  | [], _, .nil => rfl
  | p :: ks, _, .cons r t => by
    cases r
    rw [refs_of_vals t] <;> rfl
theorem vals_of_refs : ∀ (ks : List (Addr × NK)), Vals (ks.map fun p => V.ref p.1) (ks.map fun p => Value.ref p.1)
  | [] => .nil
  | p :: ks => .cons rfl (vals_of_refs ks)
theorem all_nums {h : Heap} : ∀ {xs : List Int} {us : List Value}, Vals (xs.map V.int) us → NestedAll h (xs.map .num) us
  | [], _, .nil => .nil
  | x :: xs, _, .cons r t => by
    obtain ⟨tk, rfl⟩ := r
    exact .cons (.int x tk) (all_nums t)
theorem reads_nums {h : Heap} : ∀ {xs : List Int} {us : List Value}, Vals (xs.map V.int) us → ReadsAll h us (xs.map .int) []
  | [], _, .nil => .nil
  | x :: xs, _, .cons r t => by
    obtain ⟨tk, rfl⟩ := r
    exact ReadsAll.cons (as := []) (bs := []) (.int x tk) (reads_nums t)
/-- the key k at t -/
def KAt (K : PySem.W.Frag) (H : Hp) (t : Addr) (k : K2) : Prop := ∃ u, SqT K H t [.int k.1, .ref u] ∧ SqT K H u (k.2.map V.int)
section
variable {X : Cx} {pins : List (Addr × Obj)} {σ : L2.St} {H : Hp} {s : Shared}
theorem kAt_is (I : Inv X pins σ H s) {t : Addr} {k : K2} (h : KAt X.K H t k) : IsN s.heap (nk k) t ∧ Reads s.heap (.ref t) (dk k) [] := by
  obtain ⟨u, h1, h2⟩ := h
  obtain ⟨its, r, ⟨o, ho, hc, n, hd⟩, _⟩ := I.tuple h1
  obtain ⟨its2, r2, ⟨o2, ho2, hc2, n2, hd2⟩, _⟩ := I.tuple h2
  cases r with
  | cons q1 q =>
    obtain ⟨tk, rfl⟩ := q1
    cases q with
    | cons q2 q =>
      cases q
      cases q2
      refine ⟨⟨.tup ho hc hd (.cons (.int _ _) (.cons (.tup ho2 hc2 hd2 (by simpa using all_nums r2)) .nil)), depth_nk k⟩, ?_⟩
      exact .tuple ho hc hd (ReadsAll.cons (as := []) (bs := []) (.int _ _) (ReadsAll.cons (as := []) (bs := []) (.tuple ho2 hc2 hd2 (by simpa using reads_nums r2)) .nil))
end

def fk (p : Addr × K2) : Addr × NK := (p.1, nk p.2)
theorem back {α β : Type} (f : α → β) (ks : List α) : ∀ L : List β, (∀ p ∈ L, p ∈ ks.map f) → ∃ L2 : List α, L = L2.map f ∧ ∀ p ∈ L2, p ∈ ks
  | [], _ => ⟨[], rfl, fun p h => (by cases h)⟩
  | x :: L, h => by
    obtain ⟨p, hp, e⟩ := List.mem_map.mp (h x List.mem_cons_self)
    obtain ⟨L2, e2, h2⟩ := back f ks L fun q hq => h q (List.mem_cons_of_mem _ hq)
    exact ⟨p :: L2, by rw [List.map_cons, e, e2], fun q hq => (List.mem_cons.mp hq).elim (fun z => by rw [z]; exact hp) (h2 q)⟩
theorem fk_snd (L : List (Addr × K2)) : (L.map fk).map (·.2) = (L.map (·.2)).map nk := by
  rw [List.map_map, List.map_map] <;> rfl
theorem fk_fst (L : List (Addr × K2)) : (L.map fk).map (fun p => Value.ref p.1) = L.map fun p => Value.ref p.1 := by
  rw [List.map_map] <;> rfl
theorem nodup_nk {l : List K2} (h : (l.map nk).Nodup) : l.Nodup := by
  have h : (l.map nk).Pairwise (· ≠ ·) := h
  rw [List.pairwise_map] at h
  exact h.imp fun ne e => ne (by rw [e])
section
variable {X : Cx}
/-- set(xs) -/
def rSetN (K : PySem.W.Frag) (w : World) : List V → Hp → VK → Prop := fun xs H Q => ∃ (l : Addr) (ks : List (Addr × K2)), xs = [V.ref l] ∧ SqL K H l (ks.map fun p => V.ref p.1) ∧ (∀ p ∈ ks, KAt K H p.1 p.2) ∧ ks.length < 64 ∧
  ∀ a (L : List (Addr × K2)), H a = none → (∀ p ∈ L, p ∈ ks) → (∀ p ∈ ks, p.2 ∈ L.map (·.2)) → (L.map (·.2)).Nodup → Q (.ref a) (upd H a (SetNO w a (L.map fk)))
theorem cr_setN (hc : X.calm = true) (hu : X.A.units + 64 < cLine) : CallR X (.type "set") (rSetN X.K X.w) := by
  intro pins s σ H xs us Q I r h
  obtain ⟨l, ks, rfl, hl, hk, hf, q⟩ := h
  rw [Vals.ref1 r]
  obtain ⟨its, rv, pl, hz⟩ := I.list hl
  have hn : H s.heap.objs.size = none := I.hok.fresh (Nat.le_refl _)
  refine call_setN (P := X.prog) (w := X.w) (ks.map fk) (I.ok.hd hc) pl.isList ?_ ?_ (by rw [List.length_map]; exact hf) (by omega) fun h' tk L es ep t R g k => ?_
  · have e := refs_of_vals rv
    rw [fk_fst]
    simpa using e
  · intro p hp
    obtain ⟨q0, hq, e⟩ := List.mem_map.mp hp
    subst e
    exact (kAt_is I (hk q0 hq)).1
  · have g' := g.sub
    have g2 := g.all
    rw [List.take_length] at g' g2
    obtain ⟨L2, e, hL⟩ := back fk ks L g'
    subst e
    refine ⟨.ref s.heap.objs.size, upd H s.heap.objs.size (SetNO X.w s.heap.objs.size (L2.map fk)), I.laid (t' := tk) k (Nat.le_refl _) (setNO_new R.t0), rfl, q _ L2 hn hL (fun p hp => ?_) ?_⟩
    · have z := g2 (fk p) (List.mem_map.mpr ⟨p, hp, rfl⟩)
      rw [fk_snd] at z
      obtain ⟨k2, hk2, e2⟩ := List.mem_map.mp z
      rw [← nk_inj e2]
      exact hk2
    · have z := R.apart
      rw [fk_snd] at z
      exact nodup_nk z
/-- sorted(set) -/
def rSortedN (K : PySem.W.Frag) (w : World) : List V → Hp → VK → Prop := fun vs H Q => ∃ (a : Addr) (L : List (Addr × K2)), vs = [V.ref a] ∧ H a = some (SetNO w a (L.map fk)) ∧ (∀ p ∈ L, KAt K H p.1 p.2) ∧
  ∀ (L' : List (Addr × K2)) (p : Addr), L'.Perm L → L'.map (·.2) = (L.map (·.2)).mergeSort kle → H p = none → Q (.ref p) (upd H p (.lst (L'.map fun q => V.ref q.1)))
theorem each_refs {L0 : List (Addr × K2)} : ∀ {L1 : List (Addr × K2)}, (∀ p ∈ L1, p ∈ L0) → PySem.W.EachIs (fun v (p : Addr × K2) => v = Value.ref p.1) (L1.map fun p => Value.ref p.1) L1
  | [], _ => .nil
  | p :: L1, h => .cons rfl (each_refs fun q hq => h q (List.mem_cons_of_mem _ hq))
theorem of_each {L1 : List (Addr × K2)} : ∀ {vs : List Value}, PySem.W.EachIs (fun v (p : Addr × K2) => v = Value.ref p.1) vs L1 → vs = L1.map fun p => Value.ref p.1 := by
  induction L1 with
  | nil => intro vs h; cases h; rfl
  | cons p L1 ih =>
    intro vs h
    cases h with
    | cons h1 h2 => rw [List.map_cons, h1, ih h2]
theorem each_reads {h : Heap} : ∀ {L1 : List (Addr × K2)} (a : Addr), (∀ p ∈ L1, Reads h (.ref p.1) (dk p.2) []) → PySem.W.EachIs (fun v (p : Addr × K2) => ∃ as, Reads h v (dk p.2) as ∧ a ∉ as) (L1.map fun p => Value.ref p.1) L1
  | [], _, _ => .nil
  | p :: L1, a, h => .cons ⟨[], h p List.mem_cons_self, by simp⟩ (each_reads a fun q hq => h q (List.mem_cons_of_mem _ hq))
theorem map_sort {L : List (Addr × K2)} : (L.mergeSort (PySem.W.dataLe false fun p : Addr × K2 => dk p.2)).map (·.2) = (L.map (·.2)).mergeSort kle := List.map_mergeSort fun _ _ _ _ => rfl
theorem cr_sortedN (hc : X.calm = true) (hu : X.A.units + 64 < cLine) : CallR X (.builtin "sorted") (rSortedN X.K X.w) := by
  intro pins s σ H vs us Q I r h
  obtain ⟨a, L, rfl, ha, hk, q⟩ := h
  have R0 : SetN0 X.w s.heap a (L.map fk) := (I.hok a _ ha).1
  obtain ⟨es, ep, t, R⟩ := R0.full fun p hp => by
    obtain ⟨q0, hq, e⟩ := List.mem_map.mp hp
    subst e
    exact (kAt_is I (hk q0 hq)).1
  rw [Vals.ref1 r]
  obtain ⟨o, ho, hex, hd⟩ := R.obj
  have hfew := R.few
  rw [List.length_map] at hfew
  have hsz : es.size < 64 := by rw [size_of_lay R.lay, List.length_map]; exact hfew
  refine Calls.call_function_entry kind_sorted plain_sorted entry_sorted (args_sorted1 _) ?_
  unfold Builtin.«sorted»
  refine wpAny_bind (m := checkCount "sorted" 1 1 _) (wpAny_pure ?_)
  refine wpAny_bind (collect_set (A := X.A.in1) (I.ok.hd hc) ⟨o, ho, hex.1, hd⟩ R.fit (by unfold scanBound; omega) R.tab.ris R.led fun s1 vs k1 hz g1 o1 pm => ?_)
  have hes : es.toList.map (·.2) = L.map fun q => Value.ref q.1 := by
    rw [R.lay, List.map_map, List.map_map] <;> rfl
  rw [hes] at pm
  obtain ⟨L1, ev, hL1⟩ := back (fun q : Addr × K2 => Value.ref q.1) L vs fun v hv => pm.mem_iff.mp hv
  subst ev
  have ndL : (L.map (·.2)).Nodup := by
    have z := R.apart
    rw [fk_snd] at z
    exact nodup_nk z
  have one : ∀ q ∈ L, ∀ r ∈ L, q.1 = r.1 → q = r := fun q hq r hr e => by
    have a1 := (kAt_is I (hk q hq)).1.1
    have a2 := (kAt_is I (hk r hr)).1.1
    rw [e] at a1
    exact Prod.ext e (nk_inj (NestedIs.inj _ _ _ a1 a2))
  have pL : L1.Perm L := by
    have nL : L.Nodup := nodup_of_map ndL
    have nref : (L.map fun q => Value.ref q.1).Nodup := by
      refine List.pairwise_map.mpr (List.Pairwise.imp_of_mem (fun {q r} hq hr hne e => ?_) nL)
      injection e with e
      exact hne (one q hq r hr e)
    have n1 : L1.Nodup := nodup_of_map (pm.nodup_iff.mpr nref)
    refine (List.perm_ext_iff_of_nodup n1 nL).mpr fun q => ⟨hL1 q, fun hq => ?_⟩
    have hm : Value.ref q.1 ∈ L1.map (fun q => Value.ref q.1) := pm.mem_iff.mpr (List.mem_map.mpr ⟨q, hq, rfl⟩)
    obtain ⟨r, hr, e⟩ := List.mem_map.mp hm
    injection e with e
    rw [← one r (hL1 r hr) q hq e]
    exact hr
  have hl1 : L1.length < 64 := by rw [pL.length_eq]; exact hfew
  refine wpAny_bind (wpAny_newList ?_ (by rw [sizeLine_eq, List.length_map]; omega))
  generalize hvv : (L1.map fun q => Value.ref q.1) = vv
  have hoL : (s1.heap.push (seqObj "list" vv.toArray 0)).get? s1.heap.objs.size = some (seqObj "list" vv.toArray 0) := Heap.get?_push_size _ rfl
  have tk : ∀ q ∈ L1, Reads (s1.heap.push (seqObj "list" vv.toArray 0)) (.ref q.1) (dk q.2) [] := fun q hq => PyProof.Rows.Reads.keeps (fun b u e => Heap.get?_push_of_some _ (k1 b u e)) (kAt_is I (hk q (hL1 q hq))).2
  have e1 := each_refs (L0 := L) hL1
  have e2 := each_reads (h := s1.heap.push (seqObj "list" vv.toArray 0)) s1.heap.objs.size tk
  rw [hvv] at e1 e2
  refine wpAny_bind (wpAny_holding (PySem.W.list_sort_data (s := { s1 with heap := s1.heap.push (seqObj "list" vv.toArray 0) }) (enc := fun p : Addr × K2 => dk p.2) hoL e1 e2
    (PySem.W.AllAlike.of fun b b' => alike_dk _ _) (PySem.W.Sortable.tuples fun b => ⟨_, _, rfl⟩) (by rw [sizeLine_eq]; omega) (fun b _ => ?_) fun out a1 a2 => ?_))
  · have d := depth_dk b.2
    have hu2 : X.A.in1.units = X.A.units + 1 := rfl
    simp only [hu2]
    omega
  · obtain ⟨c, hc'⟩ := sortedHeap_at (vs := vv) (out := out.toArray) hoL
    have eo := of_each a2
    generalize hL' : L1.mergeSort (PySem.W.dataLe false fun p : Addr × K2 => dk p.2) = L' at eo a1 a2
    have pm' : L'.Perm L1 := by rw [← hL']; exact List.mergeSort_perm _ _
    have ms : L'.map (·.2) = (L.map (·.2)).mergeSort kle := by
      rw [← hL', map_sort, sortSet_one (ks := L.map (·.2)) (fun k => (pL.map (·.2)).mem_iff) ((pL.map (·.2)).nodup_iff.mpr ndL)]
      exact (sortSet_one (fun k => Iff.rfl) ndL).symm
    have hn : H s1.heap.objs.size = none := I.hok.fresh hz
    have hv : Vals (L'.map fun q => V.ref q.1) out := by
      rw [eo]
      have z := vals_of_refs (L'.map fk)
      rw [List.map_map, List.map_map] at z
      exact z
    have kk : ∀ b u, s.heap.get? b = some u → (sortedHeap (s1.heap.push (seqObj "list" vv.toArray 0)) s1.heap.objs.size vv out.toArray).get? b = some u := fun b u e => by
      have q := k1 b u e
      have hlt := Heap.lt_size q
      rw [sortedHeap_old (Nat.ne_of_lt hlt) (by rw [size_push']; exact Nat.lt_succ_of_lt hlt)]
      exact Heap.get?_push_of_some _ q
    generalize hh' : sortedHeap (s1.heap.push (seqObj "list" vv.toArray 0)) s1.heap.objs.size vv out.toArray = h2 at hc' kk
    have J : Inv X pins σ (upd H s1.heap.objs.size (.lst (L'.map fun q => V.ref q.1))) { s with heap := h2, gens := s1.gens, drawn := s1.drawn, toks := s1.toks } :=
      I.call (ch := []) (Un.laid kk hz hn) (I.hok.laid kk hz ⟨by rw [List.length_map, pm'.length_eq, sizeLine_eq]; omega, out, c, hv, hc'⟩) (by rw [g1]; exact I.bare) (fun _ z => nomatch z)
    refine wpAny_pure ⟨_, rfl, ?_⟩
    have e : ({ s1 with heap := h2 } : Shared) = { s with heap := h2, gens := s1.gens, drawn := s1.drawn, toks := s1.toks } := by
      cases s1
      cases s
      cases o1
      rfl
    show ∃ _ _, _
    simp only [hh']
    rw [e]
    exact ⟨.ref s1.heap.objs.size, _, J, rfl, q L' _ (pm'.trans pL) ms hn⟩
end
end TW.SetN
namespace TW
open PySem L2 PyProof.Rows PySem.Calls

/-! ### enumerate(v), zip(v, w): lists, tuples, texts -/
inductive SK
  | l (a : Addr)
  | t (a : Addr)
  | s (x : Str)
def SK.v : SK → V
  | .l a => .ref a
  | .t a => .ref a
  | .s x => .str x
def SK.ats (K : PySem.W.Frag) (H : Hp) : SK → List V → Prop
  | .l a, xs => SqL K H a xs
  | .t a, xs => SqT K H a xs
  | .s x, xs => xs = x.cps.toList.map fun k => V.str ⟨#[k]⟩
def SK.fp : SK → List Addr
  | .l a => [a]
  | .t a => [a]
  | .s _ => []
def SK.st (k : SK) (it : Addr) (i : Nat) (h : Heap) : Prop := match k with
  | .l a => h.IsListIter it a i ∧ a ≠ it
  | .t a => h.IsTupleIter it a i ∧ a ≠ it
  | .s x => ∃ t, h.IsStrIter it (strIterType x) x t i
theorem vals_back : ∀ {xs : List V} {us : List Value} {i : Nat} {v : Value}, Vals xs us → us[i]? = some v → ∃ x, xs[i]? = some x ∧ RelV x v
  | [], _, i, v, .nil, e => by simp at e
  | x :: xs, u :: us, 0, v, .cons r t, e => by
    have e : u = v := by simpa using e
    subst e
    exact ⟨x, rfl, r⟩
  | x :: xs, u :: us, i + 1, v, .cons r t, e => by
    obtain ⟨y, h1, h2⟩ := vals_back (xs := xs) (us := us) (i := i) t (by simpa using e)
    exact ⟨y, by simpa using h1, h2⟩
theorem draws_weak {prog : Program} {w : World} {A : Around} {it : Addr} {fp : List Addr} {n : Nat} {P P' : Nat → Value → Prop} {St : Nat → Heap → Prop} (D : Draws prog w A it fp n P St) (k : ∀ i v, P i v → P' i v) : Draws prog w A it fp n P' St where
  live := D.live
  frame := D.frame
  item := fun i s Q E hi st hQ => D.item i s Q E hi st fun x h' tk p => hQ x h' tk (k _ _ p)
  done := D.done
section
variable {X : Cx} {pins : List (Addr × Obj)} {σ : L2.St} {H : Hp} {s : Shared}
theorem SK.one (I : Inv X pins σ H s) {k : SK} {xs ys : List V} (h : k.ats X.K H xs) (h' : k.ats X.K H ys) : xs = ys := by
  cases k with
  | l a => exact I.list_inj h h'
  | t a => exact I.tuple_inj h h'
  | s x => exact Eq.trans h (Eq.symm h')
theorem SK.draws (hc : X.calm = true) (I : Inv X pins σ H s) {k : SK} {xs : List V} (h : k.ats X.K H xs) {it : Addr} {i : Nat} (st : k.st it i s.heap) :
    ∃ St, Draws X.prog X.w X.A.in1 it (it :: k.fp) xs.length (fun i v => ∃ x, xs[i]? = some x ∧ RelV x v) St ∧ St i s.heap ∧ ∀ i h, St i h → k.st it i h := by
  have hh : X.A.in1.handled = none := I.ok.hd hc
  cases k with
  | l a =>
    obtain ⟨its, rv, p, _⟩ := I.list h
    have e := rv.length
    refine ⟨fun i h => h.IsListIter it a i ∧ h.IsList a its.toArray, draws_weak (P := fun i v => its.toArray[i]? = some v) ?_ fun i v hv => ?_, ⟨st.1, p.isList⟩, fun i h q => ⟨q.1, st.2⟩⟩
    · have D := Draws.list (prog := X.prog) (w := X.w) hh it a st.2 its.toArray
      have e2 : its.toArray.size = xs.length := by simpa using e.symm
      rw [e2] at D
      exact D
    · have hv : its[i]? = some v := by simpa using hv
      obtain ⟨x, hx, r⟩ := vals_back rv hv
      exact ⟨x, hx, r⟩
  | t a =>
    obtain ⟨its, rv, p, _⟩ := I.tuple h
    have e := rv.length
    refine ⟨fun i h => h.IsTupleIter it a i ∧ h.IsTuple a its.toArray, draws_weak (P := fun i v => its.toArray[i]? = some v) ?_ fun i v hv => ?_, ⟨st.1, p⟩, fun i h q => ⟨q.1, st.2⟩⟩
    · have D := Draws.tuple (prog := X.prog) (w := X.w) hh it a st.2 its.toArray
      have e2 : its.toArray.size = xs.length := by simpa using e.symm
      rw [e2] at D
      exact D
    · have hv : its[i]? = some v := by simpa using hv
      obtain ⟨x, hx, r⟩ := vals_back rv hv
      exact ⟨x, hx, r⟩
  | s x =>
    obtain ⟨t, st⟩ := st
    have h : xs = x.cps.toList.map fun k => V.str ⟨#[k]⟩ := h
    subst h
    refine ⟨fun i h => h.IsStrIter it (strIterType x) x t i, draws_weak (P := fun i v => ∃ c u, x.cps[i]? = some c ∧ v = .str ⟨#[c]⟩ u) ?_ fun i v hv => ?_, st, fun i h q => ⟨t, q⟩⟩
    · have D := Draws.text (prog := X.prog) (w := X.w) hh it x t
      have e2 : x.cps.size = (x.cps.toList.map fun k => V.str ⟨#[k]⟩).length := by simp
      rw [e2] at D
      exact D
    · obtain ⟨c, u, h1, rfl⟩ := hv
      refine ⟨.str ⟨#[c]⟩, ?_, u, rfl⟩
      rw [List.getElem?_map, Array.getElem?_toList, h1] <;> rfl
/-- its iterator begins -/
theorem SK.begins (I : Inv X pins σ H s) {k : SK} {xs : List V} (h : k.ats X.K H xs) {u : Value} (r : RelV k.v u) :
    ∃ o Hh, Begins u o Hh ∧ Hh s.heap ∧ (∀ b ∈ k.fp, b < s.heap.objs.size) ∧ ∀ it (h' : Heap), s.heap.objs.size ≤ it → h'.get? it = some o → k.st it 0 h' := by
  cases k with
  | l a =>
    obtain rfl : u = .ref a := r
    obtain ⟨its, rv, p, _⟩ := I.list h
    have la := p.lt
    refine ⟨_, _, begins_list a its.toArray, p.isList, fun b hb => by rw [List.mem_singleton.mp hb]; exact la, fun it h' hi hg => ⟨⟨_, hg, rfl, rfl⟩, Nat.ne_of_lt (Nat.lt_of_lt_of_le la hi)⟩⟩
  | t a =>
    obtain rfl : u = .ref a := r
    obtain ⟨its, rv, p, _⟩ := I.tuple h
    have la : a < s.heap.objs.size := by obtain ⟨o, ho, _⟩ := p; exact Heap.lt_size ho
    refine ⟨_, _, begins_tuple a its.toArray, p, fun b hb => by rw [List.mem_singleton.mp hb]; exact la, fun it h' hi hg => ⟨⟨_, hg, rfl, rfl⟩, Nat.ne_of_lt (Nat.lt_of_lt_of_le la hi)⟩⟩
  | s x =>
    obtain ⟨t, rfl⟩ := r
    exact ⟨_, _, begins_text x t, trivial, fun b hb => (by cases hb), fun it h' hi hg => ⟨t, _, hg, rfl, rfl⟩⟩
theorem SK.iter {k : SK} {it : Addr} {i : Nat} {h : Heap} (st : k.st it i h) : ∃ o, h.get? it = some o ∧ ∀ v, o.data ≠ .cell v := by
  cases k with
  | l a => obtain ⟨⟨o, ho, hc, hd⟩, _⟩ := st; exact ⟨o, ho, fun v z => by rw [hd] at z; cases z⟩
  | t a => obtain ⟨⟨o, ho, hc, hd⟩, _⟩ := st; exact ⟨o, ho, fun v z => by rw [hd] at z; cases z⟩
  | s x => obtain ⟨t, o, ho, hc, hd⟩ := st; exact ⟨o, ho, fun v z => by rw [hd] at z; cases z⟩
theorem SK.at {k : SK} {it : Addr} {i : Nat} {h h' : Heap} (st : k.st it i h) (kp : ∀ o, h.get? it = some o → h'.get? it = some o) : k.st it i h' := by
  cases k with
  | l a => exact ⟨st.1.at kp, st.2⟩
  | t a => obtain ⟨⟨o, ho, r⟩, n⟩ := st; exact ⟨⟨o, kp o ho, r⟩, n⟩
  | s x => obtain ⟨t, o, ho, r⟩ := st; exact ⟨t, o, kp o ho, r⟩
end
set_option maxHeartbeats 1000000 in
theorem meets_enumerate_one {v : Value} {o : Obj} {H : Heap → Prop} (B : Begins v o H) :
    Meets (Builtin.«enumerate.__new__» ⟨[.type "enumerate", v], []⟩) (fun _ R s => H s.heap ∧
      R (.ok (.ret (.ref (s.heap.push o).objs.size))) { s with heap := (s.heap.push o).push { cls := .type "enumerate", data := .fields #[.none, .bool false, .ref s.heap.objs.size, rawInt 0, .none, .none] } }) :=
  .of_wp fun prog w A R s h => by
    obtain ⟨hp, g, d, tk, os⟩ := s; obtain ⟨h1, h⟩ := h
    have hsub := sub_enumerate
    have q1 : ∀ {A' : Around} {E : Value → Shared → Prop} {Q : Value → Shared → Prop}, Q (.ref hp.objs.size) ⟨hp.push o, g, d, tk, os⟩ → wpAny (model prog w) A' (pyIter v) Q E ⟨hp, g, d, tk, os⟩ :=
      fun q => B.iter prog w _ _ ⟨hp, g, d, tk, os⟩ _ h1 q
    wp_walk using q1
    refine wpAny_stack_any fun st => wpAny_pure ?_
    split
    · rename_i c _ _ _ _ _
      cases (c == Value.type "enumerate")
      · wp_walk using q1
        exact ⟨_, rfl, h⟩
      · wp_walk using q1
        exact ⟨_, rfl, h⟩
    · wp_walk using q1
      exact ⟨_, rfl, h⟩
section
variable {prog : Program} {w : World} {A : Around} {E : Value → Shared → Prop} {s : Shared}
theorem enum_begins1 {v : Value} {o : Obj} {H : Heap → Prop} {Q : Value → Shared → Prop} (B : Begins v o H) (h1 : H s.heap)
    (h : ∀ h', IsEnum h' (s.heap.objs.size + 1) s.heap.objs.size ((0 : Nat) : Int) .none → h'.get? s.heap.objs.size = some o → h'.objs.size = s.heap.objs.size + 2 →
      (∀ b o, s.heap.get? b = some o → h'.get? b = some o) → Q (.ref (s.heap.objs.size + 1)) { s with heap := h' }) :
    wpAny (model prog w) A (call (.type "enumerate") [v]) Q E s := by
  refine callType_new F.called_enumerate (by decide) (F.typeCall_enumerate_1 _) (F.newCall_enumerate_1 _) (fun obj => F.args_object_init_2 obj _) F.entry_enumerate_new
    (meets_enumerate_one B) ⟨h1, ?_⟩
  have hz : (s.heap.push o).objs.size = s.heap.objs.size + 1 := Heap.size_push ..
  show _ ∧ _
  rw [hz]
  have he : IsEnum ((s.heap.push o).push { cls := .type "enumerate", data := .fields #[.none, .bool false, .ref s.heap.objs.size, rawInt 0, .none, .none] }) (s.heap.objs.size + 1) s.heap.objs.size ((0 : Nat) : Int) .none := by
    have := Heap.get?_push_size (s.heap.push o) (o := { cls := .type "enumerate", data := .fields #[.none, .bool false, .ref s.heap.objs.size, rawInt 0, .none, .none] }) rfl
    rw [hz] at this; exact this
  refine ⟨⟨_, he, rfl⟩, h _ he (Heap.get?_push_of_some _ (Heap.get?_push_size _ B.free)) (by rw [Heap.size_push, hz]) fun b o x => Heap.get?_push_of_some _ (Heap.get?_push_of_some _ x)⟩
end
def Iqe (K : PySem.W.Frag) (k : SK) : It :=
  ⟨fun i H => ∃ (xs : List V) (x : V), k.ats K H xs ∧ xs[i]? = some x, fun i H v H' => ∃ T x, v = .ref T ∧ H T = none ∧ H' = upd H T (.tup [.int (i : Nat), x]) ∧ ∀ xs, k.ats K H xs → xs[i]? = some x, fun i H => ∃ xs : List V, k.ats K H xs ∧ xs.length = i⟩
theorem turn_enumS {P : Program} {w : World} {K : PySem.W.Frag} {elts : List Expr} {kk : Nat} {tpos : Pos} (k : SK) (e it : Addr) (hne : e ≠ it) (hek : e ∉ k.fp) :
    Turn P w K (.Tuple elts kk tpos) (Iqe K k) [e, it] e (fun i h => (∃ old, IsEnum h e it ((i : Nat) : Int) old) ∧ k.st it i h) where
  mem := by simp
  obj := fun i h st b hb => by
    obtain ⟨⟨old, he⟩, hi⟩ := st
    have e' : b = e ∨ b = it := by simpa using hb
    rcases e' with z | z
    · rw [z]; exact ⟨_, he, fun v q => nomatch q⟩
    · rw [z]; exact SK.iter hi
  keep := fun i h h' st kp => let ⟨⟨old, he⟩, hi⟩ := st; ⟨⟨old, kp e (by simp) _ he⟩, SK.at hi fun o q => kp it (by simp) o q⟩
  item := by
    intro X hP hw hK hc i pins s σ H E I hf st hg
    subst hP hw hK
    obtain ⟨⟨old, he⟩, hit⟩ := st
    obtain ⟨xs, x, hq, hx⟩ := hg
    obtain ⟨St, D, hst, hback⟩ := SK.draws hc I hq hit
    have hel : e < s.heap.objs.size := Heap.lt_size he
    have hil : it < s.heap.objs.size := by obtain ⟨_, q, _⟩ := (SK.iter hit); exact Heap.lt_size q
    have hlt : i < xs.length := (List.getElem?_eq_some_iff.mp hx).1
    have hef : e ∉ it :: k.fp := fun z => by
      rcases List.mem_cons.mp z with z | z
      · exact hne z
      · exact hek z
    refine wpAny_pyNext_enum_itemD D he hst hlt hne hef fun u h' tk hP' ho hst' hT hsz hk => ?_
    obtain ⟨y, hy, ru⟩ := hP'
    have hyx : y = x := Option.some.inj (hy.symm.trans hx)
    subst hyx
    have hit' := hback _ _ hst'
    refine ⟨_, rfl, wpAny_letOwnedTupleGo_enum (s := { s with heap := h', toks := tk + 1 }) ho fun h'' he' sb => ?_⟩
    have hT2 : h''.get? s.heap.objs.size = some { cls := .type "tuple", data := .seq #[.int i tk, u] } := (sb.2 _ (Nat.ne_of_gt hel)).trans hT
    have new : ObjOk X.prog X.w (upd H s.heap.objs.size (.tup [.int (i : Nat), y])) h'' s.heap.objs.size (.tup [.int (i : Nat), y]) :=
      ⟨by show 2 ≤ sizeLine; decide, [.int i tk, u], .cons ⟨_, rfl⟩ (.cons ru .nil), ⟨_, hT2, rfl, _, rfl⟩⟩
    have I1 : Inv X pins σ (upd H s.heap.objs.size (.tup [.int (i : Nat), y])) { s with heap := h'', toks := tk + 1 } :=
      I.turnedNew (ch := [e, it]) (fun b ob hb q => (sb.2 b (fun z => hb (by simp [z]))).trans (hk b ob (fun z => hb (by simp [z])) (fun z => hb (by simp [z])) q)) hf (Nat.le_refl _) new
    refine ⟨.ref s.heap.objs.size, _, I1, rfl, ⟨_, y, rfl, I.hok.fresh (Nat.le_refl _), rfl, fun ys hy => by rw [SK.one I hy hq]; exact hx⟩, ⟨⟨u, ?_⟩, SK.at hit' fun o q => (sb.2 it (Ne.symm hne)).trans q⟩, fun b hb => ?_⟩
    · have e1 : ((i + 1 : Nat) : Int) = (i : Int) + 1 := by omega
      rw [e1]; exact he'
    · have hb' : b < s.heap.objs.size := by
        have e' : b = e ∨ b = it := by simpa using hb
        rcases e' with z | z
        · rw [z]; exact hel
        · rw [z]; exact hil
      rw [upd_ne (Nat.ne_of_lt hb')]
      exact (hf b hb).1
  done := by
    intro X hP hw hK hc i pins s σ H E I hf st hg
    subst hP hw hK
    obtain ⟨⟨old, he⟩, hit⟩ := st
    obtain ⟨xs, hq, hx⟩ := hg
    obtain ⟨St, D, hst, hback⟩ := SK.draws hc I hq hit
    obtain ⟨f0, f1, f2, f3, f4, f5⟩ := hf it (by simp)
    exact wpAny_pyNext_enum_endD D he (by rw [hx]; exact hst) fun h' eb => ⟨rfl, I.turned (t' := s.toks) (fun b o hb q => eb b o hb q) f0 f1 f3 f4 f5⟩
  self := fun A i s Q E st h => let ⟨⟨_, he⟩, _⟩ := st; wpAny_pyIter_enum he h
def iEnumS (K : PySem.W.Frag) (ta : TA) : TI := fun σ H R => ta σ H fun vs H1 => ∃ (k : SK) (xs : List V), vs = [k.v] ∧ k.ats K H1 xs ∧ R (Iqe K k) H1
theorem pi_enumS {X : Cx} {e : Expr} {ta : TA} {p pos tpos : Pos} {elts : List Expr} {kk : Nat} (hg : Gl X "enumerate") (hm : X.mg "enumerate" = none) (ha : PA X [e] ta) (hs : starEach [e] X.env = [(false, eval e X.env)] := by rfl) :
    PI X (.Tuple elts kk tpos) (.Call (.Name "enumerate" p) [e] [] pos) (iEnumS X.K ta) := by
  refine ⟨fun pins s σ H R I h => ?_⟩
  refine Call_ (ld_blt I hg hm boot_enumerate (PyProof.Rows.callWith_type1 (thn (ha.run pos pins s σ H _ I h) fun us s1 ⟨vs, H1, I1, r1, q1⟩ => ?_) hs rfl))
  obtain ⟨k, xs, ex, hq, q⟩ := q1
  subst ex
  cases r1 with
  | cons r rr =>
    cases rr
    obtain ⟨o, Hh, B, hh, hfp, hst⟩ := SK.begins I1 hq r
    refine enum_begins1 B hh fun h' he hit hsz hk => wpAny_pyIter_enum he ?_
    have I2 : Inv X pins σ H1 { s1 with heap := h' } := I1.kept (t' := s1.toks) hk
    refine ⟨s1.heap.objs.size + 1, [s1.heap.objs.size + 1, s1.heap.objs.size], _, _, H1, rfl, I2, turn_enumS k (s1.heap.objs.size + 1) s1.heap.objs.size (Nat.succ_ne_self _) (fun z => ?_), ⟨⟨.none, he⟩, hst _ _ (Nat.le_refl _) hit⟩, fun b hb => ?_, q⟩
    · have := hfp _ z
      exact absurd this (Nat.not_lt_of_le (Nat.le_succ _))
    · have e' : b = s1.heap.objs.size + 1 ∨ b = s1.heap.objs.size := by simpa using hb
      have hle : s1.heap.objs.size ≤ b := by
        rcases e' with z | z
        · rw [z]; exact Nat.le_add_right _ _
        · rw [z]; exact Nat.le_refl _
      exact I1.fpOk hle (I1.hok.fresh hle)
/-! zip -/
def Iqz (K : PySem.W.Frag) (k1 k2 : SK) : It :=
  ⟨fun i H => ∃ (xs ys : List V) (x y : V), k1.ats K H xs ∧ k2.ats K H ys ∧ xs[i]? = some x ∧ ys[i]? = some y,
    fun i H v H' => ∃ T x y, v = .ref T ∧ H T = none ∧ H' = upd H T (.tup [x, y]) ∧ (∀ xs, k1.ats K H xs → xs[i]? = some x) ∧ ∀ ys, k2.ats K H ys → ys[i]? = some y,
    fun i H => ∃ xs ys : List V, k1.ats K H xs ∧ k2.ats K H ys ∧ i = min xs.length ys.length⟩
theorem turn_zipS {P : Program} {w : World} {K : PySem.W.Frag} {elts : List Expr} {kk : Nat} {tpos : Pos} {k1 k2 : SK} {z TI TO i1 i2 : Addr} (S : ZipSep2 z TI TO i1 i2 (i1 :: k1.fp) (i2 :: k2.fp)) :
    Turn P w K (.Tuple elts kk tpos) (Iqz K k1 k2) [z, TI, TO, i1, i2] z (fun i h => IsZip h z TI TO .none ∧ IsTupOf2 h TI (.ref i1) (.ref i2) ∧ (∃ x y, IsTupOf2 h TO x y) ∧ k1.st i1 i h ∧ k2.st i2 i h) where
  mem := by simp
  obj := fun i h st c hc => by
    obtain ⟨hz, hTI, ⟨x, y, hTO⟩, h1, h2⟩ := st
    have e' : c = z ∨ c = TI ∨ c = TO ∨ c = i1 ∨ c = i2 := by simpa using hc
    rcases e' with q | q | q | q | q
    · rw [q]; exact ⟨_, hz, fun v q => nomatch q⟩
    · rw [q]; exact ⟨_, hTI, fun v q => nomatch q⟩
    · rw [q]; exact ⟨_, hTO, fun v q => nomatch q⟩
    · rw [q]; exact (SK.iter h1)
    · rw [q]; exact (SK.iter h2)
  keep := fun i h h' st k => by
    obtain ⟨hz, hTI, ⟨x, y, hTO⟩, h1, h2⟩ := st
    exact ⟨k z (by simp) _ hz, k TI (by simp) _ hTI, ⟨x, y, k TO (by simp) _ hTO⟩, SK.at h1 fun o q => k i1 (by simp) o q, SK.at h2 fun o q => k i2 (by simp) o q⟩
  item := by
    intro X hP hw hK hc i pins s σ H E I hf st hg
    subst hP hw hK
    obtain ⟨hz, hTI, ⟨x0, y0, hTO⟩, h1, h2⟩ := st
    obtain ⟨xs, ys, x, y, hqx, hqy, hx, hy⟩ := hg
    obtain ⟨St1, D1, s1, back1⟩ := SK.draws hc I hqx h1
    obtain ⟨St2, D2, s2, back2⟩ := SK.draws hc I hqy h2
    have hzl : z < s.heap.objs.size := Heap.lt_size hz
    refine wpAny_pyNext_zipD2_item S D1 D2 hz hTI hTO s1 s2 (List.getElem?_eq_some_iff.mp hx).1 (List.getElem?_eq_some_iff.mp hy).1 fun u u2 h' tk p1 p2 z' TO' s1' s2' hT hsz hk => ?_
    obtain ⟨x', hx', ru⟩ := p1
    obtain ⟨y', hy', ru2⟩ := p2
    have ex : x' = x := Option.some.inj (hx'.symm.trans hx)
    have ey : y' = y := Option.some.inj (hy'.symm.trans hy)
    subst ex ey
    have h1' := back1 _ _ s1'
    have h2' := back2 _ _ s2'
    refine ⟨_, rfl, wpAny_letOwnedTupleGo_zip (s := { s with heap := h', toks := tk }) z' fun h'' z'' sb => ?_⟩
    have hT2 : h''.get? s.heap.objs.size = some { cls := .type "tuple", data := .seq #[u, u2] } := (sb.2 _ (Nat.ne_of_gt hzl)).trans hT
    have new : ObjOk X.prog X.w (upd H s.heap.objs.size (.tup [x', y'])) h'' s.heap.objs.size (.tup [x', y']) :=
      ⟨by show 2 ≤ sizeLine; decide, [u, u2], .cons ru (.cons ru2 .nil), ⟨_, hT2, rfl, _, rfl⟩⟩
    have I1 : Inv X pins σ (upd H s.heap.objs.size (.tup [x', y'])) { s with heap := h'', toks := tk } :=
      I.turnedNew (t' := tk) (ch := [z, TI, TO, i1, i2]) (fun c o hb q => (sb.2 c (fun q' => hb (by simp [q']))).trans (hk c o (fun q' => hb (by simp [q'])) (fun q' => hb (by simp [q'])) (fun q' => hb (by simp [q'])) (fun q' => hb (by simp [q'])) q)) hf (Nat.le_refl _) new
    refine ⟨.ref s.heap.objs.size, _, I1, rfl, ⟨_, x', y', rfl, I.hok.fresh (Nat.le_refl _), rfl, fun l hl => by rw [SK.one I hl hqx]; exact hx, fun l hl => by rw [SK.one I hl hqy]; exact hy⟩, ⟨z'', ?_, ⟨u, u2, ?_⟩, ?_, ?_⟩, fun c hcm => ?_⟩
    · exact (sb.2 _ S.TIz).trans (hk _ _ S.TIz S.TITO S.TIi1 S.TIi2 hTI)
    · exact (sb.2 _ S.TOz).trans TO'
    · exact SK.at h1' fun o q => (sb.2 _ (Ne.symm S.zi1)).trans q
    · exact SK.at h2' fun o q => (sb.2 _ (Ne.symm S.zi2)).trans q
    · have hlt : c < s.heap.objs.size := by
        have e' : c = z ∨ c = TI ∨ c = TO ∨ c = i1 ∨ c = i2 := by simpa using hcm
        rcases e' with q | q | q | q | q
        · rw [q]; exact hzl
        · rw [q]; exact Heap.lt_size hTI
        · rw [q]; exact Heap.lt_size hTO
        · rw [q]; obtain ⟨_, e1, _⟩ := (SK.iter h1); exact Heap.lt_size e1
        · rw [q]; obtain ⟨_, e2, _⟩ := (SK.iter h2); exact Heap.lt_size e2
      rw [upd_ne (Nat.ne_of_lt hlt)]
      exact (hf c hcm).1
  done := by
    intro X hP hw hK hc i pins s σ H E I hf st hg
    subst hP hw hK
    obtain ⟨hz, hTI, ⟨x0, y0, hTO⟩, h1, h2⟩ := st
    obtain ⟨xs, ys, hqx, hqy, hend⟩ := hg
    obtain ⟨St1, D1, s1, back1⟩ := SK.draws hc I hqx h1
    obtain ⟨St2, D2, s2, back2⟩ := SK.draws hc I hqy h2
    exact wpAny_pyNext_zipD2_end S D1 D2 hz hTI hTO s1 s2 (by omega) (by omega) (by omega) fun h' tk hk => ⟨rfl, I.turnedL (t' := tk) (ch := [z, TI, TO, i1, i2]) (fun c o hb q =>
      hk c o (fun q' => hb (by simp [q'])) (fun q' => hb (by simp [q'])) (fun q' => hb (by simp [q'])) (fun q' => hb (by simp [q'])) q) hf⟩
  self := fun A i s Q E st h => wpAny_pyIter_zip st.1 h
def iZipS (K : PySem.W.Frag) (ta : TA) : TI := fun σ H R => ta σ H fun vs H1 => ∃ (k1 k2 : SK) (xs ys : List V), vs = [k1.v, k2.v] ∧ k1.ats K H1 xs ∧ k2.ats K H1 ys ∧ R (Iqz K k1 k2) H1
theorem pi_zipS {X : Cx} {e e2 : Expr} {ta : TA} {p pos tpos : Pos} {elts : List Expr} {kk : Nat} (hg : Gl X "zip") (hm : X.mg "zip" = none) (ha : PA X [e, e2] ta)
    (hs : starEach [e, e2] X.env = (false, eval e X.env) :: starEach [e2] X.env := by rfl) (hpl : (backTo pos (starEach [e2] X.env)).any (·.1) = false := by rfl) :
    PI X (.Tuple elts kk tpos) (.Call (.Name "zip" p) [e, e2] [] pos) (iZipS X.K ta) := by
  refine ⟨fun pins s σ H R I h => ?_⟩
  refine Call_ (ld_blt I hg hm PyProof.Rows.boot_zip (PyProof.Rows.callWith_type1 (thn (ha.run pos pins s σ H _ I h) fun us s1 ⟨vs, H1, I1, r1, q1⟩ => ?_) hs hpl))
  obtain ⟨k1, k2, xs, ys, ex, hqx, hqy, q⟩ := q1
  subst ex
  cases r1 with
  | cons r rr =>
    cases rr with
    | cons r' rr =>
      cases rr
      obtain ⟨o1, Hh1, B1, hh1, hfp1, hst1⟩ := SK.begins I1 hqx r
      obtain ⟨o2, Hh2, B2, hh2, hfp2, hst2⟩ := SK.begins I1 hqy r'
      refine zip_begins2 B1 B2 hh1 hh2 fun h' hz hTI hTO h1 h2 hsz hk => wpAny_pyIter_zip hz ?_
      have I2 : Inv X pins σ H1 { s1 with heap := h' } := I1.kept (t' := s1.toks) hk
      refine ⟨s1.heap.objs.size + 4, [s1.heap.objs.size + 4, s1.heap.objs.size + 2, s1.heap.objs.size + 3, s1.heap.objs.size, s1.heap.objs.size + 1], _, _, H1, rfl, I2, turn_zipS (zip_sep2 hfp1 hfp2), ⟨hz, hTI, ⟨_, _, hTO⟩, hst1 _ _ (Nat.le_refl _) h1, hst2 _ _ (Nat.le_succ _) h2⟩, fun c hcm => ?_, q⟩
      have e' : c = s1.heap.objs.size + 4 ∨ c = s1.heap.objs.size + 2 ∨ c = s1.heap.objs.size + 3 ∨ c = s1.heap.objs.size ∨ c = s1.heap.objs.size + 1 := by simpa using hcm
      have hle : s1.heap.objs.size ≤ c := by
        rcases e' with z | z | z | z | z
        · rw [z]; exact Nat.le_add_right _ _
        · rw [z]; exact Nat.le_add_right _ _
        · rw [z]; exact Nat.le_add_right _ _
        · rw [z]; exact Nat.le_refl _
        · rw [z]; exact Nat.le_add_right _ _
      exact I1.fpOk hle (I1.hok.fresh hle)
end TW
namespace TW
open PySem L2
/-! ### enumerate and zip, typed -/
def Src (K : PySem.W.Frag) {α : Type} (r : Rep α) (P : TV) (xs : List α) : Prop := ∀ G v, P.ok G v → ∃ k vs, v = SK.v k ∧ k.ats K G vs ∧ All2 r G vs xs ∧ xs.length ≤ sizeLine
theorem ats_mono {K : PySem.W.Frag} {G G' : Hp} (e : Ex G G') {k : SK} {vs : List V} (h : k.ats K G vs) : k.ats K G' vs := by
  cases k with
  | l a => exact ex_l e h
  | t a => exact ex_t e h
  | s x => exact h
section
variable {K : PySem.W.Frag} {α β : Type} {r : Rep α} {r' : Rep β} {Γ : TEnv} {c c1 c2 : Cells} {ta tb : TE}
theorem src_lst {xs : List α} : Src K r (tv (rLst r) xs) xs := fun G v ⟨a, vs, h1, h2, h3, h4⟩ => ⟨.l a, vs, h1, .inl (.inl h2), h3, h4⟩
theorem src_lstS {xs : List α} : Src K r (tv (rLstS K r) xs) xs := fun G v ⟨a, vs, h1, h2, h3, h4⟩ => ⟨.l a, vs, h1, h2, h3, h4⟩
theorem src_tup {xs : List α} : Src K r (tv (rTup K r) xs) xs := fun G v ⟨a, vs, h1, h2, h3, h4⟩ => ⟨.t a, vs, h1, h2, h3, h4⟩
theorem src_str {x : List Nat} : Src K rStr (tv rStr x) (x.map fun k => [k]) := fun G v ⟨h1, h2⟩ => by
  refine ⟨.s (sOf x), x.map fun k => V.str (sOf [k]), h1, ?_, ?_, by rw [List.length_map]; exact h2.1⟩
  · show _ = _
    rw [sOf_cps] <;> rfl
  · have aux : ∀ y : List Nat, y.all (· < 128) = true → All2 rStr G (y.map fun k => V.str (sOf [k])) (y.map fun k => [k]) := by
      intro y
      induction y with
      | nil => intro _; trivial
      | cons k y ih =>
        intro hy
        rw [List.all_cons, Bool.and_eq_true] at hy
        exact ⟨⟨rfl, by show 1 ≤ sizeLine; decide, by rw [List.all_cons, hy.1]; rfl⟩, ih hy.2⟩
    exact aux x h2.2
def enL (xs : List α) : List (Int × α) := xs.zipIdx.map fun p => ((p.2 : Int), p.1)
theorem enL_get (xs : List α) (i : Nat) : (enL xs)[i]? = xs[i]?.map fun x => ((i : Int), x) := by
  unfold enL
  rw [List.getElem?_map, List.getElem?_zipIdx]
  cases xs[i]? <;> simp
theorem enL_len (xs : List α) : (enL xs).length = xs.length := by simp [enL]
theorem ei_enum {P : TV} {xs : List α} (h : Ev ta Γ c c1 P) (hs : Src K r P xs) : EvI (iEnumS K (tCons ta tNil)) Γ c c1 ((enL xs).map (tv (rPair K rInt r))) := fun σ G H e hd R q =>
  ea_one h σ G H e hd _ fun us G1 H1 a1 k1 => by
    obtain ⟨v, e1, p⟩ := vs1 k1
    obtain ⟨k, vs, ev, ha, h2, hz⟩ := hs _ _ p
    subst e1 ev
    refine ⟨k, vs, rfl, ats_mono a1.hld.ex ha, q _ G1 H1 a1 ⟨by rw [List.length_map, enL_len]; exact hz, fun G2 H2 e1 e2 => ⟨fun i P hP => ?_, vs, ats_mono (e1.trans e2) ha, by rw [h2.len, List.length_map, enL_len]⟩⟩⟩
    rw [List.getElem?_map, enL_get] at hP
    cases hx : xs[i]? with
    | none => rw [hx] at hP; cases hP
    | some x =>
      rw [hx] at hP
      cases hP
      obtain ⟨y, hy, ry⟩ := h2.get hx
      refine ⟨⟨vs, y, ats_mono (e1.trans e2) ha, hy⟩, fun z H' ⟨T, w, ez, hT, eH, hw⟩ => ⟨upd G2 T (.tup [.int (i : Nat), w]), .inr ⟨T, _, hT, rfl, eH⟩, ?_⟩⟩
      have : w = y := Option.some.inj ((hw vs (ats_mono (e1.trans e2) ha)).symm.trans hy)
      subst this
      have gn : G2 T = none := by
        cases g : G2 T with
        | none => rfl
        | some o => rw [e2 T o g] at hT; cases hT
      exact ⟨T, _, _, ez, .inl (.inl upd_same), rfl, r.mono (e1.trans (Ex.put gn)) ry⟩
theorem ei_zip {P P' : TV} {xs : List α} {ys : List β} (h : Ev ta Γ c c1 P) (h' : Ev tb Γ c1 c2 P') (hs : Src K r P xs) (hs' : Src K r' P' ys) : EvI (iZipS K (tCons ta (tCons tb tNil))) Γ c c2 ((xs.zip ys).map (tv (rPair K r r'))) := fun σ G H e hd R q =>
  ea_two h h' σ G H e hd _ fun us G1 H1 a1 k1 => by
    obtain ⟨v, w, e1, p, p'⟩ := vs2 k1
    obtain ⟨k, vs, ev, ha, h2, hz⟩ := hs _ _ p
    obtain ⟨k', vs', ev', ha', h2', hz'⟩ := hs' _ _ p'
    subst e1 ev ev'
    refine ⟨k, k', vs, vs', rfl, ats_mono a1.hld.ex ha, ats_mono a1.hld.ex ha', q _ G1 H1 a1 ⟨by rw [List.length_map, List.length_zip]; omega, fun G2 H2 e1 e2 => ⟨fun i P hP => ?_, vs, vs', ats_mono (e1.trans e2) ha, ats_mono (e1.trans e2) ha', by rw [h2.len, h2'.len, List.length_map, List.length_zip]⟩⟩⟩
    rw [List.getElem?_map] at hP
    cases hz : (xs.zip ys)[i]? with
    | none => rw [hz] at hP; cases hP
    | some x =>
      rw [hz] at hP
      cases hP
      obtain ⟨hx, hy⟩ := List.getElem?_zip_eq_some.mp hz
      obtain ⟨y, hvy, ry⟩ := h2.get hx
      obtain ⟨y', hvy', ry'⟩ := h2'.get hy
      refine ⟨⟨vs, vs', y, y', ats_mono (e1.trans e2) ha, ats_mono (e1.trans e2) ha', hvy, hvy'⟩, fun z H' ⟨T, w, w', ez, hT, eH, hw, hw'⟩ => ⟨upd G2 T (.tup [w, w']), .inr ⟨T, _, hT, rfl, eH⟩, ?_⟩⟩
      have t1 : w = y := Option.some.inj ((hw vs (ats_mono (e1.trans e2) ha)).symm.trans hvy)
      have t2 : w' = y' := Option.some.inj ((hw' vs' (ats_mono (e1.trans e2) ha')).symm.trans hvy')
      subst t1 t2
      have gn : G2 T = none := by
        cases g : G2 T with
        | none => rfl
        | some o => rw [e2 T o g] at hT; cases hT
      exact ⟨T, _, _, ez, .inl (.inl upd_same), r.mono (e1.trans (Ex.put gn)) ry, r'.mono (e1.trans (Ex.put gn)) ry'⟩
/-! ### sorted(set(keys)) -/
open TW.SetN
theorem len_sub {α : Type} [DecidableEq α] : ∀ {l m : List α}, l.Nodup → (∀ x ∈ l, x ∈ m) → l.length ≤ m.length
  | [], m, _, _ => Nat.zero_le _
  | x :: l, m, nd, h => by
    obtain ⟨h1, h2⟩ := List.nodup_cons.mp nd
    have hx := h x List.mem_cons_self
    have hl := len_sub (l := l) (m := m.erase x) h2 fun y hy => (List.mem_erase_of_ne fun e => h1 (by rw [← e]; exact hy)).mpr (h y (List.mem_cons_of_mem _ hy))
    have := List.length_erase_of_mem hx
    have hp := List.length_pos_of_mem hx
    rw [List.length_cons]
    omega
def sortSetO (ks : List K2) : Option (List K2) := if ks.length < 64 then some (sortSet ks) else none
theorem keys_of {G : Hp} : ∀ {ks : List K2} {vs : List V}, All2 (rPair K rInt (rTup K rInt)) G vs ks → ∃ ps : List (Addr × K2), vs = ps.map (fun p => V.ref p.1) ∧ ps.map (·.2) = ks ∧ ∀ p ∈ ps, KAt K G p.1 p.2
  | [], [], _ => ⟨[], rfl, rfl, fun p h => (by cases h)⟩
  | k :: ks, v :: vs, ⟨⟨a, u, w, h1, h2, h3, h4⟩, h⟩ => by
    obtain ⟨ps, e1, e2, h5⟩ := keys_of (ks := ks) (vs := vs) h
    obtain ⟨b, us, g1, g2, g3, g4⟩ := h4
    have h3 : u = .int k.1 := h3
    subst h1 h3 g1
    refine ⟨(a, k) :: ps, by rw [List.map_cons, e1], by rw [List.map_cons, e2], fun p hp => ?_⟩
    rcases List.mem_cons.mp hp with z | z
    · rw [z]
      have g5 := All2.map (f := V.int) (fun _ _ _ z => z) g3
      rw [g5] at g2
      exact ⟨b, h2, g2⟩
    · exact h5 p z
  | [], _ :: _, h => h.elim
  | _ :: _, [], h => h.elim
theorem keys_to {G : Hp} (ps : List (Addr × K2)) (h : ∀ p ∈ ps, KAt K G p.1 p.2 ∧ p.2.2.length ≤ sizeLine) : All2 (rPair K rInt (rTup K rInt)) G (ps.map fun p => V.ref p.1) (ps.map (·.2)) := by
  induction ps with
  | nil => trivial
  | cons p ps ih =>
    obtain ⟨⟨u, h1, h2⟩, h3⟩ := h p List.mem_cons_self
    exact ⟨⟨p.1, _, _, rfl, h1, rfl, ⟨u, _, rfl, h2, All2.of_map (f := V.int) (fun _ _ => rfl) _, h3⟩⟩, ih fun q hq => h q (List.mem_cons_of_mem _ hq)⟩
theorem keys_len {G : Hp} : ∀ {ks : List K2} {vs : List V}, All2 (rPair K rInt (rTup K rInt)) G vs ks → ∀ k ∈ ks, k.2.length ≤ sizeLine
  | [], [], _, k, h => by cases h
  | k :: ks, v :: vs, ⟨⟨a, u, w, h1, h2, h3, b, us, g1, g2, g3, g4⟩, h⟩, k', hk => by
    rcases List.mem_cons.mp hk with z | z
    · rw [z]; exact g4
    · exact keys_len (ks := ks) (vs := vs) h k' z
  | [], _ :: _, h, _, _ => h.elim
  | _ :: _, [], h, _, _ => h.elim
theorem kAt_mono {G G' : Hp} (e : Ex G G') {t : Addr} {k : K2} (h : KAt K G t k) : KAt K G' t k := let ⟨u, h1, h2⟩ := h; ⟨u, ex_t e h1, ex_t e h2⟩
theorem en_sortedSet {w : World} {ks zs : List K2} (h : Ev ta Γ c c1 (tv (rLst (rPair K rInt (rTup K rInt))) ks)) (hm : sortSetO ks = some zs) :
    EvN (tCB (rSortedN K w) (tCons (tCB (rSetN K w) (tCons ta tNil)) tNil)) Γ c c1 (tcL (rPair K rInt (rTup K rInt)) zs) := fun σ G H e hd Q q => by
  unfold sortSetO at hm
  split at hm
  · rename_i hlen
    cases hm
    show tCB (rSetN K w) (tCons ta tNil) σ H _
    refine ea_one h σ G H e hd _ fun us G1 H1 a1 k1 => ?_
    obtain ⟨v, e1, l, vs, ev, hG, h2, hz⟩ := vs1 k1
    subst e1 ev
    obtain ⟨ps, e2, e3, hk⟩ := keys_of h2
    have hl : ps.length = ks.length := by rw [← e3, List.length_map]
    have hsz := keys_len h2
    subst e2
    refine ⟨l, ps, rfl, .inl (.inl (a1.hld.ex _ _ hG)), fun p hp => kAt_mono a1.hld.ex (hk p hp), by rw [hl]; exact hlen, fun a L hn hL1 hL2 nd => ?_⟩
    show ∃ _ _, _
    refine ⟨a, L, rfl, upd_same, fun p hp => kAt_mono (a1.hld.ex.trans (Ex.put hn)) (hk p (hL1 p hp)), fun L' p hpm hs hp => ?_⟩
    have a2 := Aft.frz (.ext fun h => SetN0 w h a (L.map fk)) a1.hld hn
    have hs' : L'.map (·.2) = sortSet ks := by
      rw [hs]
      refine sortSet_one (fun k => ?_) nd
      rw [← e3]
      constructor
      · intro hk
        obtain ⟨p, hp, ep⟩ := List.mem_map.mp hk
        exact List.mem_map.mpr ⟨p, hL1 p hp, ep⟩
      · intro hk
        obtain ⟨p, hp, ep⟩ := List.mem_map.mp hk
        rw [← ep]
        exact hL2 p hp
    have hmem : ∀ q ∈ L', KAt K (upd G1 a (SetNO w a (L.map fk))) q.1 q.2 ∧ q.2.2.length ≤ sizeLine := fun q hq => by
      have hq2 := hL1 q (hpm.mem_iff.mp hq)
      refine ⟨kAt_mono (Ex.put (a1.hld.free hn)) (hk q hq2), hsz _ ?_⟩
      rw [← e3]
      exact List.mem_map.mpr ⟨q, hq2, rfl⟩
    have hlen' : (sortSet ks).length ≤ sizeLine := by
      rw [← hs', List.length_map, hpm.length_eq]
      have : L.length ≤ ps.length := by
        have := len_sub nd (m := ps.map (·.2)) fun k hk => by
          obtain ⟨p, hp, ep⟩ := List.mem_map.mp hk
          exact List.mem_map.mpr ⟨p, hL1 p hp, ep⟩
        simpa using this
      have h64 : (64 : Nat) ≤ sizeLine := by decide
      omega
    have a3 := Aft.newN (t := tcL (rPair K rInt (rTup K rInt)) (sortSet ks)) (o := .lst (L'.map fun q => V.ref q.1)) a2.hld hp ⟨_, rfl, by rw [← hs']; exact keys_to L' hmem, hlen'⟩
    exact q _ _ _ _ _ ⟨p, rfl, rfl⟩ ((a1.trans a2).trans a3) rfl
  · cases hm
end
end TW
namespace TW
open PySem L2
theorem bindS {α β : Type} {o : Option α} {f : α → Option β} {y : β} (h : o.bind f = some y) : ∃ v, o = some v ∧ f v = some y := by
  cases o with
  | none => cases h
  | some v => exact ⟨v, rfl, h⟩
section
variable {Γ Γ' Γ'' : TEnv} {c c1 c2 c3 : Cells} {P P' P2 R : TV} {ta tb td te tk tw : TE} {t u w : TS} {tt : TT} {K : PySem.W.Frag} {α β γ : Type} {rα : Rep α} {rβ : Rep β} {D : Ends} {B : Bs}
/-! ### numbers -/
def fdivO (i j : Int) : Option Int := if 0 < j ∧ j < 1073741824 then some (i / j) else none
def modO (i j : Int) : Option Int := if 0 < j then some (i % j) else none
def mulO (i j : Int) : Option Int := if i.natAbs < 18446744073709551616 ∨ j.natAbs < 18446744073709551616 then some (i * j) else none
def powO (i j : Int) : Option Int := if 0 ≤ j ∧ j ≤ 1000000 ∧ i.natAbs < 18446744073709551616 then some (i ^ j.toNat) else none
theorem ev_fdiv {i j z : Int} (ha : Ev ta Γ c c1 (tv rInt i)) (hb : Ev tb Γ c1 c2 (tv rInt j)) (h : fdivO i j = some z) : Ev (tOp (rI CDiv fun i j => .int (i / j)) ta tb) Γ c c2 (tv rInt z) := by
  unfold fdivO at h
  split at h
  · cases h
    exact ev_op ha hb (rv_I (C := CDiv) (g := fun i j => i / j) (by assumption))
  · cases h
theorem ev_mod {i j z : Int} (ha : Ev ta Γ c c1 (tv rInt i)) (hb : Ev tb Γ c1 c2 (tv rInt j)) (h : modO i j = some z) : Ev (tOp (rI (fun _ j => 0 < j) fun i j => .int (i % j)) ta tb) Γ c c2 (tv rInt z) := by
  unfold modO at h
  split at h
  · cases h
    exact ev_op ha hb (rv_I (C := fun _ j => 0 < j) (g := fun i j => i % j) (by assumption))
  · cases h
theorem ev_mul {i j z : Int} (ha : Ev ta Γ c c1 (tv rInt i)) (hb : Ev tb Γ c1 c2 (tv rInt j)) (h : mulO i j = some z) : Ev (tOp (rI CMul fun i j => .int (i * j)) ta tb) Γ c c2 (tv rInt z) := by
  unfold mulO at h
  split at h
  · rename_i hh
    cases h
    refine ev_op ha hb (rv_I (C := CMul) (g := fun i j => i * j) ?_)
    rcases hh with hh | hh
    · left; constructor <;> omega
    · right; constructor <;> omega
  · cases h
theorem ev_pow {i j z : Int} (ha : Ev ta Γ c c1 (tv rInt i)) (hb : Ev tb Γ c1 c2 (tv rInt j)) (h : powO i j = some z) : Ev (tOp (rI CPow fun i j => .int (i ^ j.toNat)) ta tb) Γ c c2 (tv rInt z) := by
  unfold powO at h
  split at h
  · rename_i hh
    cases h
    exact ev_op ha hb (rv_I (C := CPow) (g := fun i j => i ^ j.toNat) ⟨hh.1, hh.2.1, by have := hh.2.2; omega⟩)
  · cases h
theorem ev_add {i j : Int} (ha : Ev ta Γ c c1 (tv rInt i)) (hb : Ev tb Γ c1 c2 (tv rInt j)) : Ev (tOp (rI0 fun i j => .int (i + j)) ta tb) Γ c c2 (tv rInt (i + j)) := ev_op ha hb (rv_I0 (g := fun i j => i + j))
theorem ev_sub {i j : Int} (ha : Ev ta Γ c c1 (tv rInt i)) (hb : Ev tb Γ c1 c2 (tv rInt j)) : Ev (tOp (rI0 fun i j => .int (i - j)) ta tb) Γ c c2 (tv rInt (i - j)) := ev_op ha hb (rv_I0 (g := fun i j => i - j))
theorem ev_lt {i j : Int} (ha : Ev ta Γ c c1 (tv rInt i)) (hb : Ev tb Γ c1 c2 (tv rInt j)) : Ev (tOp (rI0 fun i j => .bl (decide (i < j))) ta tb) Γ c c2 (tv rBl (decide (i < j))) := ev_op ha hb (rv_B0 (g := fun i j => decide (i < j)))
theorem ev_le {i j : Int} (ha : Ev ta Γ c c1 (tv rInt i)) (hb : Ev tb Γ c1 c2 (tv rInt j)) : Ev (tOp (rI0 fun i j => .bl (decide (i ≤ j))) ta tb) Γ c c2 (tv rBl (decide (i ≤ j))) := ev_op ha hb (rv_B0 (g := fun i j => decide (i ≤ j)))
theorem ev_gt {i j : Int} (ha : Ev ta Γ c c1 (tv rInt i)) (hb : Ev tb Γ c1 c2 (tv rInt j)) : Ev (tOp (rI0 fun i j => .bl (decide (j < i))) ta tb) Γ c c2 (tv rBl (decide (j < i))) := ev_op ha hb (rv_B0 (g := fun i j => decide (j < i)))
theorem ev_ge {i j : Int} (ha : Ev ta Γ c c1 (tv rInt i)) (hb : Ev tb Γ c1 c2 (tv rInt j)) : Ev (tOp (rI0 fun i j => .bl (decide (j ≤ i))) ta tb) Γ c c2 (tv rBl (decide (j ≤ i))) := ev_op ha hb (rv_B0 (g := fun i j => decide (j ≤ i)))
theorem ev_neg {i : Int} (ha : Ev ta Γ c c1 (tv rInt i)) : Ev (tUn (rU fun i => .int (-i)) ta) Γ c c1 (tv rInt (-i)) := ev_un ha ru_neg
theorem ev_eqI {i j : Int} (ha : Ev ta Γ c c1 (tv rInt i)) (hb : Ev tb Γ c1 c2 (tv rInt j)) : Ev (tOp rEq ta tb) Γ c c2 (tv rBl (decide (i = j))) := ev_op ha hb rv_eqI
theorem ev_neI {i j : Int} (ha : Ev ta Γ c c1 (tv rInt i)) (hb : Ev tb Γ c1 c2 (tv rInt j)) : Ev (tOp rNe ta tb) Γ c c2 (tv rBl (!decide (i = j))) := ev_op ha hb rv_neI
theorem ev_eqB {i j : Bool} (ha : Ev ta Γ c c1 (tv rBl i)) (hb : Ev tb Γ c1 c2 (tv rBl j)) : Ev (tOp rEq ta tb) Γ c c2 (tv rBl (decide (i = j))) := ev_op ha hb rv_eqB
theorem ev_neB {i j : Bool} (ha : Ev ta Γ c c1 (tv rBl i)) (hb : Ev tb Γ c1 c2 (tv rBl j)) : Ev (tOp rNe ta tb) Γ c c2 (tv rBl (!decide (i = j))) := ev_op ha hb rv_neB
theorem ev_eqS {i j : List Nat} (ha : Ev ta Γ c c1 (tv rStr i)) (hb : Ev tb Γ c1 c2 (tv rStr j)) : Ev (tOp rEq ta tb) Γ c c2 (tv rBl (decide (i = j))) := ev_op ha hb rv_eqS
theorem ev_neS {i j : List Nat} (ha : Ev ta Γ c c1 (tv rStr i)) (hb : Ev tb Γ c1 c2 (tv rStr j)) : Ev (tOp rNe ta tb) Γ c c2 (tv rBl (!decide (i = j))) := ev_op ha hb rv_neS
theorem ev_isN {x : Option α} (hn : ∀ G v y, rα.rp G v y → v ≠ .non) (ha : Ev ta Γ c c1 (tv (rOpt rα) x)) : Ev (tOp (fun x y H Q => y = .non ∧ Q (.bl (decide (x = .non))) H) ta (tC .non)) Γ c c1 (tv rBl x.isNone) := ev_op ha ev_non (rv_isN hn)
theorem ev_notN {x : Option α} (hn : ∀ G v y, rα.rp G v y → v ≠ .non) (ha : Ev ta Γ c c1 (tv (rOpt rα) x)) : Ev (tOp (fun x y H Q => y = .non ∧ Q (.bl (!decide (x = .non))) H) ta (tC .non)) Γ c c1 (tv rBl x.isSome) := ev_op ha ev_non (rv_notN hn)
theorem ev_catS {x y z : List Nat} (ha : Ev ta Γ c c1 (tv rStr x)) (hb : Ev tb Γ c1 c2 (tv rStr y)) (h : catO x y = some z) : Ev (tOp (fun x y H Q => ∃ i j, x = .str i ∧ y = .str j ∧ i.length + j.length ≤ sizeLine ∧ Q (.str (i ++ j)) H) ta tb) Γ c c2 (tv rStr z) := ev_op ha hb (rv_catS h)
/-! ### the law's script with its three numbers -/
def tcRec (S : TV) (i j k : Int) : TC := ⟨fun G o => ∃ v, o = .lst [v, .int i, .int j, .int k] ∧ S.ok G v, fun e ⟨v, h1, h2⟩ => ⟨v, h1, S.mono e h2⟩⟩
theorem en_rec {S : TV} {t0 t1 t2 t3 : TE} {i j k : Int} (h0 : Ev t0 Γ c c1 S) (h1 : Ev t1 Γ c1 c1 (tv rInt i)) (h2 : Ev t2 Γ c1 c1 (tv rInt j)) (h3 : Ev t3 Γ c1 c1 (tv rInt k)) : EvN (tLst (tCons t0 (tCons t1 (tCons t2 (tCons t3 tNil))))) Γ c c1 (tcRec S i j k) := fun σ G H e hd Q q =>
  (ea_cons h0 (ea_cons h1 (ea_cons h2 (ea_cons h3 ea_nil)))) σ G H e hd _ fun vs G1 H1 a1 k1 => match vs, k1 with
    | [v0, v1, v2, v3], ⟨k0, k2, k3, k4, _⟩ => ⟨by show 4 ≤ sizeLine; decide, fun p hp => by
      have e1 : v1 = .int i := k2
      have e2 : v2 = .int j := k3
      have e3 : v3 = .int k := k4
      subst e1 e2 e3
      have a2 := Aft.newN (t := tcRec S i j k) (o := .lst [v0, .int i, .int j, .int k]) a1.hld hp ⟨v0, rfl, k0⟩
      exact q _ _ _ _ _ ⟨p, rfl, rfl⟩ (a1.trans a2) rfl⟩
theorem ev_rec {S : TV} {l : Addr} {i j k n : Int} (m : Nat) (ha : Ev ta Γ c c1 (tv rAddr l)) (hl : (l, tcRec S i j k) ∈ c1) (hm : [i, j, k][m]? = some n) : Ev (tOp (rIxL K) ta (tC (.int ((m : Int) + 1)))) Γ c c1 (tv rInt n) :=
  ev_op ha ev_int fun G H v w hd h1 h2 Q q => by
    have h1 : v = .ref l := h1
    have h2 : w = .int ((m : Int) + 1) := h2
    subst h1 h2
    obtain ⟨_, o, ho, u, rfl, h3⟩ := hd.own _ hl
    refine ⟨l, _, _, .int n, rfl, rfl, .inl (.inl ho), ?_, q _ G H (.refl hd) rfl⟩
    match m, hm with
    | 0, hm => cases hm; rfl
    | 1, hm => cases hm; rfl
    | 2, hm => cases hm; rfl
theorem ev_rec0 {S : TV} {l : Addr} {i j k : Int} (ha : Ev ta Γ c c1 (tv rAddr l)) (hl : (l, tcRec S i j k) ∈ c1) : Ev (tOp (rIxL K) ta (tC (.int 0))) Γ c c1 S :=
  ev_op ha ev_int fun G H v w hd h1 h2 Q q => by
    have h1 : v = .ref l := h1
    have h2 : w = .int 0 := h2
    subst h1 h2
    obtain ⟨_, o, ho, u, rfl, h3⟩ := hd.own _ hl
    exact ⟨l, _, _, u, rfl, rfl, .inl (.inl ho), rfl, q _ G H (.refl hd) h3⟩
/-- state[m + 1] = e -/
theorem sv_rec {S : TV} {l : Addr} {n : Nat} {i j k x i' j' k' : Int} (m : Nat) (hv : Ev te Γ c c1 (tv rInt x)) (ho : Ev ta Γ c1 c2 (tv rAddr l)) (hn : c2[n]? = some (l, tcRec S i j k)) (hm : m < 3) (e1 : [i, j, k].set m x = [i', j', k'])
    (kk : Im B Γ (c2.set n (l, tcRec S i' j' k')) D.nx) : Sv (tAsg te (gSub ta (tC (.int ((m : Int) + 1))) rSetL)) D B Γ c := fun σ H ⟨G, a, e⟩ =>
  hv σ G H e a.hld _ fun v G1 H1 a1 k1 => ho σ G1 H1 (e.mono a1.gg) a1.hld _ fun o G2 H2 a2 k2 => by
    have k2 : o = .ref l := k2
    have k1 : v = .int x := k1
    subst k1 k2
    obtain ⟨_, ob, hob, u, rfl, h3⟩ := a2.hld.cell hn
    have a3 := Aft.wrN (t' := tcRec S i' j' k') (o := .lst [u, .int i', .int j', .int k']) hn a2.hld ⟨u, rfl, h3⟩
    have fin := kk σ _ ⟨_, (a.trans (a1.trans a2)).trans a3, e.mono ((a1.gg.trans a2.gg).trans a3.gg)⟩
    have e2 : ([u, V.int i, .int j, .int k].set (m + 1) (.int x)) = [u, .int i', .int j', .int k'] := by
      rcases m with _ | _ | _ | m
      · cases e1; rfl
      · cases e1; rfl
      · cases e1; rfl
      · omega
    refine ⟨l, _, _, m + 1, rfl, rfl, hob, ?_, ?_⟩
    · rcases m with _ | _ | _ | m
      · rfl
      · rfl
      · rfl
      · omega
    · rw [e2]; exact fin
/-- state[m + 1] += e -/
def getL : V → V → Hp → VK → Prop := fun o i H Q => ∃ p xs k v, o = .ref p ∧ i = .int k ∧ H p = some (.lst xs) ∧ atI xs k = some v ∧ Q v H
theorem sv_recA {S : TV} {K : PySem.W.Frag} {l : Addr} {n : Nat} {i j k x y i' j' k' : Int} (m : Nat) (ho : Ev ta Γ c c (tv rAddr l)) (hn : c[n]? = some (l, tcRec S i j k)) (hx : [i, j, k][m]? = some y) (hv : Ev te Γ c c (tv rInt x)) (hm : m < 3) (e1 : [i, j, k].set m (y + x) = [i', j', k'])
    (kk : Im B Γ (c.set n (l, tcRec S i' j' k')) D.nx) : Sv (tAugS ta (tC (.int ((m : Int) + 1))) te (rIxL K) (ipI fun i j => i + j) rSetL) D B Γ c := fun σ H ⟨G, a, e⟩ =>
  ho σ G H e a.hld _ fun o G1 H1 a1 k1 => by
    have k1 : o = .ref l := k1
    subst k1
    show rIxL K (.ref l) (.int ((m : Int) + 1)) H1 (fun x H3 => te σ H3 fun y H4 => ipI (fun i j => i + j) x y H4 fun z H5 => rSetL (.ref l) (.int ((m : Int) + 1)) z H5 fun H6 => D.nx σ H6)
    obtain ⟨_, ob, hob, u, rfl, h3⟩ := a1.hld.cell hn
    refine ⟨l, _, _, .int y, rfl, rfl, .inl (.inl hob), ?_, hv σ G1 H1 (e.mono a1.gg) a1.hld _ fun v G2 H2 a2 k2 => ?_⟩
    · rcases m with _ | _ | _ | m
      · cases hx; rfl
      · cases hx; rfl
      · cases hx; rfl
      · omega
    have k2 : v = .int x := k2
    subst k2
    refine ⟨y, x, rfl, rfl, ?_⟩
    obtain ⟨_, ob, hob, u, rfl, h3⟩ := a2.hld.cell hn
    have a3 := Aft.wrN (t' := tcRec S i' j' k') (o := .lst [u, .int i', .int j', .int k']) hn a2.hld ⟨u, rfl, h3⟩
    have fin := kk σ _ ⟨_, (a.trans (a1.trans a2)).trans a3, e.mono ((a1.gg.trans a2.gg).trans a3.gg)⟩
    have e2 : ([u, V.int i, .int j, .int k].set (m + 1) (.int (y + x))) = [u, .int i', .int j', .int k'] := by
      rcases m with _ | _ | _ | m
      · cases e1; rfl
      · cases e1; rfl
      · cases e1; rfl
      · omega
    refine ⟨l, _, _, m + 1, rfl, rfl, hob, ?_, ?_⟩
    · rcases m with _ | _ | _ | m
      · rfl
      · rfl
      · rfl
      · omega
    · rw [e2]; exact fin
/-! ### lending -/
theorem et_lend {i n : Nat} {l : Addr} {xs : List α} {b : Bool} (hi : Γ[i]? = some (some (tv rAddr l))) (hn : c[n]? = some (l, tcL rα xs)) (h : EvT tt (Γ.set i (some (tv (rLst rα) xs))) [] [] b) : EvT tt Γ c c b := fun σ G H e hd Q q => by
  obtain ⟨v, h1, h2⟩ := e.get hi
  have h2 : v = .ref l := h2
  subst h2
  obtain ⟨o, G2, g, ⟨vs, k1, k2, k3⟩, h4, a2⟩ := Aft.frzN hn hd
  have e2 := (e.mono a2.gg).set (P := tv (rLst rα) xs) (v := .ref l) ⟨l, vs, rfl, by rw [g, upd_same, k1], k2.mono a2.gg, k3⟩ i
  have e3 : σ.set i (some (.ref l)) = σ := by
    obtain ⟨hi', e4⟩ := List.getElem?_eq_some_iff.mp h1
    rw [← e4]; exact List.set_getElem_self hi'
  rw [e3] at e2
  have hd2 : Hld G2 [] H := ⟨a2.hld.ex, List.nodup_nil, fun p hp => by cases hp⟩
  refine h σ G2 H e2 hd2 Q fun G3 H3 a3 => q G H3 ?_
  have kp : ∀ a o, H a = some o → H3 a = some o := fun a o ho => a3.keep a o ho (by simp)
  exact ⟨Ex.rfl G, fun a o ho _ => kp a o ho, fun a o ho _ g => g, fun a ha => .inl ha, fun a o ho => kp a o (hd.ex a o ho), hd.nd, fun p hp => by
    obtain ⟨g1, o1, g2, g3⟩ := hd.own p hp
    exact ⟨g1, o1, kp _ _ g2, g3⟩⟩
theorem ev_lendD {κ : Type} {kf : κ → Key} {i n : Nat} {l : Addr} {xs : List (κ × α)} {te : TE} (hs : P.Sc) (hi : Γ[i]? = some (some (tv rAddr l))) (hn : c[n]? = some (l, tcD kf rα xs)) (h : Ev te (Γ.set i (some (tv (rDic kf rα) xs))) [] [] P) : Ev te Γ c c P := fun σ G H e hd Q q => by
  obtain ⟨v, h1, h2⟩ := e.get hi
  have h2 : v = .ref l := h2
  subst h2
  obtain ⟨o, G2, g, ⟨vs, k1, k2, k3⟩, h4, a2⟩ := Aft.frzN hn hd
  have e2 := (e.mono a2.gg).set (P := tv (rDic kf rα) xs) (v := .ref l) ⟨l, vs, rfl, by rw [g, upd_same, k1], k2.mono a2.gg, k3⟩ i
  have e3 : σ.set i (some (.ref l)) = σ := by
    obtain ⟨hi', e4⟩ := List.getElem?_eq_some_iff.mp h1
    rw [← e4]; exact List.set_getElem_self hi'
  rw [e3] at e2
  have hd2 : Hld G2 [] H := ⟨a2.hld.ex, List.nodup_nil, fun p hp => by cases hp⟩
  refine h σ G2 H e2 hd2 Q fun v G3 H3 a3 k => q v G H3 ?_ (hs _ _ _ k)
  have kp : ∀ a o, H a = some o → H3 a = some o := fun a o ho => a3.keep a o ho (by simp)
  exact ⟨Ex.rfl G, fun a o ho _ => kp a o ho, fun a o ho _ g => g, fun a ha => .inl ha, fun a o ho => kp a o (hd.ex a o ho), hd.nd, fun p hp => by
    obtain ⟨g1, o1, g2, g3⟩ := hd.own p hp
    exact ⟨g1, o1, kp _ _ g2, g3⟩⟩
/-- a call that gives a new owned thing -/
theorem en_call {R : Hp → List V → Cells → (Cells → TV → Prop) → Prop} {Ps : List TV} {tl : TA} {t : TC} (ha : EvA tl Γ c c2 Ps) (hR : ∀ G vs, VsOk G Ps vs → R G vs [] (WN [] t)) : EvN (tCall (spOf R) [] E0 tl) Γ c c2 t := fun σ G H e hd Q q =>
  ha σ G H e hd _ fun vs G1 H1 a1 k1 => by
    rw [List.append_nil]
    refine ⟨G1, [], _, ⟨a1.hld.ex, List.nodup_nil, fun p hp => by cases hp⟩, hR G1 vs k1, fun c' P' v G' H' ⟨l, w1, w2⟩ a k => ?_⟩
    subst w1 w2
    have k : v = .ref l := k
    subst k
    have af := Aft.frame (c1 := []) (c2 := c2) a1.hld a
    refine q (c2 ++ [(l, t)]) (tv rAddr l) _ G' H' ⟨l, rfl, rfl⟩ ((a1.trans af).sub ?_ fun p hp => ?_) rfl
    · have nd := (a1.trans af).hld.nd
      have e2 : ads ([] ++ [(l, t)] ++ c2) = l :: ads c2 := by simp [ads]
      have e3 : ads (c2 ++ [(l, t)]) = ads c2 ++ [l] := by simp [ads]
      rw [e2] at nd
      rw [e3]
      exact (List.perm_append_comm (l₁ := [l]) (l₂ := ads c2)).nodup nd
    · rcases List.mem_append.mp hp with z | z
      · exact List.mem_append_right _ z
      · exact List.mem_append_left _ z
/-- a field's owned dict is frozen -/
theorem sv_frzF {N : L2.St → Hp → Prop} {κ : Type} {kf : κ → Key} {n j : Nat} {l p : Addr} {xs : List (κ × α)} {C : Addr} {Fl : List (Str × TV)} {f : Str} (hn : c[n]? = some (l, tcD kf rα xs)) (hj : c[j]? = some (p, tcIns C Fl)) (hf : fget Fl f = some (tv rAddr l)) (ne : n ≠ j)
    (hput : ∀ G fs, FsOk G fs Fl → ∀ v, fs.lookup f = some v → putF f v fs = fs) (k : Im B Γ ((c.set j (p, tcIns C (fput f (tv (rDic kf rα) xs) Fl))).eraseIdx n) N) : Im B Γ c N := fun σ H ⟨G, a, e⟩ => by
  obtain ⟨g, ob, hob, dx, fs, rfl, h3⟩ := a.hld.cell hj
  have hn' : (c.set j (p, tcIns C Fl))[n]? = some (l, tcD kf rα xs) := by rw [List.getElem?_set_ne (Ne.symm ne)]; exact hn
  obtain ⟨o, G2, g2, ⟨vs, k1, k2, k3⟩, h4, a2⟩ := Aft.frzN hn a.hld
  obtain ⟨v, hv, pv⟩ := h3.get.1 _ hf
  have pv : v = .ref l := pv
  subst pv
  have h5 : FsOk G2 (putF f (.ref l) fs) (fput f (tv (rDic kf rα) xs) Fl) := (h3.mono a2.gg).put (P := tv (rDic kf rα) xs) (v := .ref l) ⟨l, vs, rfl, by rw [g2, upd_same, k1], k2.mono a2.gg, k3⟩
  rw [hput G fs h3 _ hv] at h5
  have hld : Hld G2 ((c.set j (p, tcIns C (fput f (tv (rDic kf rα) xs) Fl))).eraseIdx n) H := by
    have ea : ads ((c.set j (p, tcIns C (fput f (tv (rDic kf rα) xs) Fl))).eraseIdx n) = ads (c.eraseIdx n) := by
      apply List.ext_getElem?
      intro i
      have hcj : (ads c)[j]? = some p := by rw [List.getElem?_map, hj]; rfl
      simp only [ads, List.getElem?_map, List.getElem?_eraseIdx]
      split
      · rw [List.getElem?_set]
        split
        · rename_i e1; subst e1; rw [hj]; split <;> simp_all
        · rfl
      · rw [List.getElem?_set]
        split
        · rename_i e1; rw [← e1, hj]; split <;> simp_all
        · rfl
    refine ⟨a2.hld.ex, by rw [ea]; exact a2.hld.nd, fun q hq => ?_⟩
    rw [List.mem_eraseIdx_iff_getElem?] at hq
    obtain ⟨i, hi, hq⟩ := hq
    rw [List.getElem?_set] at hq
    split at hq
    · rename_i e1
      subst e1
      split at hq
      · cases hq
        have gp : G2 p = none := (a2.hld.own (p, tcIns C Fl) (List.mem_eraseIdx_iff_getElem?.mpr ⟨j, hi, hj⟩)).1
        exact ⟨gp, _, hob, dx, fs, rfl, h5⟩
      · cases hq
    · exact a2.hld.own q (List.mem_eraseIdx_iff_getElem?.mpr ⟨i, hi, hq⟩)
  have a3 : Aft G c H G2 ((c.set j (p, tcIns C (fput f (tv (rDic kf rα) xs) Fl))).eraseIdx n) H := ⟨a2.gg, a2.keep, a2.nost, fun b hb => .inl (by
    obtain ⟨t, ht⟩ := of_ads hb
    have ht := List.mem_of_mem_eraseIdx ht
    rcases List.mem_or_eq_of_mem_set ht with z | z
    · exact mem_ads z
    · cases z; exact mem_ads (List.mem_of_getElem? hj)), hld⟩
  exact k σ H ⟨G2, a.trans a3, e.mono a2.gg⟩
end
end TW
namespace TW
open PySem L2
theorem putF_same {f : Str} {v : V} : ∀ {fs : List (Str × V)}, fs.lookup f = some v → putF f v fs = fs
  | [], h => by cases h
  | (g, x) :: fs, h => by
    unfold putF
    by_cases e : g = f
    · subst e
      rw [List.lookup_cons_self] at h
      cases h
      rw [if_pos rfl]
    · rw [if_neg e]
      have e2 : (f == g) = false := beq_false_of_ne (Ne.symm e)
      rw [List.lookup_cons, e2] at h
      rw [putF_same h]
section
variable {Γ Γ' Γ'' : TEnv} {c c1 c2 c3 : Cells} {P P' P2 R : TV} {ta tb td te tk tw : TE} {t u w : TS} {tt : TT} {K : PySem.W.Frag} {α β γ : Type} {rα : Rep α} {rβ : Rep β} {rγ : Rep γ} {D : Ends} {B : Bs}
/-! ### isinstance -/
def TyR (K : PySem.W.Frag) (r : Rep α) (n : String) : Prop := ∀ G H v x, r.rp G v x → Ex G H → TyX K H v (.type n)
theorem ty_int : TyR K rInt "int" := fun G H v x h _ => by
  have h : v = .int x := h
  subst h; exact .base (.int x)
theorem ty_bl : TyR K rBl "bool" := fun G H v x h _ => by
  have h : v = .bl x := h
  subst h; exact .base (.bl x)
theorem ty_str : TyR K rStr "str" := fun G H v x ⟨h, _⟩ _ => by subst h; exact .base (.str _)
theorem ty_non : TyR K rNon "NoneType" := fun G H v x h _ => by
  have h : v = .non := h
  subst h; exact .base .non
theorem ty_lst {r : Rep α} : TyR K (rLst r) "list" := fun G H v x ⟨a, vs, h1, h2, _⟩ e => by subst h1; exact .base (.lst (e _ _ h2))
theorem ty_sqT {H : Hp} {a : Addr} {vs : List V} (h : SqT K H a vs) : TyX K H (.ref a) (.type "tuple") := by
  rcases h with (h | ⟨o, h⟩) | ⟨o, its, n, h, hc, _⟩
  · exact .base (.tup h)
  · exact .fTuple h
  · exact .kTuple h hc
theorem ty_tup {r : Rep α} : TyR K (rTup K r) "tuple" := fun G H v x ⟨a, vs, h1, h2, _⟩ e => by subst h1; exact ty_sqT (ex_t e h2)
theorem ty_pair {r : Rep α} {s : Rep β} : TyR K (rPair K r s) "tuple" := fun G H v x ⟨a, u, w, h1, h2, _⟩ e => by subst h1; exact ty_sqT (ex_t e h2)
theorem ev_isi {x : α} {a b : String} {r : Bool} (ty : TyR K rα a) (hb : kitB a b = some r) (ha : Ev ta Γ c c1 (tv rα x)) : Ev (tCB (rIsi K) (tCons ta (tCons (tC (.ty b)) tNil))) Γ c c1 (tv rBl r) :=
  ev_cb2 (P' := ⟨fun _ v => v = .ty b, fun _ h => h⟩) ha (fun σ G H e hd Q q => q _ G H (.refl hd) rfl) fun G H v w hd h1 h2 Q q => by
    have h2 : w = .ty b := h2
    subst h2
    exact ⟨v, .ty b, _, _, r, rfl, .ty b, ty _ _ _ _ h1 hd.ex, kit_ty hb, q _ G H (.refl hd) rfl⟩
/-! ### dict comprehensions -/
def dictO {κ : Type} [DecidableEq κ] (f : α → Option (κ × β)) : List (κ × β) → List α → Option (List (κ × β)) := foldO fun m x => (f x).bind fun p => dputO m p.1 p.2
theorem en_dc {κ : Type} [DecidableEq κ] {kf : κ → Key} {rk : Rep κ} {wi : TI} {g : TG} {vs : List Nat} {xs : List α} (f : α → Option (κ × β)) (Γx : α → TEnv) (hk : KeyR kf rk)
    (hi : EvI wi Γ c c1 (xs.map (tv rα))) (hp : ∀ x, Pt g (tv rα x) (wipeE Γ vs) (Γx x) vs)
    (step : ∀ x p, f x = some p → Ev tk (Γx x) c1 c1 (tv rk p.1) ∧ Ev te (Γx x) c1 c1 (tv rβ p.2)) (m1 : List (κ × β)) (hf : dictO f [] xs = some m1) : EvN (tDc wi g tYes tk te vs) Γ c c1 (tcD kf rβ m1) := fun σ G H e hd Q q => by
  refine hi σ G H e hd _ fun J G0 H0 a0 wk Dl hD => ?_
  have aN := Aft.newN (t := tcD kf rβ []) (o := .dK []) a0.hld hD ⟨[], rfl, trivial, Nat.zero_le _⟩
  have aS := a0.trans aN
  refine ⟨fun i m H' => m = xs.length - i ∧ i ≤ xs.length ∧ ∃ acc, dictO f acc (xs.drop i) = some m1 ∧ ∃ G', Ex G0 G' ∧ Aft G c H G' (c1 ++ [(Dl, tcD kf rβ acc)]) H', ⟨xs.length, by simp, Nat.zero_le _, [], hf, G0, Ex.rfl _, aS⟩, ?_⟩
  rintro i m H' ⟨rfl, hi, acc, hs, G', eG, aG⟩
  obtain ⟨wk1, wk2⟩ := wk.2 G' H' eG aG.hld.ex
  by_cases hlt : i < xs.length
  · have hx : xs[i]? = some xs[i] := List.getElem?_eq_getElem hlt
    obtain ⟨go, stp⟩ := wk1 i (tv rα xs[i]) (by rw [List.getElem?_map, hx]; rfl)
    have hd' : xs.drop i = xs[i] :: xs.drop (i + 1) := List.drop_eq_getElem_cons hlt
    rw [hd'] at hs
    unfold dictO foldO at hs
    obtain ⟨acc', hs1, hs⟩ := bindS hs
    obtain ⟨p, hfx, hput⟩ := bindS hs1
    obtain ⟨s1, s2⟩ := step xs[i] p hfx
    refine .inr ⟨go, fun H'' => ∃ G'', Ex G0 G'' ∧ Aft G c H G'' (c1 ++ [(Dl, tcD kf rβ acc')]) H'', fun H'' h => ⟨xs.length - (i + 1), by omega, rfl, hlt, acc', hs, h⟩, fun x H'' hy => ?_⟩
    obtain ⟨G1, gw, px⟩ := stp x H'' hy
    have a1 := gw.aft aG.hld
    have a2 := aG.trans a1
    refine hp xs[i] x (wipe σ vs) G1 H'' px ((e.mono a2.gg).wipe vs) a1.hld.ex _ fun σ2 e2 w2 => ⟨w2.trans (wipe_idem σ vs), ?_⟩
    refine s1.fr σ2 G1 H'' e2 a2.hld _ fun vk G2 H2 a3 kk => ?_
    refine s2.fr σ2 G2 H2 (e2.mono a3.gg) (a2.trans a3).hld _ fun v G3 H3 a5 kv => ?_
    have a6 := (a2.trans a3).trans a5
    obtain ⟨_, ob, hob, us, rfl, k2, k3⟩ := a6.hld.cell (last_at (Dl, tcD kf rβ acc))
    unfold dputO at hput
    split at hput
    · rename_i hlen
      cases hput
      refine ⟨us, kf p.1, hk.rep kk, hob, by rw [k2.len]; exact hlen, G3, (((eG.trans a1.gg).trans a3.gg).trans a5.gg), ?_⟩
      have a7 := Aft.wrN (t' := tcD kf rβ (dput acc p.1 p.2)) (o := .dK (putK us (kf p.1) v)) (last_at (Dl, tcD kf rβ acc)) a6.hld ⟨_, rfl, k2.put hk.inj kv p.1, by have := dput_len acc p.1 p.2; omega⟩
      rw [last_set] at a7
      exact a6.trans a7
    · cases hput
  · have ei : i = xs.length := by omega
    subst ei
    rw [List.drop_length] at hs
    cases hs
    rw [List.length_map] at wk2
    exact .inl ⟨wk2, q _ _ _ _ _ ⟨Dl, rfl, rfl⟩ aG rfl⟩
/-! ### {k: v}, sorted of it -/
theorem en_disp1 {κ : Type} {kf : κ → Key} {rk : Rep κ} {k : κ} {x : α} (hk : ∀ {G v x}, rk.rp G v x → v = kV (kf x)) (h1 : Ev tk Γ [] [] (tv rk k)) (h2 : Ev te Γ [] [] (tv rα x)) : Ev (tDisp [(tk, te)]) Γ c c (tv (rDic kf rα) [(k, x)]) := fun σ G H e hd Q q p hp => by
  have hd0 : Hld G [] (upd H p (.dK [])) := ⟨fun a o g => by rw [upd_ne (ne_of_none (hd.ex a o g) hp)]; exact hd.ex a o g, List.nodup_nil, fun p hp => by cases hp⟩
  refine h1 σ G _ e hd0 _ fun v G1 H1 a1 k1 => h2 σ G1 H1 (e.mono a1.gg) a1.hld _ fun w G2 H2 a2 k2 => ?_
  have a3 := a1.trans a2
  have hp0 : (upd H p (HO.dK [])) p = some (.dK []) := upd_same
  have hp2 : H2 p = some (.dK []) := a3.keep p _ hp0 (by simp)
  have gp : G p = none := hd.free hp
  have gp2 : G2 p = none := a3.nost p _ hp0 (by simp) gp
  refine ⟨hp2, [(kf k, w)], by rw [hk k1] <;> rfl, by show 1 ≤ 15; decide, ?_⟩
  have eu : upd H2 p (.dK (mergeK [] [(kf k, w)])) = upd H2 p (.dK [(kf k, w)]) := rfl
  rw [eu]
  have e2 : Ex G2 (upd G2 p (.dK [(kf k, w)])) := Ex.put gp2
  have keep : ∀ a o, H a = some o → upd H2 p (.dK [(kf k, w)]) a = some o := fun a o ho => by
    have ne := ne_of_none ho hp
    rw [upd_ne ne]
    exact a3.keep a o (by rw [upd_ne ne]; exact ho) (by simp)
  have nost : ∀ a o, H a = some o → G a = none → upd G2 p (.dK [(kf k, w)]) a = none := fun a o ho g => by
    have ne := ne_of_none ho hp
    rw [upd_ne ne]
    exact a3.nost a o (by rw [upd_ne ne]; exact ho) (by simp) g
  refine q (.ref p) (upd G2 p (.dK [(kf k, w)])) _ ⟨a3.gg.trans e2, fun a o ho _ => keep a o ho, fun a o ho _ g => nost a o ho g, fun a h => .inl h, fun a o g => ?_, hd.nd, fun z hz => ?_⟩ ⟨p, [(kf k, w)], rfl, upd_same, ⟨rfl, rα.mono e2 k2, trivial⟩, by show 1 ≤ sizeLine; decide⟩
  · by_cases ea : a = p
    · subst ea; rw [upd_same] at g ⊢; exact g
    · rw [upd_ne ea] at g ⊢; exact a3.hld.ex a o g
  · obtain ⟨g1, o1, g2, g3⟩ := hd.own z hz
    exact ⟨nost _ _ g2 g1, o1, keep _ _ g2, z.2.mono (a3.gg.trans e2) g3⟩
/-- sorted(d) of a dict with one text key -/
abbrev rSortedD : List V → Hp → VK → Prop := fun xs H Q => ∃ (a : Addr) (kvs : List (Key × V)) (ks : List Str), xs = [.ref a] ∧ Rd H a (.dK kvs) ∧ kvs.map (·.1) = ks.map Sum.inr ∧ ks.length < 64 ∧
    ∀ ys p, ys.Perm ks → PyProof.Rows.sortedS ys = true → H p = none → Q (.ref p) (upd H p (.lst (ys.map V.str)))
theorem ev_sortedD1 {k : List Nat} {x : α} (hs : SOk k) (h : Ev te Γ c c1 (tv (rDic kStr rα) [(k, x)])) : Ev (tCB rSortedD (tCons te tNil)) Γ c c1 (tv (rLst rStr) [k]) := ev_cb1 h fun G H v hd ⟨a, ps, h1, h2, h3, h4⟩ Q q => by
  subst h1
  match ps, h3 with
  | [p], ⟨e1, e2, _⟩ =>
    refine ⟨a, [p], [sOf k], rfl, .inl (hd.ex _ _ h2), by rw [List.map_cons, e1] <;> rfl, by show 1 < 64; decide, fun ys l pm _ hl => ?_⟩
    have ey : ys = [sOf k] := List.perm_singleton.mp pm
    subst ey
    have a2 := Aft.frz (.lst [V.str (sOf k)]) hd hl
    exact q _ _ _ a2 ⟨l, _, rfl, upd_same, ⟨⟨rfl, hs⟩, trivial⟩, by show 1 ≤ sizeLine; decide⟩
/-! ### [e for x in a for y in b] -/
theorem EvI.fr {wi : TI} {Ps : List TV} (h : EvI wi Γ c c1 Ps) : EvI wi Γ (c ++ c2) (c1 ++ c2) Ps := fun σ G H e hd R q => h σ G H e hd.left R fun J G' H' a k => q J G' H' (Aft.frame hd a) k
def lc2O (inner : α → Option (List γ)) (f : α → γ → Option β) (xs : List α) : Option (List β) := (mapO (fun x => (inner x).bind fun ys => mapO (f x) ys) xs).bind fun zs => if zs.flatten.length ≤ sizeLine then some zs.flatten else none
theorem en_lc2 {wi wi1 : TI} {g g1 : TG} {vs vs1 : List Nat} {xs : List α} (inner : α → Option (List γ)) (f : α → γ → Option β) (Γx : α → TEnv) (Γy : α → γ → TEnv)
    (hi : EvI wi Γ c c1 (xs.map (tv rα))) (hp : ∀ x, Pt g (tv rα x) (wipeE Γ vs) (Γx x) vs) (hi1 : ∀ x ys, inner x = some ys → EvI wi1 (Γx x) c1 c1 (ys.map (tv rγ))) (hp1 : ∀ x y, Pt g1 (tv rγ y) (wipeE (Γx x) vs1) (Γy x y) vs1)
    (step : ∀ x y z, f x y = some z → Ev te (Γy x y) c1 c1 (tv rβ z)) (zs : List β) (hf : lc2O inner f xs = some zs) : EvN (tLc2 wi g tYes wi1 g1 tYes te vs vs1) Γ c c1 (tcL rβ zs) := fun σ G H e hd Q q => by
  obtain ⟨zss, hm, hz⟩ := bindS hf
  obtain ⟨hlen, hz⟩ : zss.flatten.length ≤ sizeLine ∧ zss.flatten = zs := by
    split at hz
    · exact ⟨by assumption, Option.some.inj hz⟩
    · cases hz
  subst hz
  refine hi σ G H e hd _ fun J G0 H0 a0 wk Dl hD => ?_
  have aN := Aft.newN (t := tcL rβ []) (o := .lst []) a0.hld hD ⟨[], rfl, trivial, Nat.zero_le _⟩
  have aS := a0.trans aN
  refine ⟨fun i m H' => m = xs.length - i ∧ i ≤ xs.length ∧ ∃ acc rest, mapO (fun x => (inner x).bind fun ys => mapO (f x) ys) (xs.drop i) = some rest ∧ acc ++ rest.flatten = zss.flatten ∧ ∃ G', Ex G0 G' ∧ Aft G c H G' (c1 ++ [(Dl, tcL rβ acc)]) H', ⟨xs.length, by simp, Nat.zero_le _, [], zss, hm, rfl, G0, Ex.rfl _, aS⟩, ?_⟩
  rintro i m H' ⟨rfl, hi, acc, rest, hs, hacc, G', eG, aG⟩
  obtain ⟨wk1, wk2⟩ := wk.2 G' H' eG aG.hld.ex
  by_cases hlt : i < xs.length
  · have hx : xs[i]? = some xs[i] := List.getElem?_eq_getElem hlt
    obtain ⟨go, stp⟩ := wk1 i (tv rα xs[i]) (by rw [List.getElem?_map, hx]; rfl)
    have hd' : xs.drop i = xs[i] :: xs.drop (i + 1) := List.drop_eq_getElem_cons hlt
    rw [hd'] at hs
    unfold mapO at hs
    obtain ⟨row, h1, h2⟩ := bindS hs
    obtain ⟨ys, hin, hrow⟩ := bindS h1
    cases hrest : mapO (fun x => (inner x).bind fun ys => mapO (f x) ys) (xs.drop (i + 1)) with
    | none => rw [hrest] at h2; cases h2
    | some rest' =>
      rw [hrest] at h2
      replace h2 := Option.some.inj h2
      subst h2
      rw [List.flatten_cons] at hacc
      refine .inr ⟨go, fun H'' => ∃ acc', acc' ++ rest'.flatten = zss.flatten ∧ ∃ G'', Ex G0 G'' ∧ Aft G c H G'' (c1 ++ [(Dl, tcL rβ acc')]) H'', fun H'' ⟨acc', h1, h2⟩ => ⟨xs.length - (i + 1), by omega, rfl, hlt, acc', rest', hrest, h1, h2⟩, fun x H'' hy => ?_⟩
      obtain ⟨G1, gw, px⟩ := stp x H'' hy
      have a1 := gw.aft aG.hld
      have a2 := aG.trans a1
      refine hp xs[i] x (wipe σ vs) G1 H'' px ((e.mono a2.gg).wipe vs) a1.hld.ex _ fun σ2 e2 w2 => ⟨w2.trans (wipe_idem σ vs), ?_⟩
      refine (hi1 _ ys hin).fr σ2 G1 H'' e2 a2.hld _ fun J1 G2 H2 a3 wkk => ?_
      refine ⟨fun j k H3 => k = ys.length - j ∧ j ≤ ys.length ∧ ∃ acc2 row2, mapO (f xs[i]) (ys.drop j) = some row2 ∧ acc2 ++ (row2 ++ rest'.flatten) = zss.flatten ∧ ∃ G3, Ex G2 G3 ∧ Aft G c H G3 (c1 ++ [(Dl, tcL rβ acc2)]) H3, ⟨ys.length, by simp, Nat.zero_le _, acc, row, hrow, hacc, G2, Ex.rfl _, a2.trans a3⟩, ?_⟩
      rintro j k H3 ⟨rfl, hj, acc2, row2, hs2, hacc2, G3, eG3, aG3⟩
      obtain ⟨wk3, wk4⟩ := wkk.2 G3 H3 eG3 aG3.hld.ex
      by_cases hjl : j < ys.length
      · have hyj : ys[j]? = some ys[j] := List.getElem?_eq_getElem hjl
        obtain ⟨go1, stp1⟩ := wk3 j (tv rγ ys[j]) (by rw [List.getElem?_map, hyj]; rfl)
        have hd2 : ys.drop j = ys[j] :: ys.drop (j + 1) := List.drop_eq_getElem_cons hjl
        rw [hd2] at hs2
        unfold mapO at hs2
        obtain ⟨z, hz1, hz2⟩ := bindS hs2
        cases hr2 : mapO (f xs[i]) (ys.drop (j + 1)) with
        | none => rw [hr2] at hz2; cases hz2
        | some row3 =>
          rw [hr2] at hz2
          replace hz2 := Option.some.inj hz2
          subst hz2
          refine .inr ⟨go1, fun H4 => ∃ acc3, acc3 ++ (row3 ++ rest'.flatten) = zss.flatten ∧ ∃ G4, Ex G2 G4 ∧ Aft G c H G4 (c1 ++ [(Dl, tcL rβ acc3)]) H4, fun H4 ⟨acc3, h1, h2⟩ => ⟨ys.length - (j + 1), by omega, rfl, hjl, acc3, row3, hr2, h1, h2⟩, fun y H4 hy4 => ?_⟩
          obtain ⟨G4, gw4, py⟩ := stp1 y H4 hy4
          have a4 := gw4.aft aG3.hld
          have a5 := aG3.trans a4
          have eW : EnvOk G4 (wipeE (Γx xs[i]) vs1) (wipe σ2 vs1) := (((e2.mono a3.gg).mono eG3).mono a4.gg).wipe vs1
          refine hp1 xs[i] ys[j] y (wipe σ2 vs1) G4 H4 py eW a5.hld.ex _ fun σ3 e3 w3 => ⟨w3.trans (wipe_idem σ2 vs1), ?_⟩
          refine (step _ _ z hz1).fr σ3 G4 H4 e3 a5.hld _ fun v G5 H5 a6 kv => ?_
          have a7 := a5.trans a6
          obtain ⟨_, ob, hob, us, rfl, k2, k3⟩ := a7.hld.cell (last_at (Dl, tcL rβ acc2))
          have hll : acc2.length < sizeLine := by
            have := congrArg List.length hacc2
            simp only [List.length_append, List.length_cons] at this
            omega
          refine ⟨us, hob, by rw [k2.len]; exact hll, acc2 ++ [z], by rw [← hacc2, List.append_assoc]; rfl, G5, ((eG3.trans a4.gg).trans a6.gg), ?_⟩
          have a8 := Aft.wrN (t' := tcL rβ (acc2 ++ [z])) (o := .lst (us ++ [v])) (last_at (Dl, tcL rβ acc2)) a7.hld ⟨_, rfl, k2.app ⟨kv, trivial⟩, by rw [List.length_append, List.length_singleton]; omega⟩
          rw [last_set] at a8
          exact a7.trans a8
      · have ej : j = ys.length := by omega
        subst ej
        rw [List.drop_length] at hs2
        cases hs2
        rw [List.length_map] at wk4
        exact .inl ⟨wk4, acc2, hacc2, G3, ((eG.trans a1.gg).trans a3.gg).trans eG3, aG3⟩
  · have ei : i = xs.length := by omega
    subst ei
    rw [List.drop_length] at hs
    cases hs
    rw [List.flatten_nil, List.append_nil] at hacc
    subst hacc
    rw [List.length_map] at wk2
    exact .inl ⟨wk2, q _ _ _ _ _ ⟨Dl, rfl, rfl⟩ aG rfl⟩
end
end TW
namespace TW
open PySem L2
/-! ### a list of owned lists: the outer list is frozen, the inner ones are cells side by side -/
def mkC {α : Type} (r : Rep α) : List Addr → List (List α) → Cells
  | l :: ls, x :: xs => (l, tcL r x) :: mkC r ls xs
  | _, _ => []
def tcNo : TC := ⟨fun _ _ => False, fun _ h => h⟩
def mkD {α : Type} (r : Rep α) (ls : List Addr) (xs : List (List α)) : Cells := if ls.length = xs.length then mkC r ls xs else [(0, tcNo)]
section
variable {Γ Γ' Γ'' : TEnv} {c c0 c1 c2 c3 : Cells} {P P' P2 R : TV} {ta tb td te tk tw : TE} {t u w : TS} {tt : TT} {K : PySem.W.Frag} {α β γ : Type} {rα : Rep α} {rβ : Rep β} {D : Ends} {B : Bs}
theorem mkC_app {ls ls' : List Addr} {xs xs' : List (List α)} (h : ls.length = xs.length) : mkC rα (ls ++ ls') (xs ++ xs') = mkC rα ls xs ++ mkC rα ls' xs' := by
  induction ls generalizing xs with
  | nil =>
    cases xs with
    | nil => rfl
    | cons _ _ => cases h
  | cons l ls ih =>
    cases xs with
    | nil => cases h
    | cons x xs =>
      show (l, tcL rα x) :: mkC rα (ls ++ ls') (xs ++ xs') = _
      rw [ih (by simpa using h)]
      rfl
theorem mkC_get {ls : List Addr} {xs : List (List α)} {i : Nat} {l : Addr} {x : List α} (hl : ls[i]? = some l) (hx : xs[i]? = some x) : (mkC rα ls xs)[i]? = some (l, tcL rα x) := by
  induction ls generalizing xs i with
  | nil => simp at hl
  | cons k ls ih =>
    cases xs with
    | nil => simp at hx
    | cons y xs =>
      cases i with
      | zero =>
        simp at hl hx
        subst hl hx
        rfl
      | succ i =>
        show (mkC rα ls xs)[i]? = _
        exact ih (by simpa using hl) (by simpa using hx)
theorem mkC_set {ls : List Addr} {xs : List (List α)} {i : Nat} {l : Addr} {x : List α} (hl : ls[i]? = some l) : (mkC rα ls xs).set i (l, tcL rα x) = mkC rα ls (xs.set i x) := by
  induction ls generalizing xs i with
  | nil => simp at hl
  | cons k ls ih =>
    cases xs with
    | nil => rfl
    | cons y xs =>
      cases i with
      | zero =>
        simp at hl
        subst hl
        rfl
      | succ i =>
        show _ :: (mkC rα ls xs).set i _ = _ :: mkC rα ls (xs.set i x)
        rw [ih (by simpa using hl)]
theorem off_get {ls : List Addr} {xs : List (List α)} {i : Nat} {l : Addr} {x : List α} (hl : ls[i]? = some l) (hx : xs[i]? = some x) : (c0 ++ mkC rα ls xs)[c0.length + i]? = some (l, tcL rα x) := by
  rw [List.getElem?_append_right (Nat.le_add_right _ _), Nat.add_sub_cancel_left]
  exact mkC_get hl hx
theorem off_set {ls : List Addr} {xs : List (List α)} {i : Nat} {l : Addr} {x : List α} (hl : ls[i]? = some l) : (c0 ++ mkC rα ls xs).set (c0.length + i) (l, tcL rα x) = c0 ++ mkC rα ls (xs.set i x) := by
  rw [List.set_append_right _ _ (Nat.le_add_right _ _), Nat.add_sub_cancel_left, mkC_set hl]
/-- xs[i].append(y) of such a list -/
def pushAt (xs : List (List α)) (i : Int) (y : α) : Option (List (List α)) := (ixN xs.length i).bind fun j => (xs[j]?).bind fun x => (pushO x y).map fun z => xs.set j z
theorem all2_addr {G : Hp} : ∀ {vs : List V} {ls : List Addr}, All2 rAddr G vs ls → vs = ls.map V.ref := fun {vs ls} h => All2.map (f := V.ref) (fun _ _ _ h => h) h
theorem ev_appAtC {ls : List Addr} {xs zs : List (List α)} {i : Int} {y : α} (ho : Ev ta Γ (c0 ++ mkC rα ls xs) (c0 ++ mkC rα ls xs) (tv (rLst rAddr) ls)) (hi : Ev tb Γ (c0 ++ mkC rα ls xs) (c0 ++ mkC rα ls xs) (tv rInt i)) (he : Ev te Γ (c0 ++ mkC rα ls xs) (c1 ++ mkC rα ls xs) (tv rα y)) (hlen : ls.length = xs.length) (hm : pushAt xs i y = some zs) :
    Ev (tBM K "list" rAppend (tOp (rIxL K) ta tb) (tCons te tNil)) Γ (c0 ++ mkC rα ls xs) (c1 ++ mkC rα ls zs) (tv rNon ()) := by
  obtain ⟨j, h1, hm⟩ := bindS hm
  obtain ⟨x, h2, hm⟩ := bindS hm
  cases hz : pushO x y with
  | none => rw [hz] at hm; cases hm
  | some z =>
    rw [hz] at hm
    replace hm := Option.some.inj hm
    subst hm
    have hj : j < xs.length := (List.getElem?_eq_some_iff.mp h2).1
    obtain ⟨lj, hl⟩ : ∃ lj, ls[j]? = some lj := ⟨_, List.getElem?_eq_getElem (show j < ls.length by omega)⟩
    have hat : atI ls i = some lj := by
      unfold atI
      rw [hlen, h1]
      exact hl
    have e1 := ev_app (K := K) (rα := rα) (n := c1.length + j) (xs1 := x) (ev_ixL (K := K) ho hi hat) (List.mem_of_getElem? (off_get hl h2)) he (off_get hl h2) hz
    rw [off_set hl] at e1
    exact e1
theorem no_hld {c : Cells} {ls : List Addr} {xs : List (List α)} {G H : Hp} (h : Hld G (c ++ mkD rα ls xs) H) : ls.length = xs.length := by
  by_cases e : ls.length = xs.length
  · exact e
  · unfold mkD at h
    rw [if_neg e] at h
    obtain ⟨_, _, _, z⟩ := h.own (0, tcNo) (List.mem_append_right _ List.mem_cons_self)
    exact z.elim
theorem pushAt_len0 {xs zs : List (List α)} {i : Int} {y : α} (h : pushAt xs i y = some zs) : zs.length = xs.length := by
  obtain ⟨j, h1, h⟩ := bindS h
  obtain ⟨x, h2, h⟩ := bindS h
  cases hz : pushO x y with
  | none => rw [hz] at h; cases h
  | some z =>
    rw [hz] at h
    replace h := Option.some.inj h
    subst h
    rw [List.length_set]
theorem ev_appAt {ls : List Addr} {xs zs : List (List α)} {i : Int} {y : α} (ho : Ev ta Γ (c0 ++ mkD rα ls xs) (c0 ++ mkD rα ls xs) (tv (rLst rAddr) ls)) (hi : Ev tb Γ (c0 ++ mkD rα ls xs) (c0 ++ mkD rα ls xs) (tv rInt i)) (he : Ev te Γ (c0 ++ mkD rα ls xs) (c1 ++ mkD rα ls xs) (tv rα y)) (hm : pushAt xs i y = some zs) :
    Ev (tBM K "list" rAppend (tOp (rIxL K) ta tb) (tCons te tNil)) Γ (c0 ++ mkD rα ls xs) (c1 ++ mkD rα ls zs) (tv rNon ()) := fun σ G H e hd Q q => by
  have hl := no_hld hd
  have hz : ls.length = zs.length := hl.trans (pushAt_len0 hm).symm
  have e1 : mkD rα ls xs = mkC rα ls xs := if_pos hl
  have e2 : mkD rα ls zs = mkC rα ls zs := if_pos hz
  rw [e1] at ho hi he hd q
  rw [e2] at q
  exact ev_appAtC ho hi he hl hm σ G H e hd Q q
/-- all of them are frozen -/
theorem frzAll {G H : Hp} : ∀ {ls : List Addr} {xs : List (List α)}, ls.length = xs.length → Hld G (c0 ++ mkC rα ls xs) H → ∃ G', Aft G (c0 ++ mkC rα ls xs) H G' c0 H ∧ All2 (rLst rα) G' (ls.map V.ref) xs := by
  intro ls
  induction ls generalizing G with
  | nil =>
    intro xs hl h
    cases xs with
    | nil =>
      have e : c0 ++ mkC rα [] ([] : List (List α)) = c0 := List.append_nil _
      rw [e] at h ⊢
      exact ⟨G, .refl h, trivial⟩
    | cons _ _ => cases hl
  | cons l ls ih =>
    intro xs hl h
    cases xs with
    | nil => cases hl
    | cons x xs =>
      have h' : Hld G (c0 ++ (l, tcL rα x) :: mkC rα ls xs) H := h
      obtain ⟨o, G1, g, ⟨vs, h1, h2, h3⟩, h4, a1⟩ := Aft.freeze h'
      obtain ⟨G2, a2, h5⟩ := ih (xs := xs) (by simpa using hl) a1.hld
      refine ⟨G2, a1.trans a2, ⟨l, vs, rfl, a2.gg _ _ (by rw [g, upd_same, h1]), h2.mono (a1.gg.trans a2.gg), h3⟩, h5⟩
theorem sv_frzAll {N : L2.St → Hp → Prop} {i : Nat} {ls : List Addr} {xs : List (List α)} (h : Γ[i]? = some (some (tv (rLst rAddr) ls))) (k : Im B (Γ.set i (some (tv (rLst (rLst rα)) xs))) c0 N) : Im B Γ (c0 ++ mkD rα ls xs) N := fun σ H ⟨G, a, e⟩ => by
  have hlen := no_hld a.hld
  have e1 : mkD rα ls xs = mkC rα ls xs := if_pos hlen
  rw [e1] at a
  obtain ⟨v, h1, a', vs, h2, h3, h4, h5⟩ := e.get h
  obtain ⟨G2, a2, h6⟩ := frzAll hlen a.hld
  have e0 := all2_addr h4
  subst h2
  have e2 := (e.mono a2.gg).set (P := tv (rLst (rLst rα)) xs) (v := .ref a') ⟨a', vs, rfl, a2.gg _ _ h3, by rw [e0]; exact h6, by rw [← hlen]; exact h5⟩ i
  have e3 : σ.set i (some (.ref a')) = σ := by
    obtain ⟨hi, e4⟩ := List.getElem?_eq_some_iff.mp h1
    rw [← e4]; exact List.set_getElem_self hi
  rw [e3] at e2
  exact k _ _ ⟨G2, a.trans a2, e2⟩
/-- [[e] for x in xs], the inner lists owned -/
theorem EvX.fr {W : Cells → TV → Prop} (h : EvX te Γ c W) : EvX te Γ (c ++ c2) (fun c' P => ∃ c0, W c0 P ∧ c' = c0 ++ c2) := fun σ G H e hd Q q => h σ G H e hd.left Q fun c' P v G' H' w a k => q _ P v G' H' ⟨c', w, rfl⟩ (Aft.frame hd a) k
theorem en_lcO {S : Type} {wi : TI} {g : TG} {vs : List Nat} {xs : List α} (f : S → α → Option (List β × S)) (cs : S → Cells) (Γx : α → TEnv)
    (hi : EvI wi Γ c c1 (xs.map (tv rα))) (s0 : S) (hc0 : c1 = cs s0) (hp : ∀ x, Pt g (tv rα x) (wipeE Γ vs) (Γx x) vs)
    (step : ∀ s x p, f s x = some p → EvN te (Γx x) (cs s) (cs p.2) (tcL rβ p.1)) (q : List (List β) × S) (hf : mapS f s0 xs = some q) :
    EvX (tLc wi g tYes te vs) Γ c (fun c' P' => ∃ ls : List Addr, c' = cs q.2 ++ mkD rβ ls q.1 ∧ P' = tv (rLst rAddr) ls) := fun σ G H e hd Q qq => by
  refine hi σ G H e hd _ fun J G0 H0 a0 wk Dl hD => ?_
  have hl : xs.length ≤ sizeLine := by simpa using wk.1
  have aN := Aft.newN (t := tcL rAddr []) (o := .lst []) a0.hld hD ⟨[], rfl, trivial, Nat.zero_le _⟩
  have aS := a0.trans aN
  refine ⟨fun i m H' => m = xs.length - i ∧ i ≤ xs.length ∧ ∃ (s : S) (ls : List Addr) (acc : List (List β)) (zs : List (List β)), ls.length = acc.length ∧ acc.length = i ∧ mapS f s (xs.drop i) = some (zs, q.2) ∧ acc ++ zs = q.1 ∧ ∃ G', Ex G0 G' ∧ Aft G c H G' ((cs s ++ mkC rβ ls acc) ++ [(Dl, tcL rAddr ls)]) H',
    ⟨xs.length, by simp, Nat.zero_le _, s0, [], [], q.1, rfl, rfl, hf, rfl, G0, Ex.rfl _, by
      have e1 : cs s0 ++ mkC rβ [] ([] : List (List β)) = c1 := by rw [← hc0]; exact List.append_nil _
      rw [e1]; exact aS⟩, ?_⟩
  rintro i m H' ⟨rfl, hi, s, ls, acc, zs, hls, hacc, hs, hys, G', eG, aG⟩
  obtain ⟨wk1, wk2⟩ := wk.2 G' H' eG aG.hld.ex
  by_cases hlt : i < xs.length
  · have hx : xs[i]? = some xs[i] := List.getElem?_eq_getElem hlt
    obtain ⟨go, stp⟩ := wk1 i (tv rα xs[i]) (by rw [List.getElem?_map, hx]; rfl)
    have hd' : xs.drop i = xs[i] :: xs.drop (i + 1) := List.drop_eq_getElem_cons hlt
    rw [hd'] at hs
    unfold mapS at hs
    obtain ⟨p, hfx, hs⟩ := bindS hs
    cases hrest : mapS f p.2 (xs.drop (i + 1)) with
    | none => rw [hrest] at hs; cases hs
    | some q2 =>
      rw [hrest] at hs
      replace hs := Option.some.inj hs
      have hs : (p.1 :: q2.1, q2.2) = (zs, q.2) := hs
      have e1 : p.1 :: q2.1 = zs := (Prod.mk.inj hs).1
      have e2 : q2.2 = q.2 := (Prod.mk.inj hs).2
      have stp2 := step s xs[i] p hfx
      refine .inr ⟨go, fun H'' => ∃ ls', ls'.length = (acc ++ [p.1]).length ∧ ∃ G'', Ex G0 G'' ∧ Aft G c H G'' ((cs p.2 ++ mkC rβ ls' (acc ++ [p.1])) ++ [(Dl, tcL rAddr ls')]) H'', fun H'' ⟨ls', h1, h2⟩ => ⟨xs.length - (i + 1), by omega, rfl, hlt, p.2, ls', acc ++ [p.1], q2.1, h1, by rw [List.length_append, hacc]; rfl, by rw [hrest, ← e2], by rw [← hys, ← e1, List.append_assoc]; rfl, h2⟩, fun x H'' hy => ?_⟩
      obtain ⟨G1, gw, px⟩ := stp x H'' hy
      have a1 := gw.aft aG.hld
      have a2 := aG.trans a1
      refine hp xs[i] x (wipe σ vs) G1 H'' px ((e.mono a2.gg).wipe vs) a1.hld.ex _ fun σ2 e2 w2 => ⟨w2.trans (wipe_idem σ vs), ?_⟩
      have hh : Hld G1 (cs s ++ (mkC rβ ls acc ++ [(Dl, tcL rAddr ls)])) H'' := by rw [← List.append_assoc]; exact a2.hld
      refine stp2.fr σ2 G1 H'' e2 hh _ fun c' P' v G2 H2 ⟨cz, ⟨l, w1, w2⟩, w3⟩ a3 kv => ?_
      subst w1 w2 w3
      have kv : v = .ref l := kv
      subst kv
      rw [List.append_assoc] at a2
      have a4 := a2.trans a3
      -- the new cell goes to its place
      have a5 : Aft G c H G2 ((cs p.2 ++ (mkC rβ ls acc ++ [(l, tcL rβ p.1)])) ++ [(Dl, tcL rAddr ls)]) H2 := by
        refine a4.sub ?_ fun z hz => ?_
        · have nd := a4.hld.nd
          have e1 : ads (cs p.2 ++ [(l, tcL rβ p.1)] ++ (mkC rβ ls acc ++ [(Dl, tcL rAddr ls)])) = ads (cs p.2) ++ (l :: (ads (mkC rβ ls acc) ++ [Dl])) := by simp [ads]
          have e2 : ads ((cs p.2 ++ (mkC rβ ls acc ++ [(l, tcL rβ p.1)])) ++ [(Dl, tcL rAddr ls)]) = ads (cs p.2) ++ (ads (mkC rβ ls acc) ++ (l :: [Dl])) := by simp [ads]
          rw [e1] at nd
          rw [e2]
          exact (List.Perm.append_left _ List.perm_middle).nodup_iff.mpr nd
        · simp only [List.mem_append, List.mem_singleton] at hz ⊢
          rcases hz with (hz | hz | hz) | hz
          · exact .inl (.inl hz)
          · exact .inr (.inl hz)
          · exact .inl (.inr hz)
          · exact .inr (.inr hz)
      have e3 : mkC rβ ls acc ++ [(l, tcL rβ p.1)] = mkC rβ (ls ++ [l]) (acc ++ [p.1]) := (mkC_app hls (ls' := [l]) (xs' := [p.1])).symm
      rw [e3] at a5
      obtain ⟨_, ob, hob, us, rfl, k2, k3⟩ := a5.hld.cell (last_at (Dl, tcL rAddr ls))
      have hlen : ls.length < sizeLine := by omega
      refine ⟨us, hob, by rw [k2.len]; exact hlen, ls ++ [l], by rw [List.length_append, List.length_append, hls]; rfl, G2, ((eG.trans a1.gg).trans a3.gg), ?_⟩
      have a7 := Aft.wrN (t' := tcL rAddr (ls ++ [l])) (o := .lst (us ++ [.ref l])) (last_at (Dl, tcL rAddr ls)) a5.hld ⟨_, rfl, k2.app (ws := [.ref l]) (ys := [l]) ⟨show V.ref l = V.ref l from rfl, trivial⟩, by rw [List.length_append, List.length_singleton]; omega⟩
      rw [last_set] at a7
      exact a5.trans a7
  · have ei : i = xs.length := by omega
    subst ei
    rw [List.drop_length] at hs
    have hs := Option.some.inj hs
    have e1 : ([] : List (List β)) = zs := congrArg Prod.fst hs
    have e2 : s = q.2 := congrArg Prod.snd hs
    subst e1 e2
    rw [List.append_nil] at hys
    subst hys
    rw [List.length_map] at wk2
    obtain ⟨o, G2, g, ⟨vs, h1, h2, h3⟩, h4, a2⟩ := Aft.frzN (last_at (Dl, tcL rAddr ls)) aG.hld
    have e3 : ((cs q.2 ++ mkC rβ ls q.1) ++ [(Dl, tcL rAddr ls)]).eraseIdx (cs q.2 ++ mkC rβ ls q.1).length = cs q.2 ++ mkC rβ ls q.1 := by
      rw [List.eraseIdx_append_of_length_le (Nat.le_refl _)]; simp
    rw [e3] at a2
    exact .inl ⟨wk2, qq _ _ _ _ _ ⟨ls, by rw [show mkD rβ ls q.1 = mkC rβ ls q.1 from if_pos hls], rfl⟩ (aG.trans a2) ⟨Dl, vs, rfl, by rw [g, upd_same, h1], h2.mono a2.gg, h3⟩⟩
end
end TW
namespace TW
open PySem L2
/-! ### the rules under the names of their readings -/
section
variable {X : Cx}
theorem k_len : CallR X (.builtin "len") (rLen X.K) := call_len
theorem k_max2 (hc : X.calm = true) : CallR X (.builtin "max") (fun xs H Q => ∃ i j, xs = [.int i, .int j] ∧ Q (.int (if j > i then j else i)) H) := call_max2 hc
theorem k_slT : SlR X (rSlT' X.K) := by
  intro pins s σ H x v vl vu lo hi sl Q I rx hs pl pu h
  rcases h with h | ⟨a, xs, e, hx, hw, q⟩
  · exact sl_tup pins s σ H x v vl vu lo hi sl Q I rx hs pl pu h
  · exact sl_tupA pins s σ H x v vl vu lo hi sl Q I rx hs pl pu ⟨a, xs, e, hx, fun _ => q, fun z => absurd hw z⟩
theorem k_get : PGet X (rIxL X.K) := by
  intro pins s σ H o i ov iv Q I ro ri h
  obtain ⟨p, xs, i, z, rfl, rfl, hq, he, q⟩ := h
  cases ro
  obtain ⟨t, rfl⟩ := ri
  obtain ⟨its, r, pl, hz⟩ := I.list hq
  obtain ⟨j, h1, h2, h3, h4, h5⟩ := atI_get he
  obtain ⟨w, ew, rw'⟩ := r.get h2
  have hl := r.length
  have hn := line63
  have fin : EP X pins σ Q w s := ⟨z, H, I, rw', q⟩
  by_cases h0 : 0 ≤ i
  · have hj : i.toNat = j := by
      rw [seqIndex_of h0 h5] at h1
      exact Option.some.inj h1
    exact wpAny_getItem_list pl.isList h0 (by omega) (by rw [hj]; simpa using ew) fin
  · have hj : (i + (its.toArray.size : Int)).toNat = j := by
      rw [seqIndex_neg (by omega) h4] at h1
      rw [List.size_toArray, ← hl]
      exact Option.some.inj h1
    exact wpAny_getItem_list_neg pl.isList (by omega) (by rw [List.size_toArray, ← hl]; omega) (by omega) (by rw [hj]; simpa using ew) fin
theorem k_isN : OpR X (compareOp .Is) (fun x y H Q => y = .non ∧ Q (.bl (decide (x = .non))) H) := op_isN
theorem k_notN : OpR X (compareOp .IsNot) (fun x y H Q => y = .non ∧ Q (.bl (!decide (x = .non))) H) := op_notN
theorem k_catS : OpR X (binaryOp .Add) (fun x y H Q => ∃ i j, x = .str i ∧ y = .str j ∧ i.length + j.length ≤ sizeLine ∧ Q (.str (i ++ j)) H) := op_add_str
theorem k_sidx : MtR X "str.index" rSidx := mt_sindex
theorem k_join : MtR X "str.join" (rJoinC X.K) := mt_join
end
abbrev LSt := List Int × Int × Int × Int
abbrev rCatX : R2 := fun x y H Q => ∃ i j, x = .str i ∧ y = .str j ∧ i.length + j.length ≤ sizeLine ∧ Q (.str (i ++ j)) H
abbrev rIsNX : R2 := fun x y H Q => y = .non ∧ Q (.bl (decide (x = .non))) H
abbrev rNotNX : R2 := fun x y H Q => y = .non ∧ Q (.bl (!decide (x = .non))) H
abbrev rMax2X : List V → Hp → VK → Prop := fun xs H Q => ∃ i j, xs = [.int i, .int j] ∧ Q (.int (if j > i then j else i)) H
abbrev rMin2X : List V → Hp → VK → Prop := fun xs H Q => ∃ i j, xs = [.int i, .int j] ∧ Q (.int (if j < i then j else i)) H
abbrev rAbsX : List V → Hp → VK → Prop := fun xs H Q => ∃ i, xs = [.int i] ∧ Q (.int (if i < 0 then -i else i)) H
abbrev rStrIX : List V → Hp → VK → Prop := fun xs H Q => ∃ i : Int, xs = [.int i] ∧ i.natAbs.log2 < 1920 ∧ Q (.str (toString i)) H
theorem sv_retX {te : TE} {D : Ends} {B : Bs} {Γ : TEnv} {c : Cells} {W : Cells → TV → Prop} (h : EvX te Γ c W) (k : ∀ c' P, W c' P → RT D.rt B c' P) : Sv (tRet te) D B Γ c := fun σ H ⟨G, a, e⟩ =>
  h σ G H e a.hld _ fun c' P v G1 H1 w a1 k1 => k c' P w v G1 H1 (a.trans a1) k1
theorem own_sub (c : Cells) (p : Addr × TC) : [p].Sublist (c ++ [p]) := List.sublist_append_right _ _
theorem fget_ne {f g : Str} {P : TV} {l : List (Str × TV)} (h : ¬ f = g) : fget ((g, P) :: l) f = fget l f := by
  show (if _ then _ else _) = _
  rw [if_neg h]
theorem fget_eq {f : Str} {P : TV} {l : List (Str × TV)} : fget ((f, P) :: l) f = some P := by
  show (if _ then _ else _) = _
  rw [if_pos rfl]
theorem fget_nil {f : Str} : fget [] f = none := rfl
theorem fput_ne {f g : Str} {P Q : TV} {l : List (Str × TV)} (h : ¬ g = f) : fput f Q ((g, P) :: l) = (g, P) :: fput f Q l := by
  show (if _ then _ else _) = _
  rw [if_neg h]
theorem fput_eq {f : Str} {P Q : TV} {l : List (Str × TV)} : fput f Q ((f, P) :: l) = (f, Q) :: l := by
  show (if _ then _ else _) = _
  rw [if_pos rfl]
theorem fput_nil {f : Str} {Q : TV} : fput f Q [] = [(f, Q)] := rfl
theorem pushAt_len {α : Type} {xs zs : List (List α)} {ls : List Addr} {i : Int} {y : α} (hl : ls.length = xs.length) (h : pushAt xs i y = some zs) : ls.length = zs.length := by
  obtain ⟨j, h1, h⟩ := bindS h
  obtain ⟨x, h2, h⟩ := bindS h
  cases hz : pushO x y with
  | none => rw [hz] at h; cases h
  | some z =>
    rw [hz] at h
    replace h := Option.some.inj h
    subst h
    rw [List.length_set]; exact hl
theorem nxq {B : Bs} {Γ : TEnv} {c : Cells} {u : TS} {D : Ends} (h : Sv u D B Γ c) : Im B Γ c (Ends.mk (u D) D.rt D.bk D.ct).nx := h
theorem sv_augI2 {te : TE} {D : Ends} {B : Bs} {Γ : TEnv} {c c1 : Cells} {i : Nat} {f : Int → Int → Int} {x y z : Int} (hx : Γ[i]? = some (some (tv rInt x))) (h : Ev te Γ c c1 (tv rInt y)) (hz : f x y = z) (k : Im B (Γ.set i (some (tv rInt z))) c1 D.nx) : Sv (tAug i te (ipI f)) D B Γ c := sv_augI hx h (by rw [hz]; exact k)
theorem sv_join {t : TS} {D : Ends} {B : Bs} {Γ Γ' : TEnv} {c c' : Cells} (K : Im B Γ' c' D.nx) (h : Im B Γ' c' D.nx → Sv t D B Γ c) : Sv t D B Γ c := h K
theorem units65 {k : Nat} {A : Around} (r : Room k A) : A.units + 65 < cLine := by have := r.un; omega
section
variable {X : Cx}
/-- name = {..} on one line, the name a local -/
theorem ps_setDc {i : Nat} {y : Str} {py : Pos} {kx vx tg iter : Expr} {ifs : List Expr} {scope : Scope} {own : List (Str × Nat)} {pos spos : Pos} {wi : TI} {g : TG} {tt : TT} {tk tv : TE} (hc : X.calm = true) (hN : X.N.Nodup) (hy : X.N[i]? = some y) (hyl : X.env.scope.names.lookup y = some .local)
    (hsw : swapsWith (.DictComp kx vx [⟨tg, iter, ifs, 0⟩] scope pos) (some (.Name y py)) spos.line X.env = pure true) (hi : PI X tg iter wi) (ok : BlkOk X.N X.env.scope scope own)
    (hg : ∀ (s : Shared) (H : Hp) (C : Addr) (cl : List (Str × Addr)) (fp : List Addr), PG (X.blk s H scope (compEnvC scope cl C X.env) fp) tg g) (ht : ∀ (s : Shared) (H : Hp) (C : Addr) (cl : List (Str × Addr)) (fp : List Addr), PTs (X.blk s H scope (compEnvC scope cl C X.env) fp) ifs tt)
    (hk : ∀ (s : Shared) (H : Hp) (C : Addr) (cl : List (Str × Addr)) (fp : List Addr), PE (X.blk s H scope (compEnvC scope cl C X.env) fp) kx tk)
    (he : ∀ (s : Shared) (H : Hp) (C : Addr) (cl : List (Str × Addr)) (fp : List Addr), PE (X.blk s H scope (compEnvC scope cl C X.env) fp) vx tv) (hs : ∀ x, foldedSetIterable iter X.env x = pure x := by intro _; rfl) :
    PS X (.Assign [.Name y py] (.DictComp kx vx [⟨tg, iter, ifs, 0⟩] scope pos) spos) (tAsg (tDc wi g tt tk tv (own.map (·.2))) (gName i)) := by
  refine ⟨fun pins s σ H D I h => ?_⟩
  rw [exec_Assign_Name_used _ _ _ _ hsw]
  refine wpAny_bind (wpAny_standAt (wpAny_bind ?_))
  show wpAny _ X.A (do let _ ← comprehension (.DictComp kx vx [⟨tg, iter, ifs, 0⟩] scope pos) scope X.env (firstIterPos [⟨tg, iter, ifs, 0⟩] pos) newDict false (eval iter X.env) (some (assign (.Name y py) X.env))) _ _ s
  have h : tDc wi g tt tk tv (own.map (·.2)) σ H (fun x H1 => gName i x σ H1 D.nx) := h
  refine wpAny_bind (thn (dc_core (Qf := fun _ s' => SP X pins D .next s') hc hN I hi ok hg ht hk he hs h fun L C s' m H' I' q hn f => ?_) fun _ s' hq => wpAny_pure (wpAny_pure hq))
  show wpAny _ _ (assign (.Name y py) X.env (.ref L)) _ _ _
  refine wpAny_assign_Name (store_ok2 (v := V.ref L) I' hN hy (.inl hyl) rfl (fun s2 I2 ⟨a, sb, ha⟩ => ?_) (.inr hyl))
  obtain ⟨f0, f1, f2, f3, f4, f5⟩ := f
  have haC : C ≠ a := by
    rcases ha with z | z
    · rw [z]; exact f1
    · exact fun e => f4 y a z e.symm
  refine ⟨m, hn.sameBut sb haC, fun h3 sb3 => ?_⟩
  exact ⟨_, H', I2.turned (t' := s2.toks) (fun b o hb e => (sb3.2 b hb).trans e) f0 f1 f3 f4 f5, q⟩
theorem sw_trueD {kx vx : Expr} {gs : List Comprehension} {scope : Scope} {pos py : Pos} {y : Str} {l : Nat} {env : Env} (hk : env.scope.kind = .function) (hy : env.scope.names.lookup y = some .local) (hl : (py.line == pos.line) = true)
    (ha : (scope.names.any fun (n, k) => n == y && (k == .local || k == .cell)) = false) : swapsWith (.DictComp kx vx gs scope pos) (some (.Name y py)) l env = pure true := by
  have ky : env.kindOf y = some .local := hy
  have hb : env.blockKind = .function := by unfold Env.blockKind; rw [hk]; rfl
  unfold swapsWith
  simp only [hb, ky, ha, Expr.pos, hl]
  rfl
end
theorem nt {b : Bool} (h : b = false) : ¬ (b = true) := by rw [h]; exact Bool.false_ne_true
def Stp.go {S ρ β : Type} (st : Stp S ρ) (k : S → Option β) (r : ρ → Option β) : Option β := match st with
  | .nx s => k s
  | .bk s => k s
  | .rt y => r y
theorem go_nx {S ρ β : Type} {st : Stp S ρ} {k : S → Option β} {r : ρ → Option β} {y : β} {s : S} (h : st.go k r = some y) (e : st = .nx s ∨ st = .bk s) : k s = some y := by
  rcases e with e | e <;> (subst e; exact h)
theorem go_rt {S ρ β : Type} {st : Stp S ρ} {k : S → Option β} {r : ρ → Option β} {y : β} {z : ρ} (h : st.go k r = some y) (e : st = .rt z) : r z = some y := by
  subst e; exact h
end TW
namespace LW
open PySem L2 TW
def top (i : Nat) : Stmt := PySem.Challenge.pw_chipgate_k52_whole_counts_of_rows_are_co.main.body.getD i (.Pass ⟨0, 0, 0, 0⟩)
abbrev s_stepped : Stmt := top 6
abbrev s_counted : Stmt := top 7
abbrev s_count : Stmt := top 8
abbrev s_longest : Stmt := top 9
abbrev s_row_of_length : Stmt := top 11
abbrev s_row_numbered : Stmt := top 10
abbrev s_number_of : Stmt := top 12
abbrev s_power : Stmt := top 14
abbrev s_bit_of : Stmt := top 15
abbrev s_width_of : Stmt := top 16
abbrev s_turned : Stmt := top 19
abbrev s_first_gate : Stmt := top 20
abbrev s_roots : Stmt := top 21
abbrev s_used : Stmt := top 22
abbrev s_moved : Stmt := top 24
abbrev s_trimmed : Stmt := top 23
abbrev s_literal_value : Stmt := top 26
abbrev s_node_values : Stmt := top 25
abbrev s_begun : Stmt := top 27
abbrev s_clocked : Stmt := top 28
abbrev s_run : Stmt := top 29
abbrev s_Builder___init__ : Stmt := inClass (top 18) 0
abbrev s_Builder_first : Stmt := inClass (top 18) 1
abbrev s_Builder_conj : Stmt := inClass (top 18) 2
abbrev s_Builder_disj : Stmt := inClass (top 18) 3
abbrev s_Builder_net : Stmt := inClass (top 18) 6
abbrev s_sign_names : Stmt := top 31
abbrev s_line_names : Stmt := top 32
abbrev s_Making___init__ : Stmt := inClass (top 33) 0
abbrev s_Making_coded : Stmt := inClass (top 33) 1
abbrev s_Making_one_of : Stmt := inClass (top 33) 2
abbrev s_Making_machine : Stmt := inClass (top 33) 3
abbrev s_net_of : Stmt := top 34
abbrev s__law_flat : Stmt := top 36
abbrev s__law_next : Stmt := top 37
abbrev s__law_same : Stmt := top 38
abbrev s__law_least : Stmt := top 39
abbrev s__law_machine : Stmt := top 40
abbrev s__law_behind : Stmt := top 41
abbrev s__law_passes : Stmt := top 42
abbrev s__law_bits : Stmt := top 43
abbrev s__law_wide : Stmt := top 44
abbrev s__law_inputs : Stmt := top 45
abbrev s__law_rows : Stmt := top 46
abbrev s__law_row : Stmt := top 47
abbrev s__law_signs : Stmt := top 48
abbrev s__law_told : Stmt := top 49
abbrev s_law : Stmt := top 50
structure Ad where
  f_stepped : Addr
  d_stepped : FuncData
  f_counted : Addr
  d_counted : FuncData
  f_count : Addr
  d_count : FuncData
  f_longest : Addr
  d_longest : FuncData
  f_row_of_length : Addr
  d_row_of_length : FuncData
  f_row_numbered : Addr
  d_row_numbered : FuncData
  f_number_of : Addr
  d_number_of : FuncData
  f_power : Addr
  d_power : FuncData
  f_bit_of : Addr
  d_bit_of : FuncData
  f_width_of : Addr
  d_width_of : FuncData
  f_turned : Addr
  d_turned : FuncData
  f_first_gate : Addr
  d_first_gate : FuncData
  f_roots : Addr
  d_roots : FuncData
  f_used : Addr
  d_used : FuncData
  f_moved : Addr
  d_moved : FuncData
  f_trimmed : Addr
  d_trimmed : FuncData
  f_literal_value : Addr
  d_literal_value : FuncData
  f_node_values : Addr
  d_node_values : FuncData
  f_begun : Addr
  d_begun : FuncData
  f_clocked : Addr
  d_clocked : FuncData
  f_run : Addr
  d_run : FuncData
  f_Builder___init__ : Addr
  d_Builder___init__ : FuncData
  f_Builder_first : Addr
  d_Builder_first : FuncData
  f_Builder_conj : Addr
  d_Builder_conj : FuncData
  f_Builder_disj : Addr
  d_Builder_disj : FuncData
  f_Builder_net : Addr
  d_Builder_net : FuncData
  f_sign_names : Addr
  d_sign_names : FuncData
  f_line_names : Addr
  d_line_names : FuncData
  f_Making___init__ : Addr
  d_Making___init__ : FuncData
  f_Making_coded : Addr
  d_Making_coded : FuncData
  f_Making_one_of : Addr
  d_Making_one_of : FuncData
  f_Making_machine : Addr
  d_Making_machine : FuncData
  f_net_of : Addr
  d_net_of : FuncData
  f__law_flat : Addr
  d__law_flat : FuncData
  f__law_next : Addr
  d__law_next : FuncData
  f__law_same : Addr
  d__law_same : FuncData
  f__law_least : Addr
  d__law_least : FuncData
  f__law_machine : Addr
  d__law_machine : FuncData
  f__law_behind : Addr
  d__law_behind : FuncData
  f__law_passes : Addr
  d__law_passes : FuncData
  f__law_bits : Addr
  d__law_bits : FuncData
  f__law_wide : Addr
  d__law_wide : FuncData
  f__law_inputs : Addr
  d__law_inputs : FuncData
  f__law_rows : Addr
  d__law_rows : FuncData
  f__law_row : Addr
  d__law_row : FuncData
  f__law_signs : Addr
  d__law_signs : FuncData
  f__law_told : Addr
  d__law_told : FuncData
  f_law : Addr
  d_law : FuncData
  c_Builder : Addr
  c_Making : Addr
structure Tx (K : PySem.W.Frag) (mg : Str → Option Value) (a : Ad) : Prop where
  F_stepped : Fun K "stepped" "stepped" s_stepped a.f_stepped a.d_stepped
  d_stepped : Binds K a.d_stepped ["machine", "counts"] []
  g_stepped : mg "stepped" = some (.ref a.f_stepped)
  F_counted : Fun K "counted" "counted" s_counted a.f_counted a.d_counted
  d_counted : Binds K a.d_counted ["machine", "length"] []
  g_counted : mg "counted" = some (.ref a.f_counted)
  F_count : Fun K "count" "count" s_count a.f_count a.d_count
  d_count : Binds K a.d_count ["machine", "length"] []
  g_count : mg "count" = some (.ref a.f_count)
  F_longest : Fun K "longest" "longest" s_longest a.f_longest a.d_longest
  d_longest : Binds K a.d_longest ["machine"] []
  g_longest : mg "longest" = some (.ref a.f_longest)
  F_row_of_length : Fun K "row_of_length" "row_of_length" s_row_of_length a.f_row_of_length a.d_row_of_length
  d_row_of_length : Binds K a.d_row_of_length ["machine", "signs", "length", "number"] []
  g_row_of_length : mg "row_of_length" = some (.ref a.f_row_of_length)
  F_row_numbered : Fun K "row_numbered" "row_numbered" s_row_numbered a.f_row_numbered a.d_row_numbered
  d_row_numbered : Binds K a.d_row_numbered ["machine", "signs", "number"] []
  g_row_numbered : mg "row_numbered" = some (.ref a.f_row_numbered)
  F_number_of : Fun K "number_of" "number_of" s_number_of a.f_number_of a.d_number_of
  d_number_of : Binds K a.d_number_of ["machine", "signs", "row"] []
  g_number_of : mg "number_of" = some (.ref a.f_number_of)
  F_power : Fun K "power" "power" s_power a.f_power a.d_power
  d_power : Binds K a.d_power ["number"] []
  g_power : mg "power" = some (.ref a.f_power)
  F_bit_of : Fun K "bit_of" "bit_of" s_bit_of a.f_bit_of a.d_bit_of
  d_bit_of : Binds K a.d_bit_of ["value", "place"] []
  g_bit_of : mg "bit_of" = some (.ref a.f_bit_of)
  F_width_of : Fun K "width_of" "width_of" s_width_of a.f_width_of a.d_width_of
  d_width_of : Binds K a.d_width_of ["value"] []
  g_width_of : mg "width_of" = some (.ref a.f_width_of)
  F_turned : Fun K "turned" "turned" s_turned a.f_turned a.d_turned
  d_turned : Binds K a.d_turned ["literal"] []
  g_turned : mg "turned" = some (.ref a.f_turned)
  F_first_gate : Fun K "first_gate" "first_gate" s_first_gate a.f_first_gate a.d_first_gate
  d_first_gate : Binds K a.d_first_gate ["net"] []
  g_first_gate : mg "first_gate" = some (.ref a.f_first_gate)
  F_roots : Fun K "roots" "roots" s_roots a.f_roots a.d_roots
  d_roots : Binds K a.d_roots ["net"] []
  g_roots : mg "roots" = some (.ref a.f_roots)
  F_used : Fun K "used" "used" s_used a.f_used a.d_used
  d_used : Binds K a.d_used ["net"] []
  g_used : mg "used" = some (.ref a.f_used)
  F_moved : Fun K "moved" "moved" s_moved a.f_moved a.d_moved
  d_moved : Binds K a.d_moved ["literal", "numbers"] []
  g_moved : mg "moved" = some (.ref a.f_moved)
  F_trimmed : Fun K "trimmed" "trimmed" s_trimmed a.f_trimmed a.d_trimmed
  d_trimmed : Binds K a.d_trimmed ["net"] []
  g_trimmed : mg "trimmed" = some (.ref a.f_trimmed)
  F_literal_value : Fun K "literal_value" "literal_value" s_literal_value a.f_literal_value a.d_literal_value
  d_literal_value : Binds K a.d_literal_value ["values", "literal"] []
  g_literal_value : mg "literal_value" = some (.ref a.f_literal_value)
  F_node_values : Fun K "node_values" "node_values" s_node_values a.f_node_values a.d_node_values
  d_node_values : Binds K a.d_node_values ["net", "inputs", "state"] []
  g_node_values : mg "node_values" = some (.ref a.f_node_values)
  F_begun : Fun K "begun" "begun" s_begun a.f_begun a.d_begun
  d_begun : Binds K a.d_begun ["net"] []
  g_begun : mg "begun" = some (.ref a.f_begun)
  F_clocked : Fun K "clocked" "clocked" s_clocked a.f_clocked a.d_clocked
  d_clocked : Binds K a.d_clocked ["net", "inputs", "state"] []
  g_clocked : mg "clocked" = some (.ref a.f_clocked)
  F_run : Fun K "run" "run" s_run a.f_run a.d_run
  d_run : Binds K a.d_run ["net", "rows"] []
  g_run : mg "run" = some (.ref a.f_run)
  F_Builder___init__ : Fun K "__init__" "Builder.__init__" s_Builder___init__ a.f_Builder___init__ a.d_Builder___init__
  d_Builder___init__ : Binds K a.d_Builder___init__ ["self", "inputs", "registers"] []
  F_Builder_first : Fun K "first" "Builder.first" s_Builder_first a.f_Builder_first a.d_Builder_first
  d_Builder_first : Binds K a.d_Builder_first ["self"] []
  m_Builder_first : Meth K a.c_Builder "first" a.f_Builder_first
  F_Builder_conj : Fun K "conj" "Builder.conj" s_Builder_conj a.f_Builder_conj a.d_Builder_conj
  d_Builder_conj : Binds K a.d_Builder_conj ["self", "one", "two"] []
  m_Builder_conj : Meth K a.c_Builder "conj" a.f_Builder_conj
  F_Builder_disj : Fun K "disj" "Builder.disj" s_Builder_disj a.f_Builder_disj a.d_Builder_disj
  d_Builder_disj : Binds K a.d_Builder_disj ["self", "one", "two"] []
  m_Builder_disj : Meth K a.c_Builder "disj" a.f_Builder_disj
  F_Builder_net : Fun K "net" "Builder.net" s_Builder_net a.f_Builder_net a.d_Builder_net
  d_Builder_net : Binds K a.d_Builder_net ["self", "outputs", "nexts"] []
  m_Builder_net : Meth K a.c_Builder "net" a.f_Builder_net
  F_sign_names : Fun K "sign_names" "sign_names" s_sign_names a.f_sign_names a.d_sign_names
  d_sign_names : Binds K a.d_sign_names ["signs"] []
  g_sign_names : mg "sign_names" = some (.ref a.f_sign_names)
  F_line_names : Fun K "line_names" "line_names" s_line_names a.f_line_names a.d_line_names
  d_line_names : Binds K a.d_line_names ["machine", "name"] []
  g_line_names : mg "line_names" = some (.ref a.f_line_names)
  F_Making___init__ : Fun K "__init__" "Making.__init__" s_Making___init__ a.f_Making___init__ a.d_Making___init__
  d_Making___init__ : Binds K a.d_Making___init__ ["self", "machines", "names", "signs"] []
  F_Making_coded : Fun K "coded" "Making.coded" s_Making_coded a.f_Making_coded a.d_Making_coded
  d_Making_coded : Binds K a.d_Making_coded ["self", "names", "number"] []
  m_Making_coded : Meth K a.c_Making "coded" a.f_Making_coded
  F_Making_one_of : Fun K "one_of" "Making.one_of" s_Making_one_of a.f_Making_one_of a.d_Making_one_of
  d_Making_one_of : Binds K a.d_Making_one_of ["self", "literals"] []
  m_Making_one_of : Meth K a.c_Making "one_of" a.f_Making_one_of
  F_Making_machine : Fun K "machine" "Making.machine" s_Making_machine a.f_Making_machine a.d_Making_machine
  d_Making_machine : Binds K a.d_Making_machine ["self", "machine", "name"] []
  m_Making_machine : Meth K a.c_Making "machine" a.f_Making_machine
  F_net_of : Fun K "net_of" "net_of" s_net_of a.f_net_of a.d_net_of
  d_net_of : Binds K a.d_net_of ["machine", "signs"] []
  g_net_of : mg "net_of" = some (.ref a.f_net_of)
  F__law_flat : Fun K "_law_flat" "_law_flat" s__law_flat a.f__law_flat a.d__law_flat
  d__law_flat : Binds K a.d__law_flat ["rows"] []
  g__law_flat : mg "_law_flat" = some (.ref a.f__law_flat)
  F__law_next : Fun K "_law_next" "_law_next" s__law_next a.f__law_next a.d__law_next
  d__law_next : Binds K a.d__law_next ["state", "limit"] []
  g__law_next : mg "_law_next" = some (.ref a.f__law_next)
  F__law_same : Fun K "_law_same" "_law_same" s__law_same a.f__law_same a.d__law_same
  d__law_same : Binds K a.d__law_same ["actual", "expected"] []
  g__law_same : mg "_law_same" = some (.ref a.f__law_same)
  F__law_least : Fun K "_law_least" "_law_least" s__law_least a.f__law_least a.d__law_least
  d__law_least : Binds K a.d__law_least ["machine"] []
  g__law_least : mg "_law_least" = some (.ref a.f__law_least)
  F__law_machine : Fun K "_law_machine" "_law_machine" s__law_machine a.f__law_machine a.d__law_machine
  d__law_machine : Binds K a.d__law_machine ["state", "signs", "most"] []
  g__law_machine : mg "_law_machine" = some (.ref a.f__law_machine)
  F__law_behind : Fun K "_law_behind" "_law_behind" s__law_behind a.f__law_behind a.d__law_behind
  d__law_behind : Binds K a.d__law_behind ["machine", "signs", "line", "row"] []
  g__law_behind : mg "_law_behind" = some (.ref a.f__law_behind)
  F__law_passes : Fun K "_law_passes" "_law_passes" s__law_passes a.f__law_passes a.d__law_passes
  d__law_passes : Binds K a.d__law_passes ["machine", "signs", "row"] []
  g__law_passes : mg "_law_passes" = some (.ref a.f__law_passes)
  F__law_bits : Fun K "_law_bits" "_law_bits" s__law_bits a.f__law_bits a.d__law_bits
  d__law_bits : Binds K a.d__law_bits ["number", "many"] []
  g__law_bits : mg "_law_bits" = some (.ref a.f__law_bits)
  F__law_wide : Fun K "_law_wide" "_law_wide" s__law_wide a.f__law_wide a.d__law_wide
  d__law_wide : Binds K a.d__law_wide ["many"] []
  g__law_wide : mg "_law_wide" = some (.ref a.f__law_wide)
  F__law_inputs : Fun K "_law_inputs" "_law_inputs" s__law_inputs a.f__law_inputs a.d__law_inputs
  d__law_inputs : Binds K a.d__law_inputs ["signs", "row"] []
  g__law_inputs : mg "_law_inputs" = some (.ref a.f__law_inputs)
  F__law_rows : Fun K "_law_rows" "_law_rows" s__law_rows a.f__law_rows a.d__law_rows
  d__law_rows : Binds K a.d__law_rows ["signs", "most"] []
  g__law_rows : mg "_law_rows" = some (.ref a.f__law_rows)
  F__law_row : Fun K "_law_row" "_law_row" s__law_row a.f__law_row a.d__law_row
  d__law_row : Binds K a.d__law_row ["state", "signs", "most"] []
  g__law_row : mg "_law_row" = some (.ref a.f__law_row)
  F__law_signs : Fun K "_law_signs" "_law_signs" s__law_signs a.f__law_signs a.d__law_signs
  d__law_signs : Binds K a.d__law_signs ["state"] []
  g__law_signs : mg "_law_signs" = some (.ref a.f__law_signs)
  F__law_told : Fun K "_law_told" "_law_told" s__law_told a.f__law_told a.d__law_told
  d__law_told : Binds K a.d__law_told ["net", "signs", "row"] []
  g__law_told : mg "_law_told" = some (.ref a.f__law_told)
  F_law : Fun K "law" "law" s_law a.f_law a.d_law
  d_law : Binds K a.d_law ["script"] []
  g_law : mg "law" = some (.ref a.f_law)
  cl_Builder : Cls K a.c_Builder
  mk_Builder : Mk K a.c_Builder a.f_Builder___init__
  gc_Builder : mg "Builder" = some (.ref a.c_Builder)
  cl_Making : Cls K a.c_Making
  mk_Making : Mk K a.c_Making a.f_Making___init__
  gc_Making : mg "Making" = some (.ref a.c_Making)
  n_Builder_gates : NoAttr K a.c_Builder "gates"
  n_Builder_inputs : NoAttr K a.c_Builder "inputs"
  n_Builder_known : NoAttr K a.c_Builder "known"
  n_Builder_literals : NoAttr K a.c_Builder "literals"
  n_Builder_registers : NoAttr K a.c_Builder "registers"
  n_Making_builder : NoAttr K a.c_Making "builder"
  n_Making_signs : NoAttr K a.c_Making "signs"
  b_bool : mg "bool" = none
  b_enumerate : mg "enumerate" = none
  b_int : mg "int" = none
  b_isinstance : mg "isinstance" = none
  b_len : mg "len" = none
  b_list : mg "list" = none
  b_max : mg "max" = none
  b_min : mg "min" = none
  b_range : mg "range" = none
  b_set : mg "set" = none
  b_sorted : mg "sorted" = none
  b_str : mg "str" = none
  b_sum : mg "sum" = none
  b_tuple : mg "tuple" = none
  b_zip : mg "zip" = none
theorem fg_Builder_5_inputs (P0 P1 P2 P3 P4 : TV) : fget [("inputs", P0), ("registers", P1), ("gates", P2), ("known", P3), ("literals", P4)] "inputs" = some P0 := by
  rw [fget_eq]
theorem fg_Builder_5_literals (P0 P1 P2 P3 P4 : TV) : fget [("inputs", P0), ("registers", P1), ("gates", P2), ("known", P3), ("literals", P4)] "literals" = some P4 := by
  rw [fget_ne (by decide +kernel), fget_ne (by decide +kernel), fget_ne (by decide +kernel), fget_ne (by decide +kernel), fget_eq]
theorem fg_Builder_5_registers (P0 P1 P2 P3 P4 : TV) : fget [("inputs", P0), ("registers", P1), ("gates", P2), ("known", P3), ("literals", P4)] "registers" = some P1 := by
  rw [fget_ne (by decide +kernel), fget_eq]
theorem fp_Builder_5_literals (P0 P1 P2 P3 P4 Q : TV) : fput "literals" Q [("inputs", P0), ("registers", P1), ("gates", P2), ("known", P3), ("literals", P4)] = ([("inputs", P0), ("registers", P1), ("gates", P2), ("known", P3), ("literals", Q)] : List (Str × TV)) := by
  rw [fput_ne (by decide +kernel), fput_ne (by decide +kernel), fput_ne (by decide +kernel), fput_ne (by decide +kernel), fput_eq]
theorem fp_Builder_4_literals (P0 P1 P2 P3 Q : TV) : fput "literals" Q [("inputs", P0), ("registers", P1), ("gates", P2), ("known", P3)] = ([("inputs", P0), ("registers", P1), ("gates", P2), ("known", P3), ("literals", Q)] : List (Str × TV)) := by
  rw [fput_ne (by decide +kernel), fput_ne (by decide +kernel), fput_ne (by decide +kernel), fput_ne (by decide +kernel), fput_nil]
theorem fp_Builder_3_known (P0 P1 P2 Q : TV) : fput "known" Q [("inputs", P0), ("registers", P1), ("gates", P2)] = ([("inputs", P0), ("registers", P1), ("gates", P2), ("known", Q)] : List (Str × TV)) := by
  rw [fput_ne (by decide +kernel), fput_ne (by decide +kernel), fput_ne (by decide +kernel), fput_nil]
theorem fp_Builder_2_gates (P0 P1 Q : TV) : fput "gates" Q [("inputs", P0), ("registers", P1)] = ([("inputs", P0), ("registers", P1), ("gates", Q)] : List (Str × TV)) := by
  rw [fput_ne (by decide +kernel), fput_ne (by decide +kernel), fput_nil]
theorem fp_Builder_1_registers (P0 Q : TV) : fput "registers" Q [("inputs", P0)] = ([("inputs", P0), ("registers", Q)] : List (Str × TV)) := by
  rw [fput_ne (by decide +kernel), fput_nil]
theorem fp_Builder_0_inputs ( Q : TV) : fput "inputs" Q [] = ([("inputs", Q)] : List (Str × TV)) := by
  rw [fput_nil]
theorem fg_Builder_5_known (P0 P1 P2 P3 P4 : TV) : fget [("inputs", P0), ("registers", P1), ("gates", P2), ("known", P3), ("literals", P4)] "known" = some P3 := by
  rw [fget_ne (by decide +kernel), fget_ne (by decide +kernel), fget_ne (by decide +kernel), fget_eq]
theorem fn_Builder_5_first (P0 P1 P2 P3 P4 : TV) : fget [("inputs", P0), ("registers", P1), ("gates", P2), ("known", P3), ("literals", P4)] "first" = none := by
  rw [fget_ne (by decide +kernel), fget_ne (by decide +kernel), fget_ne (by decide +kernel), fget_ne (by decide +kernel), fget_ne (by decide +kernel), fget_nil]
theorem fg_Builder_5_gates (P0 P1 P2 P3 P4 : TV) : fget [("inputs", P0), ("registers", P1), ("gates", P2), ("known", P3), ("literals", P4)] "gates" = some P2 := by
  rw [fget_ne (by decide +kernel), fget_ne (by decide +kernel), fget_eq]
theorem fn_Builder_5_conj (P0 P1 P2 P3 P4 : TV) : fget [("inputs", P0), ("registers", P1), ("gates", P2), ("known", P3), ("literals", P4)] "conj" = none := by
  rw [fget_ne (by decide +kernel), fget_ne (by decide +kernel), fget_ne (by decide +kernel), fget_ne (by decide +kernel), fget_ne (by decide +kernel), fget_nil]
theorem fp_Making_1_builder (P0 Q : TV) : fput "builder" Q [("signs", P0)] = ([("signs", P0), ("builder", Q)] : List (Str × TV)) := by
  rw [fput_ne (by decide +kernel), fput_nil]
theorem fp_Making_0_signs ( Q : TV) : fput "signs" Q [] = ([("signs", Q)] : List (Str × TV)) := by
  rw [fput_nil]
theorem fg_Making_2_builder (P0 P1 : TV) : fget [("signs", P0), ("builder", P1)] "builder" = some P1 := by
  rw [fget_ne (by decide +kernel), fget_eq]
theorem fn_Builder_5_disj (P0 P1 P2 P3 P4 : TV) : fget [("inputs", P0), ("registers", P1), ("gates", P2), ("known", P3), ("literals", P4)] "disj" = none := by
  rw [fget_ne (by decide +kernel), fget_ne (by decide +kernel), fget_ne (by decide +kernel), fget_ne (by decide +kernel), fget_ne (by decide +kernel), fget_nil]
theorem fn_Making_2_coded (P0 P1 : TV) : fget [("signs", P0), ("builder", P1)] "coded" = none := by
  rw [fget_ne (by decide +kernel), fget_ne (by decide +kernel), fget_nil]
theorem fg_Making_2_signs (P0 P1 : TV) : fget [("signs", P0), ("builder", P1)] "signs" = some P0 := by
  rw [fget_eq]
theorem fn_Making_2_one_of (P0 P1 : TV) : fget [("signs", P0), ("builder", P1)] "one_of" = none := by
  rw [fget_ne (by decide +kernel), fget_ne (by decide +kernel), fget_nil]
theorem fn_Making_2_machine (P0 P1 : TV) : fget [("signs", P0), ("builder", P1)] "machine" = none := by
  rw [fget_ne (by decide +kernel), fget_ne (by decide +kernel), fget_nil]
theorem fn_Builder_5_net (P0 P1 P2 P3 P4 : TV) : fget [("inputs", P0), ("registers", P1), ("gates", P2), ("known", P3), ("literals", P4)] "net" = none := by
  rw [fget_ne (by decide +kernel), fget_ne (by decide +kernel), fget_ne (by decide +kernel), fget_ne (by decide +kernel), fget_ne (by decide +kernel), fget_nil]
section
variable {P : Program} {w : World} {K : PySem.W.Frag} {mg : Str → Option Value} {base : Heap} {a : Ad}
def m_stepped (x_machine : (List (Bool × (List Int)))) (x_counts : (List Int)) : Option ((List Int)) :=
  (mapO (fun x1 : (Bool × (List Int)) => (mapO (fun x2 : Int => (atI x_counts x2).bind fun v1 => some v1) x1.2).bind fun v2 => some v2.sum) x_machine).bind fun v3 => some v3
def R_stepped (K : PySem.W.Frag) : Hp → List V → Cells → (Cells → TV → Prop) → Prop := fun G vs c W => ∃ (x_machine : (List (Bool × (List Int)))) (x_counts : (List Int)) (y : (List Int)), VsOk G [tv (rTup K (rPair K rBl (rTup K rInt))) x_machine, tv (rTup K rInt) x_counts] vs ∧ c = [] ∧ m_stepped x_machine x_counts = some y ∧ W = W1 [] (tv (rTup K rInt) y)
abbrev n_stepped : List Str := ["machine", "counts", "_", "nexts", "other"]
theorem sc_stepped : FnScope ["machine", "counts", "_", "nexts", "other"] ["machine", "counts"] (defScope s_stepped) := ⟨rfl, rfl, rfl, by decide +kernel, rfl, by decide +kernel, by decide +kernel⟩
theorem ok_stepped (T : Tx K mg a) : FnOk P w K mg base CX0 1 a.f_stepped a.d_stepped ["machine", "counts"] (spOf (R_stepped K)) := by
  refine T.F_stepped.ok sc_stepped (fun vs H Q E h => ?_) (fun cdv A outer s H vs Q E hr h => ?_)
  · obtain ⟨G, c, W, hd, ⟨x_machine, x_counts, y, hv, _⟩, hq⟩ := h
    exact hv.len
  · obtain ⟨G, c, W, hd, ⟨x_machine, x_counts, y, hv, rfl, hm, rfl⟩, hq⟩ := h
    have hu := hu_of hr
    have hu64 := hr.units
    have hu65 := units65 hr
    refine ⟨_, (pss_one (ps_ret (pe_callTy (T := "tuple") call_tuple_of (by rfl) T.b_tuple (by decide +kernel) (pa_cons (pe_lc (own := [("_", 2), ("nexts", 3)]) (wi := (iTup K (tVar 0))) (g := (gTup K 2 (gCons (gName 2) (gCons (gName 3) gNil)))) (tt := tYes) (te := (tCB (rSum K) (tCons (tLc (iTup K (tVar 3)) (gName 4) tYes (tOp (rIxT K) (tVar 1) (tVar 4)) [4]) tNil))) rfl sc_stepped.nd (pi_tup (pv 0)) (blkOk_by (by kernel_rfl)) (fun _ _ _ _ _ => (pg_tup rfl (pgs_cons (pg_name (i := 2) sc_stepped.nd (by rfl) (by first | exact Or.inl rfl | exact Or.inr rfl) (by first | exact Or.inr rfl | exact Or.inl rfl)) (pgs_cons (pg_name (i := 3) sc_stepped.nd (by rfl) (by first | exact Or.inl rfl | exact Or.inr rfl) (by first | exact Or.inr rfl | exact Or.inl rfl)) pgs_nil)))) (fun _ _ _ _ _ => pts_nil) (fun _ _ _ _ _ => (pe_callB (id := "sum") (cr_sum rfl) (by rfl) T.b_sum (by decide +kernel) (pa_cons (pe_lc (own := [("other", 4)]) (wi := (iTup K (tVar 3))) (g := (gName 4)) (tt := tYes) (te := (tOp (rIxT K) (tVar 1) (tVar 4))) rfl sc_stepped.nd (pi_tup (pv 3)) (blkOk_by (by kernel_rfl)) (fun _ _ _ _ _ => (pg_name (i := 4) sc_stepped.nd (by rfl) (by first | exact Or.inl rfl | exact Or.inr rfl) (by first | exact Or.inr rfl | exact Or.inl rfl))) (fun _ _ _ _ _ => pts_nil) (fun _ _ _ _ _ => (pe_ix ix_tup (pv 1) (pv 4) (fun _ _ => rfl)))) pa_nil)))) pa_nil)))), ?_⟩
    refine (?_ : Sv _ _ ⟨G, [], H⟩ [some (tv (rTup K (rPair K rBl (rTup K rInt))) x_machine), some (tv (rTup K rInt) x_counts), none, none, none] []) _ _ (Post.refl hd (env_start (N := n_stepped) hv))
    unfold m_stepped at hm
    obtain ⟨v3, h_v3, hm⟩ := bindS hm
    replace hm := Option.some.inj hm
    subst hm
    exact sv_ret (P := tv (rTup K rInt) v3) (c1 := []) (ev_tupL (ev_frz (en_lc (rβ := rInt) _ (fun x1 => [some (tv (rTup K (rPair K rBl (rTup K rInt))) x_machine), some (tv (rTup K rInt) x_counts), some (tv rBl x1.1), some (tv (rTup K rInt) x1.2), none]) (ei_tup (ev_var (i := 0) rfl)) (fun x1 => (pt_pair (pt_name (by decide)) (pt_name (by decide)))) (fun x1 z2 hh_z2 => by obtain ⟨v2, h_v2, hh_z2⟩ := bindS hh_z2; replace hh_z2 := Option.some.inj hh_z2; subst hh_z2; exact (ev_sum (ev_frz (en_lc (rβ := rInt) _ (fun x2 => [some (tv (rTup K (rPair K rBl (rTup K rInt))) x_machine), some (tv (rTup K rInt) x_counts), some (tv rBl x1.1), some (tv (rTup K rInt) x1.2), some (tv rInt x2)]) (ei_tup (ev_var (i := 3) rfl)) (fun x2 => (pt_name (by decide))) (fun x2 z1 hh_z1 => by obtain ⟨v1, h_v1, hh_z1⟩ := bindS hh_z1; replace hh_z1 := Option.some.inj hh_z1; subst hh_z1; exact (ev_ixT (ev_var (i := 1) rfl) (ev_var (i := 4) rfl) h_v1)) _ h_v2)))) _ h_v3))) (RT.sub (List.Sublist.refl _) (fun v G' H' ap pp => hq _ _ v G' H' ⟨rfl, rfl⟩ ap pp))
def m_counted (x_machine : (List (Bool × (List Int)))) (x_length : Int) : Option ((List Int)) :=
  (mapO (fun x1 : (Bool × (List Int)) => some (b2i' x1.1)) x_machine).bind fun v1 => (rng1O x_length).bind fun v2 => (foldO (fun (s1 : (List Int)) (x2 : Int) => (m_stepped x_machine s1).bind fun v3 => some v3) v1 v2).bind fun (s2 : (List Int)) => some s2
def R_counted (K : PySem.W.Frag) : Hp → List V → Cells → (Cells → TV → Prop) → Prop := fun G vs c W => ∃ (x_machine : (List (Bool × (List Int)))) (x_length : Int) (y : (List Int)), VsOk G [tv (rTup K (rPair K rBl (rTup K rInt))) x_machine, tv rInt x_length] vs ∧ c = [] ∧ m_counted x_machine x_length = some y ∧ W = W1 [] (tv (rTup K rInt) y)
abbrev n_counted : List Str := ["machine", "length", "counts", "_", "passing"]
theorem sc_counted : FnScope ["machine", "length", "counts", "_", "passing"] ["machine", "length"] (defScope s_counted) := ⟨rfl, rfl, rfl, by decide +kernel, rfl, by decide +kernel, by decide +kernel⟩
theorem ok_counted (T : Tx K mg a) : FnOk P w K mg base CX0 2 a.f_counted a.d_counted ["machine", "length"] (spOf (R_counted K)) := by
  refine T.F_counted.ok sc_counted (fun vs H Q E h => ?_) (fun cdv A outer s H vs Q E hr h => ?_)
  · obtain ⟨G, c, W, hd, ⟨x_machine, x_length, y, hv, _⟩, hq⟩ := h
    exact hv.len
  · obtain ⟨G, c, W, hd, ⟨x_machine, x_length, y, hv, rfl, hm, rfl⟩, hq⟩ := h
    have hu := hu_of hr
    have hu64 := hr.units
    have hu65 := units65 hr
    refine ⟨_, (pss_cons (ps_set (i := 2) sc_counted.nd (by rfl) (by first | exact Or.inl rfl | exact Or.inr rfl) (pe_callTy (T := "tuple") call_tuple_of (by rfl) T.b_tuple (by decide +kernel) (pa_cons (pe_lc (own := [("passing", 4), ("_", 3)]) (wi := (iTup K (tVar 0))) (g := (gTup K 2 (gCons (gName 4) (gCons (gName 3) gNil)))) (tt := tYes) (te := (tCB rIntC (tCons (tVar 4) tNil))) rfl sc_counted.nd (pi_tup (pv 0)) (blkOk_by (by kernel_rfl)) (fun _ _ _ _ _ => (pg_tup rfl (pgs_cons (pg_name (i := 4) sc_counted.nd (by rfl) (by first | exact Or.inl rfl | exact Or.inr rfl) (by first | exact Or.inr rfl | exact Or.inl rfl)) (pgs_cons (pg_name (i := 3) sc_counted.nd (by rfl) (by first | exact Or.inl rfl | exact Or.inr rfl) (by first | exact Or.inr rfl | exact Or.inl rfl)) pgs_nil)))) (fun _ _ _ _ _ => pts_nil) (fun _ _ _ _ _ => (pe_callTy (T := "int") call_int1 (by rfl) T.b_int (by decide +kernel) (pa_cons (pv 4) pa_nil)))) pa_nil)))
      (pss_cons (ps_for PassesOwn.never rfl (pi_range1 (by rfl) T.b_range (pa_cons (pv 1) pa_nil)) (pg_name (i := 3) sc_counted.nd (by rfl) (by first | exact Or.inl rfl | exact Or.inr rfl) (by first | exact Or.inr rfl | exact Or.inl rfl)) (pss_one (ps_set (i := 2) sc_counted.nd (by rfl) (by first | exact Or.inl rfl | exact Or.inr rfl) (pe_call (ok_stepped T) (hr.mono (by decide)) (by rfl) T.g_stepped T.F_stepped.kp T.d_stepped .nil pass0 (pa_cons (pv 0) (pa_cons (pv 2) pa_nil))))))
      (pss_one (ps_ret (pv 2))))), ?_⟩
    refine (?_ : Sv _ _ ⟨G, [], H⟩ [some (tv (rTup K (rPair K rBl (rTup K rInt))) x_machine), some (tv rInt x_length), none, none, none] []) _ _ (Post.refl hd (env_start (N := n_counted) hv))
    unfold m_counted at hm
    obtain ⟨v1, h_v1, hm⟩ := bindS hm
    refine sv_seq (sv_asg (P := tv (rTup K rInt) v1) (c1 := []) (ev_tupL (ev_frz (en_lc (rβ := rInt) _ (fun x1 => [some (tv (rTup K (rPair K rBl (rTup K rInt))) x_machine), some (tv rInt x_length), none, some (tv (rTup K rInt) x1.2), some (tv rBl x1.1)]) (ei_tup (ev_var (i := 0) rfl)) (fun x1 => (pt_pair (pt_name (by decide)) (pt_name (by decide)))) (fun x1 z1 hh_z1 => by replace hh_z1 := Option.some.inj hh_z1; subst hh_z1; exact (ev_intB (ev_var (i := 4) rfl))) _ h_v1))) ?_)
    show Im _ [some (tv (rTup K (rPair K rBl (rTup K rInt))) x_machine), some (tv rInt x_length), some (tv (rTup K rInt) v1), none, none] [] _
    refine nxq ?_
    obtain ⟨v2, h_v2, hm⟩ := bindS hm
    obtain ⟨s2, h_s2, hm⟩ := bindS hm
    refine sv_seq (sv_forO (vs := [3]) (r := rInt) _ (fun (s1 : (List Int)) => [some (tv (rTup K (rPair K rBl (rTup K rInt))) x_machine), some (tv rInt x_length), some (tv (rTup K rInt) s1), none, none]) (fun (s1 : (List Int)) => []) (fun (s1 : (List Int)) x2 => [some (tv (rTup K (rPair K rBl (rTup K rInt))) x_machine), some (tv rInt x_length), some (tv (rTup K rInt) s1), some (tv rInt x2), none]) (ei_rng1 (ev_var (i := 1) rfl) h_v2) v1 (.same (.same (.same (.lose (.lose .nil))))) (List.Sublist.refl _) (fun s1 x2 => (pt_name (by decide))) (fun s1 x2 st hb1 D' B' K1 K1' => ?_) s2 h_s2 ?_)
    · show Im _ [some (tv (rTup K (rPair K rBl (rTup K rInt))) x_machine), some (tv rInt x_length), some (tv (rTup K rInt) s1), some (tv rInt x2), none] [] _
      obtain ⟨v3, h_v3, hb1⟩ := bindS hb1
      refine (sv_asg (P := tv (rTup K rInt) v3) (c1 := []) (ev_callP (R := R_stepped K) (ea_cons (ev_var (i := 0) rfl) (ea_cons (ev_var (i := 2) rfl) ea_nil)) (fun G vs hvs => ⟨x_machine, s1, v3, hvs, rfl, h_v3, rfl⟩)) ?_)
      show Im _ [some (tv (rTup K (rPair K rBl (rTup K rInt))) x_machine), some (tv rInt x_length), some (tv (rTup K rInt) v3), some (tv rInt x2), none] [] _
      replace hb1 := Option.some.inj hb1
      subst hb1
      exact im_le (.same (.same (.same (.lose (.lose .nil))))) (im_sub (List.Sublist.refl _) K1)
    · show Im _ [some (tv (rTup K (rPair K rBl (rTup K rInt))) x_machine), some (tv rInt x_length), some (tv (rTup K rInt) s2), none, none] [] _
      refine nxq ?_
      replace hm := Option.some.inj hm
      subst hm
      exact sv_ret (P := tv (rTup K rInt) s2) (c1 := []) (ev_var (i := 2) rfl) (RT.sub (List.Sublist.refl _) (fun v G' H' ap pp => hq _ _ v G' H' ⟨rfl, rfl⟩ ap pp))
def m_count (x_machine : (List (Bool × (List Int)))) (x_length : Int) : Option (Int) :=
  (m_counted x_machine x_length).bind fun v1 => (atI v1 (0 : Int)).bind fun v2 => some v2
def R_count (K : PySem.W.Frag) : Hp → List V → Cells → (Cells → TV → Prop) → Prop := fun G vs c W => ∃ (x_machine : (List (Bool × (List Int)))) (x_length : Int) (y : Int), VsOk G [tv (rTup K (rPair K rBl (rTup K rInt))) x_machine, tv rInt x_length] vs ∧ c = [] ∧ m_count x_machine x_length = some y ∧ W = W1 [] (tv rInt y)
abbrev n_count : List Str := ["machine", "length"]
theorem sc_count : FnScope ["machine", "length"] ["machine", "length"] (defScope s_count) := ⟨rfl, rfl, rfl, by decide +kernel, rfl, by decide +kernel, by decide +kernel⟩
theorem ok_count (T : Tx K mg a) : FnOk P w K mg base CX0 3 a.f_count a.d_count ["machine", "length"] (spOf (R_count K)) := by
  refine T.F_count.ok sc_count (fun vs H Q E h => ?_) (fun cdv A outer s H vs Q E hr h => ?_)
  · obtain ⟨G, c, W, hd, ⟨x_machine, x_length, y, hv, _⟩, hq⟩ := h
    exact hv.len
  · obtain ⟨G, c, W, hd, ⟨x_machine, x_length, y, hv, rfl, hm, rfl⟩, hq⟩ := h
    have hu := hu_of hr
    have hu64 := hr.units
    have hu65 := units65 hr
    refine ⟨_, (pss_one (ps_ret (pe_ix ix_tup (pe_call (ok_counted T) (hr.mono (by decide)) (by rfl) T.g_counted T.F_counted.kp T.d_counted .nil pass0 (pa_cons (pv 0) (pa_cons (pv 1) pa_nil))) pe_int (fun _ _ => rfl)))), ?_⟩
    refine (?_ : Sv _ _ ⟨G, [], H⟩ [some (tv (rTup K (rPair K rBl (rTup K rInt))) x_machine), some (tv rInt x_length)] []) _ _ (Post.refl hd (env_start (N := n_count) hv))
    unfold m_count at hm
    obtain ⟨v1, h_v1, hm⟩ := bindS hm
    obtain ⟨v2, h_v2, hm⟩ := bindS hm
    replace hm := Option.some.inj hm
    subst hm
    exact sv_ret (P := tv rInt v2) (c1 := []) (ev_ixT (ev_callP (R := R_counted K) (ea_cons (ev_var (i := 0) rfl) (ea_cons (ev_var (i := 1) rfl) ea_nil)) (fun G vs hvs => ⟨x_machine, x_length, v1, hvs, rfl, h_v1, rfl⟩)) (ev_int (i := 0)) h_v2) (RT.sub (List.Sublist.refl _) (fun v G' H' ap pp => hq _ _ v G' H' ⟨rfl, rfl⟩ ap pp))
def m_longest (x_machine : (List (Bool × (List Int)))) : Option ((Option Int)) :=
  (some (x_machine.length : Int)).bind fun x_lengths_1 => (mulO (2 : Int) x_lengths_1).bind fun v1 => (rng1O v1).bind fun v2 => (mapO (fun x1 : Int => (m_count x_machine x1).bind fun v3 => some v3) v2).bind fun v4 => (mapO (fun x2 : Int => some (decide ((0 : Int) < x2))) (cut v4 (some x_lengths_1) none)).bind fun v5 => if (decide (true ∈ v5)) = true then some none else (rng1O x_lengths_1).bind fun v6 => (filtO (fun x3 : Int => (atI v4 x3).bind fun v7 => some (decide ((0 : Int) < v7))) (fun x3 : Int => some x3) v6).bind fun v8 => (appO ([(-(1 : Int))] : List Int) v8).bind fun v9 => (maxO v9).bind fun v10 => some (some v10)
def R_longest (K : PySem.W.Frag) : Hp → List V → Cells → (Cells → TV → Prop) → Prop := fun G vs c W => ∃ (x_machine : (List (Bool × (List Int)))) (y : (Option Int)), VsOk G [tv (rTup K (rPair K rBl (rTup K rInt))) x_machine] vs ∧ c = [] ∧ m_longest x_machine = some y ∧ W = W1 [] (tv (rOpt rInt) y)
abbrev n_longest : List Str := ["machine", "lengths", "rows", "length", "number"]
theorem sc_longest : FnScope ["machine", "lengths", "rows", "length", "number"] ["machine"] (defScope s_longest) := ⟨rfl, rfl, rfl, by decide +kernel, rfl, by decide +kernel, by decide +kernel⟩
theorem ok_longest (T : Tx K mg a) : FnOk P w K mg base CX0 4 a.f_longest a.d_longest ["machine"] (spOf (R_longest K)) := by
  refine T.F_longest.ok sc_longest (fun vs H Q E h => ?_) (fun cdv A outer s H vs Q E hr h => ?_)
  · obtain ⟨G, c, W, hd, ⟨x_machine, y, hv, _⟩, hq⟩ := h
    exact hv.len
  · obtain ⟨G, c, W, hd, ⟨x_machine, y, hv, rfl, hm, rfl⟩, hq⟩ := h
    have hu := hu_of hr
    have hu64 := hr.units
    have hu65 := units65 hr
    refine ⟨_, (pss_cons (ps_set (i := 1) sc_longest.nd (by rfl) (by first | exact Or.inl rfl | exact Or.inr rfl) (pe_callB (id := "len") k_len (by rfl) T.b_len (by decide +kernel) (pa_cons (pv 0) pa_nil)))
      (pss_cons (ps_set (i := 2) sc_longest.nd (by rfl) (by first | exact Or.inl rfl | exact Or.inr rfl) (pe_lc (own := [("length", 3)]) (wi := (iRng1 (tCons (tOp (rI CMul fun i j => .int (i * j)) (tC (.int 2)) (tVar 1)) tNil))) (g := (gName 3)) (tt := tYes) (te := (tCall (spOf (R_count K)) [] E0 (tCons (tVar 0) (tCons (tVar 3) tNil)))) rfl sc_longest.nd (pi_range1 (by rfl) T.b_range (pa_cons (pe_op op_mul pe_int (pv 1)) pa_nil)) (blkOk_by (by kernel_rfl)) (fun _ _ _ _ _ => (pg_name (i := 3) sc_longest.nd (by rfl) (by first | exact Or.inl rfl | exact Or.inr rfl) (by first | exact Or.inr rfl | exact Or.inl rfl))) (fun _ _ _ _ _ => pts_nil) (fun _ _ _ _ _ => (pe_call (ok_count T) (hr.mono (by decide)) (by rfl) T.g_count T.F_count.kp T.d_count .nil pass0 (pa_cons (pv 0) (pa_cons (pv 3) pa_nil))))))
      (pss_cons (ps_if (pt_cmpR op_in_seq pe_bl (pe_lc (own := [("number", 4)]) (wi := (iList K (tSl (rSlL K) (tVar 2) (tPart (tVar 1)) tNoPart))) (g := (gName 4)) (tt := tYes) (te := (tOp (rI0 fun i j => .bl (decide (j < i))) (tVar 4) (tC (.int 0)))) rfl sc_longest.nd (pi_list (pe_slice sl_list (pv 2) (po_some (pv 1)) po_none)) (blkOk_by (by kernel_rfl)) (fun _ _ _ _ _ => (pg_name (i := 4) sc_longest.nd (by rfl) (by first | exact Or.inl rfl | exact Or.inr rfl) (by first | exact Or.inr rfl | exact Or.inl rfl))) (fun _ _ _ _ _ => pts_nil) (fun _ _ _ _ _ => (pe_cmpR op_gt (pv 4) pe_int (nomark _)))) (by with_unfolding_all rfl)) (pss_one (ps_ret pe_non)) pss_nil)
      (pss_one (ps_ret (pe_callB (id := "max") (cr_max rfl) (by rfl) T.b_max (by decide +kernel) (pa_cons (pe_op op_cat (pe_lst (pa_cons (pe_un un_neg pe_int) pa_nil)) (pe_lc (own := [("length", 3)]) (wi := (iRng1 (tCons (tVar 1) tNil))) (g := (gName 3)) (tt := (tTest (tOp (rI0 fun i j => .bl (decide (j < i))) (tOp (rIxL K) (tVar 2) (tVar 3)) (tC (.int 0))))) (te := (tVar 3)) rfl sc_longest.nd (pi_range1 (by rfl) T.b_range (pa_cons (pv 1) pa_nil)) (blkOk_by (by kernel_rfl)) (fun _ _ _ _ _ => (pg_name (i := 3) sc_longest.nd (by rfl) (by first | exact Or.inl rfl | exact Or.inr rfl) (by first | exact Or.inr rfl | exact Or.inl rfl))) (fun _ _ _ _ _ => (pts_one (pt_cmpR op_gt (pe_ix ix_list (pv 2) (pv 3) (fun _ _ => rfl)) pe_int (nomark _)))) (fun _ _ _ _ _ => (pv 3)))) pa_nil))))))), ?_⟩
    refine (?_ : Sv _ _ ⟨G, [], H⟩ [some (tv (rTup K (rPair K rBl (rTup K rInt))) x_machine), none, none, none, none] []) _ _ (Post.refl hd (env_start (N := n_longest) hv))
    unfold m_longest at hm
    obtain ⟨x_lengths_1, h_x_lengths_1, hm⟩ := bindS hm
    refine sv_seq (sv_asg (P := tv rInt x_lengths_1) (c1 := []) (Ev.to (ev_lenT (ev_var (i := 0) rfl)) (Option.some.inj h_x_lengths_1)) ?_)
    show Im _ [some (tv (rTup K (rPair K rBl (rTup K rInt))) x_machine), some (tv rInt x_lengths_1), none, none, none] [] _
    refine nxq ?_
    obtain ⟨v1, h_v1, hm⟩ := bindS hm
    obtain ⟨v2, h_v2, hm⟩ := bindS hm
    obtain ⟨v4, h_v4, hm⟩ := bindS hm
    refine sv_seq (sv_asg (P := tv (rLst rInt) v4) (c1 := []) (ev_frz (en_lc (rβ := rInt) _ (fun x1 => [some (tv (rTup K (rPair K rBl (rTup K rInt))) x_machine), some (tv rInt x_lengths_1), none, some (tv rInt x1), none]) (ei_rng1 (ev_mul (ev_int (i := 2)) (ev_var (i := 1) rfl) h_v1) h_v2) (fun x1 => (pt_name (by decide))) (fun x1 z1 hh_z1 => by obtain ⟨v3, h_v3, hh_z1⟩ := bindS hh_z1; replace hh_z1 := Option.some.inj hh_z1; subst hh_z1; exact (ev_callP (R := R_count K) (ea_cons (ev_var (i := 0) rfl) (ea_cons (ev_var (i := 3) rfl) ea_nil)) (fun G vs hvs => ⟨x_machine, x1, v3, hvs, rfl, h_v3, rfl⟩))) _ h_v4)) ?_)
    show Im _ [some (tv (rTup K (rPair K rBl (rTup K rInt))) x_machine), some (tv rInt x_lengths_1), some (tv (rLst rInt) v4), none, none] [] _
    refine nxq ?_
    obtain ⟨v5, h_v5, hm⟩ := bindS hm
    refine sv_seq (sv_if (et_test (ev_inL fBl ev_bl (ev_frz (en_lc (rβ := rBl) _ (fun x2 => [some (tv (rTup K (rPair K rBl (rTup K rInt))) x_machine), some (tv rInt x_lengths_1), some (tv (rLst rInt) v4), none, some (tv rInt x2)]) (ei_lst (ev_slL (ev_var (i := 2) rfl) (eo_some (ev_var (i := 1) rfl)) eo_none)) (fun x2 => (pt_name (by decide))) (fun x2 z2 hh_z2 => by replace hh_z2 := Option.some.inj hh_z2; subst hh_z2; exact (ev_gt (ev_var (i := 4) rfl) (ev_int (i := 0)))) _ h_v5)))) (fun hb => ?_) (fun hb => ?_))
    · rw [if_pos hb] at hm
      replace hm := Option.some.inj hm
      subst hm
      exact sv_ret (P := tv (rOpt rInt) none) (c1 := []) ev_none (RT.sub (List.Sublist.refl _) (fun v G' H' ap pp => hq _ _ v G' H' ⟨rfl, rfl⟩ ap pp))
    · rw [if_neg (nt hb)] at hm
      refine sv_next ?_
      refine nxq ?_
      obtain ⟨v6, h_v6, hm⟩ := bindS hm
      obtain ⟨v8, h_v8, hm⟩ := bindS hm
      obtain ⟨v9, h_v9, hm⟩ := bindS hm
      obtain ⟨v10, h_v10, hm⟩ := bindS hm
      replace hm := Option.some.inj hm
      subst hm
      exact sv_ret (P := tv (rOpt rInt) (some v10)) (c1 := []) (ev_some (ev_maxL (ev_catL (ev_frz (en_lst (rα := rInt) (xs := [(-(1 : Int))]) (ea_cons (ev_neg (ev_int (i := 1))) ea_nil) (by show 1 ≤ sizeLine; decide))) (ev_frz (en_lcF (rβ := rInt) _ _ (fun x3 => [some (tv (rTup K (rPair K rBl (rTup K rInt))) x_machine), some (tv rInt x_lengths_1), some (tv (rLst rInt) v4), some (tv rInt x3), none]) (ei_rng1 (ev_var (i := 1) rfl) h_v6) (fun x3 => (pt_name (by decide))) (fun x3 z3 hh_z3 => by obtain ⟨v7, h_v7, hh_z3⟩ := bindS hh_z3; replace hh_z3 := Option.some.inj hh_z3; subst hh_z3; exact (et_test (ev_gt (ev_ixL (ev_var (i := 2) rfl) (ev_var (i := 3) rfl) h_v7) (ev_int (i := 0))))) (fun x3 z4 hh_z4 => by replace hh_z4 := Option.some.inj hh_z4; subst hh_z4; exact (ev_var (i := 3) rfl)) _ h_v8)) h_v9) h_v10)) (RT.sub (List.Sublist.refl _) (fun v G' H' ap pp => hq _ _ v G' H' ⟨rfl, rfl⟩ ap pp))
def m_row_of_length (x_machine : (List (Bool × (List Int)))) (x_signs : (List Nat)) (x_length : Int) (x_number : Int) : Option ((List Nat)) :=
  (some ([] : List Nat)).bind fun x_row_1 => (some (0 : Int)).bind fun x_line_1 => (rng1O x_length).bind fun v1 => (foldB (ρ := (List Nat)) (fun (s1 : Int × (List Nat) × Int) (x1 : Int) => (m_counted x_machine ((x_length - x1) - (1 : Int))).bind fun v2 => (atI x_machine s1.2.2).bind fun v3 => (foldB (ρ := (List Nat)) (fun (s2 : Int × (List Nat) × Int) (x2 : ((List Nat) × Int)) => (atI v2 x2.2).bind fun v4 => if (decide (s2.1 < v4)) = true then (catO s2.2.1 x2.1).bind fun v5 => some (.bk (s2.1, v5, x2.2)) else (atI v2 x2.2).bind fun v6 => (some (s2.1 - v6)).bind fun x_number_1 => some (.nx (x_number_1, s2.2.1, s2.2.2))) (s1.1, s1.2.1, s1.2.2) ((x_signs.map fun k => [k]).zip v3.2)).bind fun s3 => Stp.go s3 (fun (s2 : Int × (List Nat) × Int) => some (.nx (s2.1, s2.2.1, s2.2.2))) (fun (y1 : (List Nat)) => none)) (x_number, x_row_1, x_line_1) v1).bind fun s4 => Stp.go s4 (fun (s1 : Int × (List Nat) × Int) => some s1.2.1) (fun (y2 : (List Nat)) => none)
def R_row_of_length (K : PySem.W.Frag) : Hp → List V → Cells → (Cells → TV → Prop) → Prop := fun G vs c W => ∃ (x_machine : (List (Bool × (List Int)))) (x_signs : (List Nat)) (x_length : Int) (x_number : Int) (y : (List Nat)), VsOk G [tv (rTup K (rPair K rBl (rTup K rInt))) x_machine, tv rStr x_signs, tv rInt x_length, tv rInt x_number] vs ∧ c = [] ∧ m_row_of_length x_machine x_signs x_length x_number = some y ∧ W = W1 [] (tv rStr y)
abbrev n_row_of_length : List Str := ["machine", "signs", "length", "number", "row", "line", "place", "counts", "sign", "other"]
theorem sc_row_of_length : FnScope ["machine", "signs", "length", "number", "row", "line", "place", "counts", "sign", "other"] ["machine", "signs", "length", "number"] (defScope s_row_of_length) := ⟨rfl, rfl, rfl, by decide +kernel, rfl, by decide +kernel, by decide +kernel⟩
theorem ok_row_of_length (T : Tx K mg a) : FnOk P w K mg base CX0 3 a.f_row_of_length a.d_row_of_length ["machine", "signs", "length", "number"] (spOf (R_row_of_length K)) := by
  refine T.F_row_of_length.ok sc_row_of_length (fun vs H Q E h => ?_) (fun cdv A outer s H vs Q E hr h => ?_)
  · obtain ⟨G, c, W, hd, ⟨x_machine, x_signs, x_length, x_number, y, hv, _⟩, hq⟩ := h
    exact hv.len
  · obtain ⟨G, c, W, hd, ⟨x_machine, x_signs, x_length, x_number, y, hv, rfl, hm, rfl⟩, hq⟩ := h
    have hu := hu_of hr
    have hu64 := hr.units
    have hu65 := units65 hr
    refine ⟨_, (pss_cons (ps_set (i := 4) sc_row_of_length.nd (by rfl) (by first | exact Or.inl rfl | exact Or.inr rfl) pe_str)
      (pss_cons (ps_set (i := 5) sc_row_of_length.nd (by rfl) (by first | exact Or.inl rfl | exact Or.inr rfl) pe_int)
      (pss_cons (ps_for PassesOwn.never rfl (pi_range1 (by rfl) T.b_range (pa_cons (pv 2) pa_nil)) (pg_name (i := 6) sc_row_of_length.nd (by rfl) (by first | exact Or.inl rfl | exact Or.inr rfl) (by first | exact Or.inr rfl | exact Or.inl rfl)) (pss_cons (ps_set (i := 7) sc_row_of_length.nd (by rfl) (by first | exact Or.inl rfl | exact Or.inr rfl) (pe_call (ok_counted T) (hr.mono (by decide)) (by rfl) T.g_counted T.F_counted.kp T.d_counted .nil pass0 (pa_cons (pv 0) (pa_cons (pe_op op_sub (pe_op op_sub (pv 2) (pv 6)) pe_int) pa_nil))))
      (pss_one (ps_for PassesOwn.never rfl (pi_zipS (by rfl) T.b_zip (pa_cons (pv 1) (pa_cons (pe_ix ix_tup (pe_ix ix_tup (pv 0) (pv 5) (fun _ _ => rfl)) pe_int (fun _ _ => rfl)) pa_nil))) (pg_tup rfl (pgs_cons (pg_name (i := 8) sc_row_of_length.nd (by rfl) (by first | exact Or.inl rfl | exact Or.inr rfl) (by first | exact Or.inr rfl | exact Or.inl rfl)) (pgs_cons (pg_name (i := 9) sc_row_of_length.nd (by rfl) (by first | exact Or.inl rfl | exact Or.inr rfl) (by first | exact Or.inr rfl | exact Or.inl rfl)) pgs_nil))) (pss_cons (ps_if (pt_cmpR op_lt (pv 3) (pe_ix ix_tup (pv 7) (pv 9) (fun _ _ => rfl)) (nomark _)) (pss_cons (ps_aug (i := 4) sc_row_of_length.nd (by rfl) (by first | exact Or.inl rfl | exact Or.inr rfl) (pv 8) ip_addS)
      (pss_cons (ps_set (i := 5) sc_row_of_length.nd (by rfl) (by first | exact Or.inl rfl | exact Or.inr rfl) (pv 9))
      (pss_one ps_break))) pss_nil)
      (pss_one (ps_aug (i := 3) sc_row_of_length.nd (by rfl) (by first | exact Or.inl rfl | exact Or.inr rfl) (pe_ix ix_tup (pv 7) (pv 9) (fun _ _ => rfl)) ip_sub)))))))
      (pss_one (ps_ret (pv 4)))))), ?_⟩
    refine (?_ : Sv _ _ ⟨G, [], H⟩ [some (tv (rTup K (rPair K rBl (rTup K rInt))) x_machine), some (tv rStr x_signs), some (tv rInt x_length), some (tv rInt x_number), none, none, none, none, none, none] []) _ _ (Post.refl hd (env_start (N := n_row_of_length) hv))
    unfold m_row_of_length at hm
    obtain ⟨x_row_1, h_x_row_1, hm⟩ := bindS hm
    refine sv_seq (sv_asg (P := tv rStr x_row_1) (c1 := []) (Ev.to (ev_str (x := []) (by decide +kernel) (by decide +kernel)) (Option.some.inj h_x_row_1)) ?_)
    show Im _ [some (tv (rTup K (rPair K rBl (rTup K rInt))) x_machine), some (tv rStr x_signs), some (tv rInt x_length), some (tv rInt x_number), some (tv rStr x_row_1), none, none, none, none, none] [] _
    refine nxq ?_
    obtain ⟨x_line_1, h_x_line_1, hm⟩ := bindS hm
    refine sv_seq (sv_asg (P := tv rInt x_line_1) (c1 := []) (Ev.to (ev_int (i := 0)) (Option.some.inj h_x_line_1)) ?_)
    show Im _ [some (tv (rTup K (rPair K rBl (rTup K rInt))) x_machine), some (tv rStr x_signs), some (tv rInt x_length), some (tv rInt x_number), some (tv rStr x_row_1), some (tv rInt x_line_1), none, none, none, none] [] _
    refine nxq ?_
    obtain ⟨v1, h_v1, hm⟩ := bindS hm
    obtain ⟨s4, h_s4, hm⟩ := bindS hm
    refine sv_seq (sv_for (vs := [6]) (r := rInt) _ (fun (s1 : Int × (List Nat) × Int) => [some (tv (rTup K (rPair K rBl (rTup K rInt))) x_machine), some (tv rStr x_signs), some (tv rInt x_length), some (tv rInt s1.1), some (tv rStr s1.2.1), some (tv rInt s1.2.2), none, none, none, none]) (fun (s1 : Int × (List Nat) × Int) => []) (fun (y : (List Nat)) => []) (fun (y : (List Nat)) => tv rStr y) (fun (s1 : Int × (List Nat) × Int) x1 => [some (tv (rTup K (rPair K rBl (rTup K rInt))) x_machine), some (tv rStr x_signs), some (tv rInt x_length), some (tv rInt s1.1), some (tv rStr s1.2.1), some (tv rInt s1.2.2), some (tv rInt x1), none, none, none]) (ei_rng1 (ev_var (i := 2) rfl) h_v1) (x_number, x_row_1, x_line_1) (.same (.same (.same (.same (.same (.same (.lose (.lose (.lose (.lose .nil)))))))))) (List.Sublist.refl _) (fun s1 x1 => (pt_name (by decide))) (fun s1 x1 st hb1 D' B' K1 => ?_) s4 h_s4 ?_ ?_ ?_)
    · show Im _ [some (tv (rTup K (rPair K rBl (rTup K rInt))) x_machine), some (tv rStr x_signs), some (tv rInt x_length), some (tv rInt s1.1), some (tv rStr s1.2.1), some (tv rInt s1.2.2), some (tv rInt x1), none, none, none] [] _
      obtain ⟨v2, h_v2, hb1⟩ := bindS hb1
      refine sv_seq (sv_asg (P := tv (rTup K rInt) v2) (c1 := []) (ev_callP (R := R_counted K) (ea_cons (ev_var (i := 0) rfl) (ea_cons (ev_sub (ev_sub (ev_var (i := 2) rfl) (ev_var (i := 6) rfl)) (ev_int (i := 1))) ea_nil)) (fun G vs hvs => ⟨x_machine, ((x_length - x1) - (1 : Int)), v2, hvs, rfl, h_v2, rfl⟩)) ?_)
      show Im _ [some (tv (rTup K (rPair K rBl (rTup K rInt))) x_machine), some (tv rStr x_signs), some (tv rInt x_length), some (tv rInt s1.1), some (tv rStr s1.2.1), some (tv rInt s1.2.2), some (tv rInt x1), some (tv (rTup K rInt) v2), none, none] [] _
      refine nxq ?_
      obtain ⟨v3, h_v3, hb1⟩ := bindS hb1
      obtain ⟨s3, h_s3, hb1⟩ := bindS hb1
      refine (sv_for (vs := [8, 9]) (r := (rPair K rStr rInt)) _ (fun (s2 : Int × (List Nat) × Int) => [some (tv (rTup K (rPair K rBl (rTup K rInt))) x_machine), some (tv rStr x_signs), some (tv rInt x_length), some (tv rInt s2.1), some (tv rStr s2.2.1), some (tv rInt s2.2.2), some (tv rInt x1), some (tv (rTup K rInt) v2), none, none]) (fun (s2 : Int × (List Nat) × Int) => []) (fun (y : (List Nat)) => []) (fun (y : (List Nat)) => tv rStr y) (fun (s2 : Int × (List Nat) × Int) x2 => [some (tv (rTup K (rPair K rBl (rTup K rInt))) x_machine), some (tv rStr x_signs), some (tv rInt x_length), some (tv rInt s2.1), some (tv rStr s2.2.1), some (tv rInt s2.2.2), some (tv rInt x1), some (tv (rTup K rInt) v2), some (tv rStr x2.1), some (tv rInt x2.2)]) (ei_zip (ev_var (i := 1) rfl) (ev_snd (ev_ixT (ev_var (i := 0) rfl) (ev_var (i := 5) rfl) h_v3) (ev_int (i := 1))) src_str src_tup) (s1.1, s1.2.1, s1.2.2) (.same (.same (.same (.same (.same (.same (.same (.same (.lose (.lose .nil)))))))))) (List.Sublist.refl _) (fun s2 x2 => (pt_pair (pt_name (by decide)) (pt_name (by decide)))) (fun s2 x2 st hb2 D' B' K2 => ?_) s3 h_s3 ?_ ?_ ?_)
      · show Im _ [some (tv (rTup K (rPair K rBl (rTup K rInt))) x_machine), some (tv rStr x_signs), some (tv rInt x_length), some (tv rInt s2.1), some (tv rStr s2.2.1), some (tv rInt s2.2.2), some (tv rInt x1), some (tv (rTup K rInt) v2), some (tv rStr x2.1), some (tv rInt x2.2)] [] _
        obtain ⟨v4, h_v4, hb2⟩ := bindS hb2
        refine sv_seq (sv_if (et_test (ev_lt (ev_var (i := 3) rfl) (ev_ixT (ev_var (i := 7) rfl) (ev_var (i := 9) rfl) h_v4))) (fun hb => ?_) (fun hb => ?_))
        · rw [if_pos hb] at hb2
          obtain ⟨v5, h_v5, hb2⟩ := bindS hb2
          refine sv_seq (sv_augS (x := s2.2.1) (y := x2.1) rfl (ev_var (i := 8) rfl) h_v5 ?_)
          show Im _ [some (tv (rTup K (rPair K rBl (rTup K rInt))) x_machine), some (tv rStr x_signs), some (tv rInt x_length), some (tv rInt s2.1), some (tv rStr v5), some (tv rInt s2.2.2), some (tv rInt x1), some (tv (rTup K rInt) v2), some (tv rStr x2.1), some (tv rInt x2.2)] [] _
          refine nxq ?_
          refine sv_seq (sv_asg (P := tv rInt x2.2) (c1 := []) (ev_var (i := 9) rfl) ?_)
          show Im _ [some (tv (rTup K (rPair K rBl (rTup K rInt))) x_machine), some (tv rStr x_signs), some (tv rInt x_length), some (tv rInt s2.1), some (tv rStr v5), some (tv rInt x2.2), some (tv rInt x1), some (tv (rTup K rInt) v2), some (tv rStr x2.1), some (tv rInt x2.2)] [] _
          refine nxq ?_
          refine sv_brk ?_
          replace hb2 := Option.some.inj hb2
          subst hb2
          exact im_le (.same (.same (.same (.same (.same (.same (.same (.same (.lose (.lose .nil)))))))))) (im_sub (List.Sublist.refl _) K2)
        · rw [if_neg (nt hb)] at hb2
          refine sv_next ?_
          refine nxq ?_
          obtain ⟨v6, h_v6, hb2⟩ := bindS hb2
          obtain ⟨x_number_1, h_x_number_1, hb2⟩ := bindS hb2
          refine (sv_augI2 (f := fun i j => i - j) (x := s2.1) (y := v6) rfl (ev_ixT (ev_var (i := 7) rfl) (ev_var (i := 9) rfl) h_v6) (Option.some.inj h_x_number_1) ?_)
          show Im _ [some (tv (rTup K (rPair K rBl (rTup K rInt))) x_machine), some (tv rStr x_signs), some (tv rInt x_length), some (tv rInt x_number_1), some (tv rStr s2.2.1), some (tv rInt s2.2.2), some (tv rInt x1), some (tv (rTup K rInt) v2), some (tv rStr x2.1), some (tv rInt x2.2)] [] _
          replace hb2 := Option.some.inj hb2
          subst hb2
          exact im_le (.same (.same (.same (.same (.same (.same (.same (.same (.lose (.lose .nil)))))))))) (im_sub (List.Sublist.refl _) K2.1)
      · intro s2 he
        replace he : s3 = .nx s2 ∨ s3 = .bk s2 := Or.inl he
        replace hb1 := go_nx hb1 he
        show Im _ [some (tv (rTup K (rPair K rBl (rTup K rInt))) x_machine), some (tv rStr x_signs), some (tv rInt x_length), some (tv rInt s2.1), some (tv rStr s2.2.1), some (tv rInt s2.2.2), some (tv rInt x1), some (tv (rTup K rInt) v2), none, none] [] _
        replace hb1 := Option.some.inj hb1
        subst hb1
        exact im_le (.same (.same (.same (.same (.same (.same (.lose (.lose (.lose (.lose .nil)))))))))) (im_sub (List.Sublist.refl _) K1.1)
      · intro s2 he
        replace he : s3 = .nx s2 ∨ s3 = .bk s2 := Or.inr he
        replace hb1 := go_nx hb1 he
        show Im _ [some (tv (rTup K (rPair K rBl (rTup K rInt))) x_machine), some (tv rStr x_signs), some (tv rInt x_length), some (tv rInt s2.1), some (tv rStr s2.2.1), some (tv rInt s2.2.2), some (tv rInt x1), some (tv (rTup K rInt) v2), none, none] [] _
        replace hb1 := Option.some.inj hb1
        subst hb1
        exact im_le (.same (.same (.same (.same (.same (.same (.lose (.lose (.lose (.lose .nil)))))))))) (im_sub (List.Sublist.refl _) K1.1)
      · intro y1 he
        replace hb1 := go_rt hb1 he
        cases hb1
    · intro s1 he
      replace he : s4 = .nx s1 ∨ s4 = .bk s1 := Or.inl he
      replace hm := go_nx hm he
      show Im _ [some (tv (rTup K (rPair K rBl (rTup K rInt))) x_machine), some (tv rStr x_signs), some (tv rInt x_length), some (tv rInt s1.1), some (tv rStr s1.2.1), some (tv rInt s1.2.2), none, none, none, none] [] _
      refine nxq ?_
      replace hm := Option.some.inj hm
      subst hm
      exact sv_ret (P := tv rStr s1.2.1) (c1 := []) (ev_var (i := 4) rfl) (RT.sub (List.Sublist.refl _) (fun v G' H' ap pp => hq _ _ v G' H' ⟨rfl, rfl⟩ ap pp))
    · intro s1 he
      replace he : s4 = .nx s1 ∨ s4 = .bk s1 := Or.inr he
      replace hm := go_nx hm he
      show Im _ [some (tv (rTup K (rPair K rBl (rTup K rInt))) x_machine), some (tv rStr x_signs), some (tv rInt x_length), some (tv rInt s1.1), some (tv rStr s1.2.1), some (tv rInt s1.2.2), none, none, none, none] [] _
      refine nxq ?_
      replace hm := Option.some.inj hm
      subst hm
      exact sv_ret (P := tv rStr s1.2.1) (c1 := []) (ev_var (i := 4) rfl) (RT.sub (List.Sublist.refl _) (fun v G' H' ap pp => hq _ _ v G' H' ⟨rfl, rfl⟩ ap pp))
    · intro y2 he
      replace hm := go_rt hm he
      cases hm
def m_row_numbered (x_machine : (List (Bool × (List Int)))) (x_signs : (List Nat)) (x_number : Int) : Option ((List Nat)) :=
  (m_longest x_machine).bind fun v1 => (some (0 : Int)).bind fun x_length_1 => (whileB (ρ := (List Nat)) (fun (s1 : Int × Int) => (orO (Option.isNone v1) ((v1).bind fun y1 => some (decide (s1.1 ≤ y1)))).bind fun v2 => some v2) (fun (s1 : Int × Int) => (m_count x_machine s1.1).bind fun v3 => if (decide (s1.2 < v3)) = true then (m_row_of_length x_machine x_signs s1.1 s1.2).bind fun v4 => some (.rt v4) else (some (s1.2 - v3)).bind fun x_left_1 => (some (s1.1 + (1 : Int))).bind fun x_length_2 => some (.nx (x_length_2, x_left_1))) 4096 (x_length_1, x_number)).bind fun s2 => Stp.go s2 (fun (s1 : Int × Int) => none) (fun (y2 : (List Nat)) => some y2)
def R_row_numbered (K : PySem.W.Frag) : Hp → List V → Cells → (Cells → TV → Prop) → Prop := fun G vs c W => ∃ (x_machine : (List (Bool × (List Int)))) (x_signs : (List Nat)) (x_number : Int) (y : (List Nat)), VsOk G [tv (rTup K (rPair K rBl (rTup K rInt))) x_machine, tv rStr x_signs, tv rInt x_number] vs ∧ c = [] ∧ m_row_numbered x_machine x_signs x_number = some y ∧ W = W1 [] (tv rStr y)
abbrev n_row_numbered : List Str := ["machine", "signs", "number", "last", "length", "left", "here"]
theorem sc_row_numbered : FnScope ["machine", "signs", "number", "last", "length", "left", "here"] ["machine", "signs", "number"] (defScope s_row_numbered) := ⟨rfl, rfl, rfl, by decide +kernel, rfl, by decide +kernel, by decide +kernel⟩
theorem ok_row_numbered (T : Tx K mg a) : FnOk P w K mg base CX0 5 a.f_row_numbered a.d_row_numbered ["machine", "signs", "number"] (spOf (R_row_numbered K)) := by
  refine T.F_row_numbered.ok sc_row_numbered (fun vs H Q E h => ?_) (fun cdv A outer s H vs Q E hr h => ?_)
  · obtain ⟨G, c, W, hd, ⟨x_machine, x_signs, x_number, y, hv, _⟩, hq⟩ := h
    exact hv.len
  · obtain ⟨G, c, W, hd, ⟨x_machine, x_signs, x_number, y, hv, rfl, hm, rfl⟩, hq⟩ := h
    have hu := hu_of hr
    have hu64 := hr.units
    have hu65 := units65 hr
    refine ⟨_, (pss_cons (ps_set (i := 3) sc_row_numbered.nd (by rfl) (by first | exact Or.inl rfl | exact Or.inr rfl) (pe_call (ok_longest T) (hr.mono (by decide)) (by rfl) T.g_longest T.F_longest.kp T.d_longest .nil pass0 (pa_cons (pv 0) pa_nil)))
      (pss_cons (ps_set (i := 4) sc_row_numbered.nd (by rfl) (by first | exact Or.inl rfl | exact Or.inr rfl) pe_int)
      (pss_cons (ps_set (i := 5) sc_row_numbered.nd (by rfl) (by first | exact Or.inl rfl | exact Or.inr rfl) (pv 2))
      (pss_cons (ps_while PassesOwn.never (PW.pt (pw_or (pt_cmpR k_isN (pv 3) pe_non (nomark _)) (pw_or1 (pt_cmpR op_le (pv 4) (pv 3) (nomark _))))) (pss_cons (ps_set (i := 6) sc_row_numbered.nd (by rfl) (by first | exact Or.inl rfl | exact Or.inr rfl) (pe_call (ok_count T) (hr.mono (by decide)) (by rfl) T.g_count T.F_count.kp T.d_count .nil pass0 (pa_cons (pv 0) (pa_cons (pv 4) pa_nil))))
      (pss_cons (ps_if (pt_cmpR op_lt (pv 5) (pv 6) (nomark _)) (pss_one (ps_ret (pe_call (ok_row_of_length T) (hr.mono (by decide)) (by rfl) T.g_row_of_length T.F_row_of_length.kp T.d_row_of_length .nil pass0 (pa_cons (pv 0) (pa_cons (pv 1) (pa_cons (pv 4) (pa_cons (pv 5) pa_nil))))))) pss_nil)
      (pss_cons (ps_aug (i := 5) sc_row_numbered.nd (by rfl) (by first | exact Or.inl rfl | exact Or.inr rfl) (pv 6) ip_sub)
      (pss_one (ps_aug (i := 4) sc_row_numbered.nd (by rfl) (by first | exact Or.inl rfl | exact Or.inr rfl) pe_int ip_add))))))
      (pss_one ps_never))))), ?_⟩
    refine (?_ : Sv _ _ ⟨G, [], H⟩ [some (tv (rTup K (rPair K rBl (rTup K rInt))) x_machine), some (tv rStr x_signs), some (tv rInt x_number), none, none, none, none] []) _ _ (Post.refl hd (env_start (N := n_row_numbered) hv))
    unfold m_row_numbered at hm
    obtain ⟨v1, h_v1, hm⟩ := bindS hm
    refine sv_seq (sv_asg (P := tv (rOpt rInt) v1) (c1 := []) (ev_callP (R := R_longest K) (ea_cons (ev_var (i := 0) rfl) ea_nil) (fun G vs hvs => ⟨x_machine, v1, hvs, rfl, h_v1, rfl⟩)) ?_)
    show Im _ [some (tv (rTup K (rPair K rBl (rTup K rInt))) x_machine), some (tv rStr x_signs), some (tv rInt x_number), some (tv (rOpt rInt) v1), none, none, none] [] _
    refine nxq ?_
    obtain ⟨x_length_1, h_x_length_1, hm⟩ := bindS hm
    refine sv_seq (sv_asg (P := tv rInt x_length_1) (c1 := []) (Ev.to (ev_int (i := 0)) (Option.some.inj h_x_length_1)) ?_)
    show Im _ [some (tv (rTup K (rPair K rBl (rTup K rInt))) x_machine), some (tv rStr x_signs), some (tv rInt x_number), some (tv (rOpt rInt) v1), some (tv rInt x_length_1), none, none] [] _
    refine nxq ?_
    refine sv_seq (sv_asg (P := tv rInt x_number) (c1 := []) (ev_var (i := 2) rfl) ?_)
    show Im _ [some (tv (rTup K (rPair K rBl (rTup K rInt))) x_machine), some (tv rStr x_signs), some (tv rInt x_number), some (tv (rOpt rInt) v1), some (tv rInt x_length_1), some (tv rInt x_number), none] [] _
    refine nxq ?_
    obtain ⟨s2, h_s2, hm⟩ := bindS hm
    refine sv_seq (sv_while _ _ (fun (s1 : Int × Int) => [some (tv (rTup K (rPair K rBl (rTup K rInt))) x_machine), some (tv rStr x_signs), some (tv rInt x_number), some (tv (rOpt rInt) v1), some (tv rInt s1.1), some (tv rInt s1.2), none]) (fun (s1 : Int × Int) => []) (fun (y : (List Nat)) => []) (fun (y : (List Nat)) => tv rStr y) (x_length_1, x_number) (.same (.same (.same (.same (.same (.same (.lose .nil))))))) (List.Sublist.refl _) (fun s1 z2 hh_z2 => by obtain ⟨v2, h_v2, hh_z2⟩ := bindS hh_z2; replace hh_z2 := Option.some.inj hh_z2; subst hh_z2; exact (et_orO (et_test (ev_isN nn_int (ev_var (i := 3) rfl))) (fun z1 hh_z1 => by obtain ⟨y1, e_y1, hh_z1⟩ := bindS hh_z1; replace hh_z1 := Option.some.inj hh_z1; subst hh_z1; exact (et_test (ev_le (ev_var (i := 4) rfl) (ev_get (ev_var (i := 3) rfl) e_y1)))) h_v2)) (fun s1 st hx_s1 hb1 D' B' K1 => ?_) 4096 s2 h_s2 ?_ ?_ ?_)
    · show Im _ [some (tv (rTup K (rPair K rBl (rTup K rInt))) x_machine), some (tv rStr x_signs), some (tv rInt x_number), some (tv (rOpt rInt) v1), some (tv rInt s1.1), some (tv rInt s1.2), none] [] _
      obtain ⟨v3, h_v3, hb1⟩ := bindS hb1
      refine sv_seq (sv_asg (P := tv rInt v3) (c1 := []) (ev_callP (R := R_count K) (ea_cons (ev_var (i := 0) rfl) (ea_cons (ev_var (i := 4) rfl) ea_nil)) (fun G vs hvs => ⟨x_machine, s1.1, v3, hvs, rfl, h_v3, rfl⟩)) ?_)
      show Im _ [some (tv (rTup K (rPair K rBl (rTup K rInt))) x_machine), some (tv rStr x_signs), some (tv rInt x_number), some (tv (rOpt rInt) v1), some (tv rInt s1.1), some (tv rInt s1.2), some (tv rInt v3)] [] _
      refine nxq ?_
      refine sv_seq (sv_if (et_test (ev_lt (ev_var (i := 5) rfl) (ev_var (i := 6) rfl))) (fun hb => ?_) (fun hb => ?_))
      · rw [if_pos hb] at hb1
        obtain ⟨v4, h_v4, hb1⟩ := bindS hb1
        replace hb1 := Option.some.inj hb1
        subst hb1
        exact sv_ret (P := tv rStr v4) (c1 := []) (ev_callP (R := R_row_of_length K) (ea_cons (ev_var (i := 0) rfl) (ea_cons (ev_var (i := 1) rfl) (ea_cons (ev_var (i := 4) rfl) (ea_cons (ev_var (i := 5) rfl) ea_nil)))) (fun G vs hvs => ⟨x_machine, x_signs, s1.1, s1.2, v4, hvs, rfl, h_v4, rfl⟩)) (RT.sub (List.Sublist.refl _) K1)
      · rw [if_neg (nt hb)] at hb1
        refine sv_next ?_
        refine nxq ?_
        obtain ⟨x_left_1, h_x_left_1, hb1⟩ := bindS hb1
        refine sv_seq (sv_augI2 (f := fun i j => i - j) (x := s1.2) (y := v3) rfl (ev_var (i := 6) rfl) (Option.some.inj h_x_left_1) ?_)
        show Im _ [some (tv (rTup K (rPair K rBl (rTup K rInt))) x_machine), some (tv rStr x_signs), some (tv rInt x_number), some (tv (rOpt rInt) v1), some (tv rInt s1.1), some (tv rInt x_left_1), some (tv rInt v3)] [] _
        refine nxq ?_
        obtain ⟨x_length_2, h_x_length_2, hb1⟩ := bindS hb1
        refine (sv_augI2 (f := fun i j => i + j) (x := s1.1) (y := (1 : Int)) rfl (ev_int (i := 1)) (Option.some.inj h_x_length_2) ?_)
        show Im _ [some (tv (rTup K (rPair K rBl (rTup K rInt))) x_machine), some (tv rStr x_signs), some (tv rInt x_number), some (tv (rOpt rInt) v1), some (tv rInt x_length_2), some (tv rInt x_left_1), some (tv rInt v3)] [] _
        replace hb1 := Option.some.inj hb1
        subst hb1
        exact im_le (.same (.same (.same (.same (.same (.same (.lose .nil))))))) (im_sub (List.Sublist.refl _) K1.1)
    · intro s1 he
      replace he : s2 = .nx s1 ∨ s2 = .bk s1 := Or.inl he
      replace hm := go_nx hm he
      show Im _ [some (tv (rTup K (rPair K rBl (rTup K rInt))) x_machine), some (tv rStr x_signs), some (tv rInt x_number), some (tv (rOpt rInt) v1), some (tv rInt s1.1), some (tv rInt s1.2), none] [] _
      refine nxq ?_
      cases hm
    · intro s1 he
      replace he : s2 = .nx s1 ∨ s2 = .bk s1 := Or.inr he
      replace hm := go_nx hm he
      show Im _ [some (tv (rTup K (rPair K rBl (rTup K rInt))) x_machine), some (tv rStr x_signs), some (tv rInt x_number), some (tv (rOpt rInt) v1), some (tv rInt s1.1), some (tv rInt s1.2), none] [] _
      refine nxq ?_
      cases hm
    · intro y2 he
      replace hm := go_rt hm he
      replace hm := Option.some.inj hm
      subst hm
      exact (fun v G' H' ap pp => hq _ _ v G' H' ⟨rfl, rfl⟩ ap pp)
def m_number_of (x_machine : (List (Bool × (List Int)))) (x_signs : (List Nat)) (x_row : (List Nat)) : Option (Int) :=
  (some (0 : Int)).bind fun x_line_1 => (rng1O (x_row.length : Int)).bind fun v1 => (mapO (fun x1 : Int => (m_count x_machine x1).bind fun v2 => some v2) v1).bind fun v3 => (foldO (fun (s1 : Int × Int) (x2 : (Int × (List Nat))) => (m_counted x_machine (((x_row.length : Int) - x2.1) - (1 : Int))).bind fun v4 => (sidxO x_signs x2.2).bind fun v5 => (atI x_machine s1.1).bind fun v6 => (mapO (fun x3 : Int => (atI v4 x3).bind fun v7 => some v7) (cut v6.2 none (some v5))).bind fun v8 => (some (s1.2 + v8.sum)).bind fun x_total_1 => (atI x_machine s1.1).bind fun v9 => (atI v9.2 v5).bind fun v10 => some (v10, x_total_1)) (x_line_1, v3.sum) (enL (x_row.map fun k => [k]))).bind fun (s2 : Int × Int) => (atI x_machine s2.1).bind fun v11 => if (!v11.1) = true then none else some s2.2
def R_number_of (K : PySem.W.Frag) : Hp → List V → Cells → (Cells → TV → Prop) → Prop := fun G vs c W => ∃ (x_machine : (List (Bool × (List Int)))) (x_signs : (List Nat)) (x_row : (List Nat)) (y : Int), VsOk G [tv (rTup K (rPair K rBl (rTup K rInt))) x_machine, tv rStr x_signs, tv rStr x_row] vs ∧ c = [] ∧ m_number_of x_machine x_signs x_row = some y ∧ W = W1 [] (tv rInt y)
abbrev n_number_of : List Str := ["machine", "signs", "row", "line", "total", "place", "sign", "counts", "index", "length", "other"]
theorem sc_number_of : FnScope ["machine", "signs", "row", "line", "total", "place", "sign", "counts", "index", "length", "other"] ["machine", "signs", "row"] (defScope s_number_of) := ⟨rfl, rfl, rfl, by decide +kernel, rfl, by decide +kernel, by decide +kernel⟩
theorem ok_number_of (T : Tx K mg a) : FnOk P w K mg base CX0 4 a.f_number_of a.d_number_of ["machine", "signs", "row"] (spOf (R_number_of K)) := by
  refine T.F_number_of.ok sc_number_of (fun vs H Q E h => ?_) (fun cdv A outer s H vs Q E hr h => ?_)
  · obtain ⟨G, c, W, hd, ⟨x_machine, x_signs, x_row, y, hv, _⟩, hq⟩ := h
    exact hv.len
  · obtain ⟨G, c, W, hd, ⟨x_machine, x_signs, x_row, y, hv, rfl, hm, rfl⟩, hq⟩ := h
    have hu := hu_of hr
    have hu64 := hr.units
    have hu65 := units65 hr
    refine ⟨_, (pss_cons (ps_set (i := 3) sc_number_of.nd (by rfl) (by first | exact Or.inl rfl | exact Or.inr rfl) pe_int)
      (pss_cons (ps_set (i := 4) sc_number_of.nd (by rfl) (by first | exact Or.inl rfl | exact Or.inr rfl) (pe_callB (id := "sum") (cr_sum rfl) (by rfl) T.b_sum (by decide +kernel) (pa_cons (pe_lc (own := [("length", 9)]) (wi := (iRng1 (tCons (tCB (TW.rLen K) (tCons (tVar 2) tNil)) tNil))) (g := (gName 9)) (tt := tYes) (te := (tCall (spOf (R_count K)) [] E0 (tCons (tVar 0) (tCons (tVar 9) tNil)))) rfl sc_number_of.nd (pi_range1 (by rfl) T.b_range (pa_cons (pe_callB (id := "len") k_len (by rfl) T.b_len (by decide +kernel) (pa_cons (pv 2) pa_nil)) pa_nil)) (blkOk_by (by kernel_rfl)) (fun _ _ _ _ _ => (pg_name (i := 9) sc_number_of.nd (by rfl) (by first | exact Or.inl rfl | exact Or.inr rfl) (by first | exact Or.inr rfl | exact Or.inl rfl))) (fun _ _ _ _ _ => pts_nil) (fun _ _ _ _ _ => (pe_call (ok_count T) (hr.mono (by decide)) (by rfl) T.g_count T.F_count.kp T.d_count .nil pass0 (pa_cons (pv 0) (pa_cons (pv 9) pa_nil))))) pa_nil)))
      (pss_cons (ps_for PassesOwn.never rfl (pi_enumS (by rfl) T.b_enumerate (pa_cons (pv 2) pa_nil)) (pg_tup rfl (pgs_cons (pg_name (i := 5) sc_number_of.nd (by rfl) (by first | exact Or.inl rfl | exact Or.inr rfl) (by first | exact Or.inr rfl | exact Or.inl rfl)) (pgs_cons (pg_name (i := 6) sc_number_of.nd (by rfl) (by first | exact Or.inl rfl | exact Or.inr rfl) (by first | exact Or.inr rfl | exact Or.inl rfl)) pgs_nil))) (pss_cons (ps_set (i := 7) sc_number_of.nd (by rfl) (by first | exact Or.inl rfl | exact Or.inr rfl) (pe_call (ok_counted T) (hr.mono (by decide)) (by rfl) T.g_counted T.F_counted.kp T.d_counted .nil pass0 (pa_cons (pv 0) (pa_cons (pe_op op_sub (pe_op op_sub (pe_callB (id := "len") k_len (by rfl) T.b_len (by decide +kernel) (pa_cons (pv 2) pa_nil)) (pv 5)) pe_int) pa_nil))))
      (pss_cons (ps_set (i := 8) sc_number_of.nd (by rfl) (by first | exact Or.inl rfl | exact Or.inr rfl) (pe_m1 PySem.F.slot_str_index PySem.F.type_str_index k_sidx (pv 1) (pv 6)))
      (pss_cons (ps_aug (i := 4) sc_number_of.nd (by rfl) (by first | exact Or.inl rfl | exact Or.inr rfl) (pe_callB (id := "sum") (cr_sum rfl) (by rfl) T.b_sum (by decide +kernel) (pa_cons (pe_lc (own := [("other", 10)]) (wi := (iTup K (tSl (rSlT' K) (tOp (rIxT K) (tOp (rIxT K) (tVar 0) (tVar 3)) (tC (.int 1))) tNoPart (tPart (tVar 8))))) (g := (gName 10)) (tt := tYes) (te := (tOp (rIxT K) (tVar 7) (tVar 10))) rfl sc_number_of.nd (pi_tup (pe_slice k_slT (pe_ix ix_tup (pe_ix ix_tup (pv 0) (pv 3) (fun _ _ => rfl)) pe_int (fun _ _ => rfl)) po_none (po_some (pv 8)))) (blkOk_by (by kernel_rfl)) (fun _ _ _ _ _ => (pg_name (i := 10) sc_number_of.nd (by rfl) (by first | exact Or.inl rfl | exact Or.inr rfl) (by first | exact Or.inr rfl | exact Or.inl rfl))) (fun _ _ _ _ _ => pts_nil) (fun _ _ _ _ _ => (pe_ix ix_tup (pv 7) (pv 10) (fun _ _ => rfl)))) pa_nil)) ip_add)
      (pss_one (ps_set (i := 3) sc_number_of.nd (by rfl) (by first | exact Or.inl rfl | exact Or.inr rfl) (pe_ix ix_tup (pe_ix ix_tup (pe_ix ix_tup (pv 0) (pv 3) (fun _ _ => rfl)) pe_int (fun _ _ => rfl)) (pv 8) (fun _ _ => rfl))))))))
      (pss_cons (ps_if (pt_not (pt_val (pe_ix ix_tup (pe_ix ix_tup (pv 0) (pv 3) (fun _ _ => rfl)) pe_int (fun _ _ => rfl)))) (pss_one ps_never) pss_nil)
      (pss_one (ps_ret (pv 4))))))), ?_⟩
    refine (?_ : Sv _ _ ⟨G, [], H⟩ [some (tv (rTup K (rPair K rBl (rTup K rInt))) x_machine), some (tv rStr x_signs), some (tv rStr x_row), none, none, none, none, none, none, none, none] []) _ _ (Post.refl hd (env_start (N := n_number_of) hv))
    unfold m_number_of at hm
    obtain ⟨x_line_1, h_x_line_1, hm⟩ := bindS hm
    refine sv_seq (sv_asg (P := tv rInt x_line_1) (c1 := []) (Ev.to (ev_int (i := 0)) (Option.some.inj h_x_line_1)) ?_)
    show Im _ [some (tv (rTup K (rPair K rBl (rTup K rInt))) x_machine), some (tv rStr x_signs), some (tv rStr x_row), some (tv rInt x_line_1), none, none, none, none, none, none, none] [] _
    refine nxq ?_
    obtain ⟨v1, h_v1, hm⟩ := bindS hm
    obtain ⟨v3, h_v3, hm⟩ := bindS hm
    refine sv_seq (sv_asg (P := tv rInt v3.sum) (c1 := []) (ev_sum (ev_frz (en_lc (rβ := rInt) _ (fun x1 => [some (tv (rTup K (rPair K rBl (rTup K rInt))) x_machine), some (tv rStr x_signs), some (tv rStr x_row), some (tv rInt x_line_1), none, none, none, none, none, some (tv rInt x1), none]) (ei_rng1 (ev_lenS (ev_var (i := 2) rfl)) h_v1) (fun x1 => (pt_name (by decide))) (fun x1 z1 hh_z1 => by obtain ⟨v2, h_v2, hh_z1⟩ := bindS hh_z1; replace hh_z1 := Option.some.inj hh_z1; subst hh_z1; exact (ev_callP (R := R_count K) (ea_cons (ev_var (i := 0) rfl) (ea_cons (ev_var (i := 9) rfl) ea_nil)) (fun G vs hvs => ⟨x_machine, x1, v2, hvs, rfl, h_v2, rfl⟩))) _ h_v3))) ?_)
    show Im _ [some (tv (rTup K (rPair K rBl (rTup K rInt))) x_machine), some (tv rStr x_signs), some (tv rStr x_row), some (tv rInt x_line_1), some (tv rInt v3.sum), none, none, none, none, none, none] [] _
    refine nxq ?_
    obtain ⟨s2, h_s2, hm⟩ := bindS hm
    refine sv_seq (sv_forO (vs := [5, 6]) (r := (rPair K rInt rStr)) _ (fun (s1 : Int × Int) => [some (tv (rTup K (rPair K rBl (rTup K rInt))) x_machine), some (tv rStr x_signs), some (tv rStr x_row), some (tv rInt s1.1), some (tv rInt s1.2), none, none, none, none, none, none]) (fun (s1 : Int × Int) => []) (fun (s1 : Int × Int) x2 => [some (tv (rTup K (rPair K rBl (rTup K rInt))) x_machine), some (tv rStr x_signs), some (tv rStr x_row), some (tv rInt s1.1), some (tv rInt s1.2), some (tv rInt x2.1), some (tv rStr x2.2), none, none, none, none]) (ei_enum (ev_var (i := 2) rfl) src_str) (x_line_1, v3.sum) (.same (.same (.same (.same (.same (.lose (.lose (.lose (.lose (.lose (.lose .nil))))))))))) (List.Sublist.refl _) (fun s1 x2 => (pt_pair (pt_name (by decide)) (pt_name (by decide)))) (fun s1 x2 st hb1 D' B' K1 K1' => ?_) s2 h_s2 ?_)
    · show Im _ [some (tv (rTup K (rPair K rBl (rTup K rInt))) x_machine), some (tv rStr x_signs), some (tv rStr x_row), some (tv rInt s1.1), some (tv rInt s1.2), some (tv rInt x2.1), some (tv rStr x2.2), none, none, none, none] [] _
      obtain ⟨v4, h_v4, hb1⟩ := bindS hb1
      refine sv_seq (sv_asg (P := tv (rTup K rInt) v4) (c1 := []) (ev_callP (R := R_counted K) (ea_cons (ev_var (i := 0) rfl) (ea_cons (ev_sub (ev_sub (ev_lenS (ev_var (i := 2) rfl)) (ev_var (i := 5) rfl)) (ev_int (i := 1))) ea_nil)) (fun G vs hvs => ⟨x_machine, (((x_row.length : Int) - x2.1) - (1 : Int)), v4, hvs, rfl, h_v4, rfl⟩)) ?_)
      show Im _ [some (tv (rTup K (rPair K rBl (rTup K rInt))) x_machine), some (tv rStr x_signs), some (tv rStr x_row), some (tv rInt s1.1), some (tv rInt s1.2), some (tv rInt x2.1), some (tv rStr x2.2), some (tv (rTup K rInt) v4), none, none, none] [] _
      refine nxq ?_
      obtain ⟨v5, h_v5, hb1⟩ := bindS hb1
      refine sv_seq (sv_asg (P := tv rInt v5) (c1 := []) (ev_sidx (ev_var (i := 1) rfl) (ev_var (i := 6) rfl) h_v5) ?_)
      show Im _ [some (tv (rTup K (rPair K rBl (rTup K rInt))) x_machine), some (tv rStr x_signs), some (tv rStr x_row), some (tv rInt s1.1), some (tv rInt s1.2), some (tv rInt x2.1), some (tv rStr x2.2), some (tv (rTup K rInt) v4), some (tv rInt v5), none, none] [] _
      refine nxq ?_
      obtain ⟨v6, h_v6, hb1⟩ := bindS hb1
      obtain ⟨v8, h_v8, hb1⟩ := bindS hb1
      obtain ⟨x_total_1, h_x_total_1, hb1⟩ := bindS hb1
      refine sv_seq (sv_augI2 (f := fun i j => i + j) (x := s1.2) (y := v8.sum) rfl (ev_sum (ev_frz (en_lc (rβ := rInt) _ (fun x3 => [some (tv (rTup K (rPair K rBl (rTup K rInt))) x_machine), some (tv rStr x_signs), some (tv rStr x_row), some (tv rInt s1.1), some (tv rInt s1.2), some (tv rInt x2.1), some (tv rStr x2.2), some (tv (rTup K rInt) v4), some (tv rInt v5), none, some (tv rInt x3)]) (ei_tup (ev_slT (ev_snd (ev_ixT (ev_var (i := 0) rfl) (ev_var (i := 3) rfl) h_v6) (ev_int (i := 1))) eo_none (eo_some (ev_var (i := 8) rfl)))) (fun x3 => (pt_name (by decide))) (fun x3 z2 hh_z2 => by obtain ⟨v7, h_v7, hh_z2⟩ := bindS hh_z2; replace hh_z2 := Option.some.inj hh_z2; subst hh_z2; exact (ev_ixT (ev_var (i := 7) rfl) (ev_var (i := 10) rfl) h_v7)) _ h_v8))) (Option.some.inj h_x_total_1) ?_)
      show Im _ [some (tv (rTup K (rPair K rBl (rTup K rInt))) x_machine), some (tv rStr x_signs), some (tv rStr x_row), some (tv rInt s1.1), some (tv rInt x_total_1), some (tv rInt x2.1), some (tv rStr x2.2), some (tv (rTup K rInt) v4), some (tv rInt v5), none, none] [] _
      refine nxq ?_
      obtain ⟨v9, h_v9, hb1⟩ := bindS hb1
      obtain ⟨v10, h_v10, hb1⟩ := bindS hb1
      refine (sv_asg (P := tv rInt v10) (c1 := []) (ev_ixT (ev_snd (ev_ixT (ev_var (i := 0) rfl) (ev_var (i := 3) rfl) h_v9) (ev_int (i := 1))) (ev_var (i := 8) rfl) h_v10) ?_)
      show Im _ [some (tv (rTup K (rPair K rBl (rTup K rInt))) x_machine), some (tv rStr x_signs), some (tv rStr x_row), some (tv rInt v10), some (tv rInt x_total_1), some (tv rInt x2.1), some (tv rStr x2.2), some (tv (rTup K rInt) v4), some (tv rInt v5), none, none] [] _
      replace hb1 := Option.some.inj hb1
      subst hb1
      exact im_le (.same (.same (.same (.same (.same (.lose (.lose (.lose (.lose (.lose (.lose .nil))))))))))) (im_sub (List.Sublist.refl _) K1)
    · show Im _ [some (tv (rTup K (rPair K rBl (rTup K rInt))) x_machine), some (tv rStr x_signs), some (tv rStr x_row), some (tv rInt s2.1), some (tv rInt s2.2), none, none, none, none, none, none] [] _
      refine nxq ?_
      obtain ⟨v11, h_v11, hm⟩ := bindS hm
      refine sv_seq (sv_if (et_not (et_B (ev_fst (ev_ixT (ev_var (i := 0) rfl) (ev_var (i := 3) rfl) h_v11) (ev_int (i := 0))))) (fun hb => ?_) (fun hb => ?_))
      · rw [if_pos hb] at hm
        cases hm
      · rw [if_neg (nt hb)] at hm
        refine sv_next ?_
        refine nxq ?_
        replace hm := Option.some.inj hm
        subst hm
        exact sv_ret (P := tv rInt s2.2) (c1 := []) (ev_var (i := 4) rfl) (RT.sub (List.Sublist.refl _) (fun v G' H' ap pp => hq _ _ v G' H' ⟨rfl, rfl⟩ ap pp))
def m_power (x_number : Int) : Option (Int) :=
  (some (1 : Int)).bind fun x_found_1 => (rng1O x_number).bind fun v1 => (foldO (fun (s1 : Int) (x1 : Int) => (mulO s1 (2 : Int)).bind fun v2 => some v2) x_found_1 v1).bind fun (s2 : Int) => some s2
def R_power (K : PySem.W.Frag) : Hp → List V → Cells → (Cells → TV → Prop) → Prop := fun G vs c W => ∃ (x_number : Int) (y : Int), VsOk G [tv rInt x_number] vs ∧ c = [] ∧ m_power x_number = some y ∧ W = W1 [] (tv rInt y)
abbrev n_power : List Str := ["number", "found", "_"]
theorem sc_power : FnScope ["number", "found", "_"] ["number"] (defScope s_power) := ⟨rfl, rfl, rfl, by decide +kernel, rfl, by decide +kernel, by decide +kernel⟩
theorem ok_power (T : Tx K mg a) : FnOk P w K mg base CX0 1 a.f_power a.d_power ["number"] (spOf (R_power K)) := by
  refine T.F_power.ok sc_power (fun vs H Q E h => ?_) (fun cdv A outer s H vs Q E hr h => ?_)
  · obtain ⟨G, c, W, hd, ⟨x_number, y, hv, _⟩, hq⟩ := h
    exact hv.len
  · obtain ⟨G, c, W, hd, ⟨x_number, y, hv, rfl, hm, rfl⟩, hq⟩ := h
    have hu := hu_of hr
    have hu64 := hr.units
    have hu65 := units65 hr
    refine ⟨_, (pss_cons (ps_set (i := 1) sc_power.nd (by rfl) (by first | exact Or.inl rfl | exact Or.inr rfl) pe_int)
      (pss_cons (ps_for PassesOwn.never rfl (pi_range1 (by rfl) T.b_range (pa_cons (pv 0) pa_nil)) (pg_name (i := 2) sc_power.nd (by rfl) (by first | exact Or.inl rfl | exact Or.inr rfl) (by first | exact Or.inr rfl | exact Or.inl rfl)) (pss_one (ps_set (i := 1) sc_power.nd (by rfl) (by first | exact Or.inl rfl | exact Or.inr rfl) (pe_op op_mul (pv 1) pe_int))))
      (pss_one (ps_ret (pv 1))))), ?_⟩
    refine (?_ : Sv _ _ ⟨G, [], H⟩ [some (tv rInt x_number), none, none] []) _ _ (Post.refl hd (env_start (N := n_power) hv))
    unfold m_power at hm
    obtain ⟨x_found_1, h_x_found_1, hm⟩ := bindS hm
    refine sv_seq (sv_asg (P := tv rInt x_found_1) (c1 := []) (Ev.to (ev_int (i := 1)) (Option.some.inj h_x_found_1)) ?_)
    show Im _ [some (tv rInt x_number), some (tv rInt x_found_1), none] [] _
    refine nxq ?_
    obtain ⟨v1, h_v1, hm⟩ := bindS hm
    obtain ⟨s2, h_s2, hm⟩ := bindS hm
    refine sv_seq (sv_forO (vs := [2]) (r := rInt) _ (fun (s1 : Int) => [some (tv rInt x_number), some (tv rInt s1), none]) (fun (s1 : Int) => []) (fun (s1 : Int) x1 => [some (tv rInt x_number), some (tv rInt s1), some (tv rInt x1)]) (ei_rng1 (ev_var (i := 0) rfl) h_v1) x_found_1 (.same (.same (.lose .nil))) (List.Sublist.refl _) (fun s1 x1 => (pt_name (by decide))) (fun s1 x1 st hb1 D' B' K1 K1' => ?_) s2 h_s2 ?_)
    · show Im _ [some (tv rInt x_number), some (tv rInt s1), some (tv rInt x1)] [] _
      obtain ⟨v2, h_v2, hb1⟩ := bindS hb1
      refine (sv_asg (P := tv rInt v2) (c1 := []) (ev_mul (ev_var (i := 1) rfl) (ev_int (i := 2)) h_v2) ?_)
      show Im _ [some (tv rInt x_number), some (tv rInt v2), some (tv rInt x1)] [] _
      replace hb1 := Option.some.inj hb1
      subst hb1
      exact im_le (.same (.same (.lose .nil))) (im_sub (List.Sublist.refl _) K1)
    · show Im _ [some (tv rInt x_number), some (tv rInt s2), none] [] _
      refine nxq ?_
      replace hm := Option.some.inj hm
      subst hm
      exact sv_ret (P := tv rInt s2) (c1 := []) (ev_var (i := 1) rfl) (RT.sub (List.Sublist.refl _) (fun v G' H' ap pp => hq _ _ v G' H' ⟨rfl, rfl⟩ ap pp))
def m_bit_of (x_value : Int) (x_place : Int) : Option (Int) :=
  (m_power x_place).bind fun v1 => (fdivO x_value v1).bind fun v2 => (modO v2 (2 : Int)).bind fun v3 => some v3
def R_bit_of (K : PySem.W.Frag) : Hp → List V → Cells → (Cells → TV → Prop) → Prop := fun G vs c W => ∃ (x_value : Int) (x_place : Int) (y : Int), VsOk G [tv rInt x_value, tv rInt x_place] vs ∧ c = [] ∧ m_bit_of x_value x_place = some y ∧ W = W1 [] (tv rInt y)
abbrev n_bit_of : List Str := ["value", "place"]
theorem sc_bit_of : FnScope ["value", "place"] ["value", "place"] (defScope s_bit_of) := ⟨rfl, rfl, rfl, by decide +kernel, rfl, by decide +kernel, by decide +kernel⟩
theorem ok_bit_of (T : Tx K mg a) : FnOk P w K mg base CX0 2 a.f_bit_of a.d_bit_of ["value", "place"] (spOf (R_bit_of K)) := by
  refine T.F_bit_of.ok sc_bit_of (fun vs H Q E h => ?_) (fun cdv A outer s H vs Q E hr h => ?_)
  · obtain ⟨G, c, W, hd, ⟨x_value, x_place, y, hv, _⟩, hq⟩ := h
    exact hv.len
  · obtain ⟨G, c, W, hd, ⟨x_value, x_place, y, hv, rfl, hm, rfl⟩, hq⟩ := h
    have hu := hu_of hr
    have hu64 := hr.units
    have hu65 := units65 hr
    refine ⟨_, (pss_one (ps_ret (pe_op op_mod (pe_op op_fdiv (pv 0) (pe_call (ok_power T) (hr.mono (by decide)) (by rfl) T.g_power T.F_power.kp T.d_power .nil pass0 (pa_cons (pv 1) pa_nil))) pe_int))), ?_⟩
    refine (?_ : Sv _ _ ⟨G, [], H⟩ [some (tv rInt x_value), some (tv rInt x_place)] []) _ _ (Post.refl hd (env_start (N := n_bit_of) hv))
    unfold m_bit_of at hm
    obtain ⟨v1, h_v1, hm⟩ := bindS hm
    obtain ⟨v2, h_v2, hm⟩ := bindS hm
    obtain ⟨v3, h_v3, hm⟩ := bindS hm
    replace hm := Option.some.inj hm
    subst hm
    exact sv_ret (P := tv rInt v3) (c1 := []) (ev_mod (ev_fdiv (ev_var (i := 0) rfl) (ev_callP (R := R_power K) (ea_cons (ev_var (i := 1) rfl) ea_nil) (fun G vs hvs => ⟨x_place, v1, hvs, rfl, h_v1, rfl⟩)) h_v2) (ev_int (i := 2)) h_v3) (RT.sub (List.Sublist.refl _) (fun v G' H' ap pp => hq _ _ v G' H' ⟨rfl, rfl⟩ ap pp))
def m_width_of (x_value : Int) : Option (Int) :=
  (some (1 : Int)).bind fun x_found_1 => (whileO (fun (s1 : Int) => (m_power s1).bind fun v1 => some (decide (v1 ≤ x_value))) (fun (s1 : Int) => (some (s1 + (1 : Int))).bind fun x_found_2 => some x_found_2) 4096 x_found_1).bind fun (s2 : Int) => some s2
def R_width_of (K : PySem.W.Frag) : Hp → List V → Cells → (Cells → TV → Prop) → Prop := fun G vs c W => ∃ (x_value : Int) (y : Int), VsOk G [tv rInt x_value] vs ∧ c = [] ∧ m_width_of x_value = some y ∧ W = W1 [] (tv rInt y)
abbrev n_width_of : List Str := ["value", "found"]
theorem sc_width_of : FnScope ["value", "found"] ["value"] (defScope s_width_of) := ⟨rfl, rfl, rfl, by decide +kernel, rfl, by decide +kernel, by decide +kernel⟩
theorem ok_width_of (T : Tx K mg a) : FnOk P w K mg base CX0 2 a.f_width_of a.d_width_of ["value"] (spOf (R_width_of K)) := by
  refine T.F_width_of.ok sc_width_of (fun vs H Q E h => ?_) (fun cdv A outer s H vs Q E hr h => ?_)
  · obtain ⟨G, c, W, hd, ⟨x_value, y, hv, _⟩, hq⟩ := h
    exact hv.len
  · obtain ⟨G, c, W, hd, ⟨x_value, y, hv, rfl, hm, rfl⟩, hq⟩ := h
    have hu := hu_of hr
    have hu64 := hr.units
    have hu65 := units65 hr
    refine ⟨_, (pss_cons (ps_set (i := 1) sc_width_of.nd (by rfl) (by first | exact Or.inl rfl | exact Or.inr rfl) pe_int)
      (pss_cons (ps_while PassesOwn.never (pt_cmpR op_le (pe_call (ok_power T) (hr.mono (by decide)) (by rfl) T.g_power T.F_power.kp T.d_power .nil pass0 (pa_cons (pv 1) pa_nil)) (pv 0) (nomark _)) (pss_one (ps_aug (i := 1) sc_width_of.nd (by rfl) (by first | exact Or.inl rfl | exact Or.inr rfl) pe_int ip_add)))
      (pss_one (ps_ret (pv 1))))), ?_⟩
    refine (?_ : Sv _ _ ⟨G, [], H⟩ [some (tv rInt x_value), none] []) _ _ (Post.refl hd (env_start (N := n_width_of) hv))
    unfold m_width_of at hm
    obtain ⟨x_found_1, h_x_found_1, hm⟩ := bindS hm
    refine sv_seq (sv_asg (P := tv rInt x_found_1) (c1 := []) (Ev.to (ev_int (i := 1)) (Option.some.inj h_x_found_1)) ?_)
    show Im _ [some (tv rInt x_value), some (tv rInt x_found_1)] [] _
    refine nxq ?_
    obtain ⟨s2, h_s2, hm⟩ := bindS hm
    refine sv_seq (sv_whileO _ _ (fun (s1 : Int) => [some (tv rInt x_value), some (tv rInt s1)]) (fun (s1 : Int) => []) x_found_1 (.same (.same .nil)) (List.Sublist.refl _) (fun s1 z1 hh_z1 => by obtain ⟨v1, h_v1, hh_z1⟩ := bindS hh_z1; replace hh_z1 := Option.some.inj hh_z1; subst hh_z1; exact (et_test (ev_le (ev_callP (R := R_power K) (ea_cons (ev_var (i := 1) rfl) ea_nil) (fun G vs hvs => ⟨s1, v1, hvs, rfl, h_v1, rfl⟩)) (ev_var (i := 0) rfl)))) (fun s1 st hx_s1 hb1 D' B' K1 K1' => ?_) 4096 s2 h_s2 ?_)
    · show Im _ [some (tv rInt x_value), some (tv rInt s1)] [] _
      obtain ⟨x_found_2, h_x_found_2, hb1⟩ := bindS hb1
      refine (sv_augI2 (f := fun i j => i + j) (x := s1) (y := (1 : Int)) rfl (ev_int (i := 1)) (Option.some.inj h_x_found_2) ?_)
      show Im _ [some (tv rInt x_value), some (tv rInt x_found_2)] [] _
      replace hb1 := Option.some.inj hb1
      subst hb1
      exact im_le (.same (.same .nil)) (im_sub (List.Sublist.refl _) K1)
    · show Im _ [some (tv rInt x_value), some (tv rInt s2)] [] _
      refine nxq ?_
      replace hm := Option.some.inj hm
      subst hm
      exact sv_ret (P := tv rInt s2) (c1 := []) (ev_var (i := 1) rfl) (RT.sub (List.Sublist.refl _) (fun v G' H' ap pp => hq _ _ v G' H' ⟨rfl, rfl⟩ ap pp))
def m_turned (x_literal : Int) : Option (Int) :=
  (modO x_literal (2 : Int)).bind fun v1 => (mulO (2 : Int) v1).bind fun v2 => some ((x_literal + (1 : Int)) - v2)
def R_turned (K : PySem.W.Frag) : Hp → List V → Cells → (Cells → TV → Prop) → Prop := fun G vs c W => ∃ (x_literal : Int) (y : Int), VsOk G [tv rInt x_literal] vs ∧ c = [] ∧ m_turned x_literal = some y ∧ W = W1 [] (tv rInt y)
abbrev n_turned : List Str := ["literal"]
theorem sc_turned : FnScope ["literal"] ["literal"] (defScope s_turned) := ⟨rfl, rfl, rfl, by decide +kernel, rfl, by decide +kernel, by decide +kernel⟩
theorem ok_turned (T : Tx K mg a) : FnOk P w K mg base CX0 1 a.f_turned a.d_turned ["literal"] (spOf (R_turned K)) := by
  refine T.F_turned.ok sc_turned (fun vs H Q E h => ?_) (fun cdv A outer s H vs Q E hr h => ?_)
  · obtain ⟨G, c, W, hd, ⟨x_literal, y, hv, _⟩, hq⟩ := h
    exact hv.len
  · obtain ⟨G, c, W, hd, ⟨x_literal, y, hv, rfl, hm, rfl⟩, hq⟩ := h
    have hu := hu_of hr
    have hu64 := hr.units
    have hu65 := units65 hr
    refine ⟨_, (pss_one (ps_ret (pe_op op_sub (pe_op op_add (pv 0) pe_int) (pe_op op_mul pe_int (pe_op op_mod (pv 0) pe_int))))), ?_⟩
    refine (?_ : Sv _ _ ⟨G, [], H⟩ [some (tv rInt x_literal)] []) _ _ (Post.refl hd (env_start (N := n_turned) hv))
    unfold m_turned at hm
    obtain ⟨v1, h_v1, hm⟩ := bindS hm
    obtain ⟨v2, h_v2, hm⟩ := bindS hm
    replace hm := Option.some.inj hm
    subst hm
    exact sv_ret (P := tv rInt ((x_literal + (1 : Int)) - v2)) (c1 := []) (ev_sub (ev_add (ev_var (i := 0) rfl) (ev_int (i := 1))) (ev_mul (ev_int (i := 2)) (ev_mod (ev_var (i := 0) rfl) (ev_int (i := 2)) h_v1) h_v2)) (RT.sub (List.Sublist.refl _) (fun v G' H' ap pp => hq _ _ v G' H' ⟨rfl, rfl⟩ ap pp))
def m_first_gate (x_net : ((List (List Nat)) × (List ((List Nat) × Bool)) × (List (Int × Int)) × (List ((List Nat) × Int)) × (List Int))) : Option (Int) :=
  some (((1 : Int) + (x_net.1.length : Int)) + (x_net.2.1.length : Int))
def R_first_gate (K : PySem.W.Frag) : Hp → List V → Cells → (Cells → TV → Prop) → Prop := fun G vs c W => ∃ (x_net : ((List (List Nat)) × (List ((List Nat) × Bool)) × (List (Int × Int)) × (List ((List Nat) × Int)) × (List Int))) (y : Int), VsOk G [tv (rQui K (rTup K rStr) (rTup K (rPair K rStr rBl)) (rTup K (rPair K rInt rInt)) (rTup K (rPair K rStr rInt)) (rTup K rInt)) x_net] vs ∧ c = [] ∧ m_first_gate x_net = some y ∧ W = W1 [] (tv rInt y)
abbrev n_first_gate : List Str := ["net"]
theorem sc_first_gate : FnScope ["net"] ["net"] (defScope s_first_gate) := ⟨rfl, rfl, rfl, by decide +kernel, rfl, by decide +kernel, by decide +kernel⟩
theorem ok_first_gate (T : Tx K mg a) : FnOk P w K mg base CX0 1 a.f_first_gate a.d_first_gate ["net"] (spOf (R_first_gate K)) := by
  refine T.F_first_gate.ok sc_first_gate (fun vs H Q E h => ?_) (fun cdv A outer s H vs Q E hr h => ?_)
  · obtain ⟨G, c, W, hd, ⟨x_net, y, hv, _⟩, hq⟩ := h
    exact hv.len
  · obtain ⟨G, c, W, hd, ⟨x_net, y, hv, rfl, hm, rfl⟩, hq⟩ := h
    have hu := hu_of hr
    have hu64 := hr.units
    have hu65 := units65 hr
    refine ⟨_, (pss_one (ps_ret (pe_op op_add (pe_op op_add pe_int (pe_callB (id := "len") k_len (by rfl) T.b_len (by decide +kernel) (pa_cons (pe_ix ix_tup (pv 0) pe_int (fun _ _ => rfl)) pa_nil))) (pe_callB (id := "len") k_len (by rfl) T.b_len (by decide +kernel) (pa_cons (pe_ix ix_tup (pv 0) pe_int (fun _ _ => rfl)) pa_nil))))), ?_⟩
    refine (?_ : Sv _ _ ⟨G, [], H⟩ [some (tv (rQui K (rTup K rStr) (rTup K (rPair K rStr rBl)) (rTup K (rPair K rInt rInt)) (rTup K (rPair K rStr rInt)) (rTup K rInt)) x_net)] []) _ _ (Post.refl hd (env_start (N := n_first_gate) hv))
    unfold m_first_gate at hm
    replace hm := Option.some.inj hm
    subst hm
    exact sv_ret (P := tv rInt (((1 : Int) + (x_net.1.length : Int)) + (x_net.2.1.length : Int))) (c1 := []) (ev_add (ev_add (ev_int (i := 1)) (ev_lenT (ev_t51 (ev_var (i := 0) rfl) (ev_int (i := 0))))) (ev_lenT (ev_t52 (ev_var (i := 0) rfl) (ev_int (i := 1))))) (RT.sub (List.Sublist.refl _) (fun v G' H' ap pp => hq _ _ v G' H' ⟨rfl, rfl⟩ ap pp))
def m_roots (x_net : ((List (List Nat)) × (List ((List Nat) × Bool)) × (List (Int × Int)) × (List ((List Nat) × Int)) × (List Int))) : Option ((List Int)) :=
  (mapO (fun x1 : ((List Nat) × Int) => some x1.2) x_net.2.2.2.1).bind fun v1 => (appO v1 x_net.2.2.2.2).bind fun v2 => some v2
def R_roots (K : PySem.W.Frag) : Hp → List V → Cells → (Cells → TV → Prop) → Prop := fun G vs c W => ∃ (x_net : ((List (List Nat)) × (List ((List Nat) × Bool)) × (List (Int × Int)) × (List ((List Nat) × Int)) × (List Int))) (y : (List Int)), VsOk G [tv (rQui K (rTup K rStr) (rTup K (rPair K rStr rBl)) (rTup K (rPair K rInt rInt)) (rTup K (rPair K rStr rInt)) (rTup K rInt)) x_net] vs ∧ c = [] ∧ m_roots x_net = some y ∧ W = W1 [] (tv (rLst rInt) y)
abbrev n_roots : List Str := ["net", "_", "literal"]
theorem sc_roots : FnScope ["net", "_", "literal"] ["net"] (defScope s_roots) := ⟨rfl, rfl, rfl, by decide +kernel, rfl, by decide +kernel, by decide +kernel⟩
theorem ok_roots (T : Tx K mg a) : FnOk P w K mg base CX0 1 a.f_roots a.d_roots ["net"] (spOf (R_roots K)) := by
  refine T.F_roots.ok sc_roots (fun vs H Q E h => ?_) (fun cdv A outer s H vs Q E hr h => ?_)
  · obtain ⟨G, c, W, hd, ⟨x_net, y, hv, _⟩, hq⟩ := h
    exact hv.len
  · obtain ⟨G, c, W, hd, ⟨x_net, y, hv, rfl, hm, rfl⟩, hq⟩ := h
    have hu := hu_of hr
    have hu64 := hr.units
    have hu65 := units65 hr
    refine ⟨_, (pss_one (ps_ret (pe_op op_cat (pe_lc (own := [("_", 1), ("literal", 2)]) (wi := (iTup K (tOp (rIxT K) (tVar 0) (tC (.int 3))))) (g := (gTup K 2 (gCons (gName 1) (gCons (gName 2) gNil)))) (tt := tYes) (te := (tVar 2)) rfl sc_roots.nd (pi_tup (pe_ix ix_tup (pv 0) pe_int (fun _ _ => rfl))) (blkOk_by (by kernel_rfl)) (fun _ _ _ _ _ => (pg_tup rfl (pgs_cons (pg_name (i := 1) sc_roots.nd (by rfl) (by first | exact Or.inl rfl | exact Or.inr rfl) (by first | exact Or.inr rfl | exact Or.inl rfl)) (pgs_cons (pg_name (i := 2) sc_roots.nd (by rfl) (by first | exact Or.inl rfl | exact Or.inr rfl) (by first | exact Or.inr rfl | exact Or.inl rfl)) pgs_nil)))) (fun _ _ _ _ _ => pts_nil) (fun _ _ _ _ _ => (pv 2))) (pe_callTy (T := "list") call_list_of (by rfl) T.b_list (by decide +kernel) (pa_cons (pe_ix ix_tup (pv 0) pe_int (fun _ _ => rfl)) pa_nil))))), ?_⟩
    refine (?_ : Sv _ _ ⟨G, [], H⟩ [some (tv (rQui K (rTup K rStr) (rTup K (rPair K rStr rBl)) (rTup K (rPair K rInt rInt)) (rTup K (rPair K rStr rInt)) (rTup K rInt)) x_net), none, none] []) _ _ (Post.refl hd (env_start (N := n_roots) hv))
    unfold m_roots at hm
    obtain ⟨v1, h_v1, hm⟩ := bindS hm
    obtain ⟨v2, h_v2, hm⟩ := bindS hm
    replace hm := Option.some.inj hm
    subst hm
    exact sv_ret (P := tv (rLst rInt) v2) (c1 := []) (ev_catL (ev_frz (en_lc (rβ := rInt) _ (fun x1 => [some (tv (rQui K (rTup K rStr) (rTup K (rPair K rStr rBl)) (rTup K (rPair K rInt rInt)) (rTup K (rPair K rStr rInt)) (rTup K rInt)) x_net), some (tv rStr x1.1), some (tv rInt x1.2)]) (ei_tup (ev_t54 (ev_var (i := 0) rfl) (ev_int (i := 3)))) (fun x1 => (pt_pair (pt_name (by decide)) (pt_name (by decide)))) (fun x1 z1 hh_z1 => by replace hh_z1 := Option.some.inj hh_z1; subst hh_z1; exact (ev_var (i := 2) rfl)) _ h_v1)) (ev_frz (en_listT (ev_t55 (ev_var (i := 0) rfl) (ev_int (i := 4))))) h_v2) (RT.sub (List.Sublist.refl _) (fun v G' H' ap pp => hq _ _ v G' H' ⟨rfl, rfl⟩ ap pp))
def m_used (x_net : ((List (List Nat)) × (List ((List Nat) × Bool)) × (List (Int × Int)) × (List ((List Nat) × Int)) × (List Int))) : Option ((List (Int × Bool))) :=
  (m_first_gate x_net).bind fun v1 => (m_roots x_net).bind fun v2 => (dictO (fun x1 : Int => (fdivO x1 (2 : Int)).bind fun v3 => some (v3, true)) [] v2).bind fun v4 => (rngDO ((x_net.2.2.1.length : Int) - (1 : Int)) (-(1 : Int))).bind fun v5 => (foldO (fun (s1 : (List (Int × Bool))) (x2 : Int) => if (dgetO s1 (v1 + x2)).isSome = true then (atI x_net.2.2.1 x2).bind fun v6 => (foldO (fun (s2 : (List (Int × Bool))) (x3 : Int) => (fdivO x3 (2 : Int)).bind fun v7 => (dputO s2 v7 true).bind fun v8 => some v8) s1 [v6.1, v6.2]).bind fun (s3 : (List (Int × Bool))) => some s3 else some s1) v4 v5).bind fun (s4 : (List (Int × Bool))) => some s4
def R_used (K : PySem.W.Frag) : Hp → List V → Cells → (Cells → TV → Prop) → Prop := fun G vs c W => ∃ (x_net : ((List (List Nat)) × (List ((List Nat) × Bool)) × (List (Int × Int)) × (List ((List Nat) × Int)) × (List Int))) (y : (List (Int × Bool))), VsOk G [tv (rQui K (rTup K rStr) (rTup K (rPair K rStr rBl)) (rTup K (rPair K rInt rInt)) (rTup K (rPair K rStr rInt)) (rTup K rInt)) x_net] vs ∧ c = [] ∧ m_used x_net = some y ∧ W = W1 [] (tv (rDic kInt rBl) y)
abbrev n_used : List Str := ["net", "start", "found", "place", "literal"]
theorem sc_used : FnScope ["net", "start", "found", "place", "literal"] ["net"] (defScope s_used) := ⟨rfl, rfl, rfl, by decide +kernel, rfl, by decide +kernel, by decide +kernel⟩
theorem ok_used (T : Tx K mg a) : FnOk P w K mg base CX0 2 a.f_used a.d_used ["net"] (spOf (R_used K)) := by
  refine T.F_used.ok sc_used (fun vs H Q E h => ?_) (fun cdv A outer s H vs Q E hr h => ?_)
  · obtain ⟨G, c, W, hd, ⟨x_net, y, hv, _⟩, hq⟩ := h
    exact hv.len
  · obtain ⟨G, c, W, hd, ⟨x_net, y, hv, rfl, hm, rfl⟩, hq⟩ := h
    have hu := hu_of hr
    have hu64 := hr.units
    have hu65 := units65 hr
    refine ⟨_, (pss_cons (ps_set (i := 1) sc_used.nd (by rfl) (by first | exact Or.inl rfl | exact Or.inr rfl) (pe_call (ok_first_gate T) (hr.mono (by decide)) (by rfl) T.g_first_gate T.F_first_gate.kp T.d_first_gate .nil pass0 (pa_cons (pv 0) pa_nil)))
      (pss_cons (ps_setDc (i := 2) (own := [("literal", 4)]) (wi := (iList K (tCall (spOf (R_roots K)) [] E0 (tCons (tVar 0) tNil)))) (g := (gName 4)) (tt := tYes) (tk := (tOp (rI CDiv fun i j => .int (i / j)) (tVar 4) (tC (.int 2)))) (tv := (tC (.bl true))) rfl sc_used.nd (by rfl) (by rfl) (sw_trueD rfl (by rfl) (by rfl) (by decide +kernel)) (pi_list (pe_call (ok_roots T) (hr.mono (by decide)) (by rfl) T.g_roots T.F_roots.kp T.d_roots .nil pass0 (pa_cons (pv 0) pa_nil))) (blkOk_by (by kernel_rfl)) (fun _ _ _ _ _ => (pg_name (i := 4) sc_used.nd (by rfl) (by first | exact Or.inl rfl | exact Or.inr rfl) (by first | exact Or.inr rfl | exact Or.inl rfl))) (fun _ _ _ _ _ => pts_nil) (fun _ _ _ _ _ => (pe_op op_fdiv (pv 4) pe_int)) (fun _ _ _ _ _ => pe_bl))
      (pss_cons (ps_for PassesOwn.never rfl (pi_range3 (by rfl) T.b_range (pa_cons (pe_op op_sub (pe_callB (id := "len") k_len (by rfl) T.b_len (by decide +kernel) (pa_cons (pe_ix ix_tup (pv 0) pe_int (fun _ _ => rfl)) pa_nil)) pe_int) (pa_cons (pe_un un_neg pe_int) (pa_cons (pe_un un_neg pe_int) pa_nil)))) (pg_name (i := 3) sc_used.nd (by rfl) (by first | exact Or.inl rfl | exact Or.inr rfl) (by first | exact Or.inr rfl | exact Or.inl rfl)) (pss_one (ps_if (pt_cmp (pc_din hu (pe_op op_add (pv 1) (pv 3)) (pv 2)) (by with_unfolding_all rfl)) (pss_one (ps_for PassesOwn.never rfl (pi_tup (pe_ix ix_tup (pe_ix ix_tup (pv 0) pe_int (fun _ _ => rfl)) (pv 3) (fun _ _ => rfl))) (pg_name (i := 4) sc_used.nd (by rfl) (by first | exact Or.inl rfl | exact Or.inr rfl) (by first | exact Or.inr rfl | exact Or.inl rfl)) (pss_one (ps_dput hu (pv 2) (pe_op op_fdiv (pv 4) pe_int) pe_bl rfl)))) pss_nil)))
      (pss_one (ps_ret (pv 2)))))), ?_⟩
    refine (?_ : Sv _ _ ⟨G, [], H⟩ [some (tv (rQui K (rTup K rStr) (rTup K (rPair K rStr rBl)) (rTup K (rPair K rInt rInt)) (rTup K (rPair K rStr rInt)) (rTup K rInt)) x_net), none, none, none, none] []) _ _ (Post.refl hd (env_start (N := n_used) hv))
    unfold m_used at hm
    obtain ⟨v1, h_v1, hm⟩ := bindS hm
    refine sv_seq (sv_asg (P := tv rInt v1) (c1 := []) (ev_callP (R := R_first_gate K) (ea_cons (ev_var (i := 0) rfl) ea_nil) (fun G vs hvs => ⟨x_net, v1, hvs, rfl, h_v1, rfl⟩)) ?_)
    show Im _ [some (tv (rQui K (rTup K rStr) (rTup K (rPair K rStr rBl)) (rTup K (rPair K rInt rInt)) (rTup K (rPair K rStr rInt)) (rTup K rInt)) x_net), some (tv rInt v1), none, none, none] [] _
    refine nxq ?_
    obtain ⟨v2, h_v2, hm⟩ := bindS hm
    obtain ⟨v4, h_v4, hm⟩ := bindS hm
    refine sv_seq (sv_asgN (c1 := []) (en_dc (rβ := rBl) _ (fun x1 => [some (tv (rQui K (rTup K rStr) (rTup K (rPair K rStr rBl)) (rTup K (rPair K rInt rInt)) (rTup K (rPair K rStr rInt)) (rTup K rInt)) x_net), some (tv rInt v1), none, none, some (tv rInt x1)]) keyI (ei_lst (ev_callP (R := R_roots K) (ea_cons (ev_var (i := 0) rfl) ea_nil) (fun G vs hvs => ⟨x_net, v2, hvs, rfl, h_v2, rfl⟩))) (fun x1 => (pt_name (by decide))) (fun x1 z1 hh_z1 => by obtain ⟨v3, h_v3, hh_z1⟩ := bindS hh_z1; replace hh_z1 := Option.some.inj hh_z1; subst hh_z1; exact ⟨(ev_fdiv (ev_var (i := 4) rfl) (ev_int (i := 2)) h_v3), ev_bl⟩) _ h_v4) ?_)
    intro l_found1
    show Im _ [some (tv (rQui K (rTup K rStr) (rTup K (rPair K rStr rBl)) (rTup K (rPair K rInt rInt)) (rTup K (rPair K rStr rInt)) (rTup K rInt)) x_net), some (tv rInt v1), some (tv rAddr l_found1), none, none] [(l_found1, tcD kInt rBl v4)] _
    refine nxq ?_
    obtain ⟨v5, h_v5, hm⟩ := bindS hm
    obtain ⟨s4, h_s4, hm⟩ := bindS hm
    refine sv_seq (sv_forO (vs := [3]) (r := rInt) _ (fun (s1 : (List (Int × Bool))) => [some (tv (rQui K (rTup K rStr) (rTup K (rPair K rStr rBl)) (rTup K (rPair K rInt rInt)) (rTup K (rPair K rStr rInt)) (rTup K rInt)) x_net), some (tv rInt v1), some (tv rAddr l_found1), none, none]) (fun (s1 : (List (Int × Bool))) => [(l_found1, tcD kInt rBl s1)]) (fun (s1 : (List (Int × Bool))) x2 => [some (tv (rQui K (rTup K rStr) (rTup K (rPair K rStr rBl)) (rTup K (rPair K rInt rInt)) (rTup K (rPair K rStr rInt)) (rTup K rInt)) x_net), some (tv rInt v1), some (tv rAddr l_found1), some (tv rInt x2), none]) (ei_rngD (ev_sub (ev_lenT (ev_t53 (ev_var (i := 0) rfl) (ev_int (i := 2)))) (ev_int (i := 1))) (ev_neg (ev_int (i := 1))) (ev_neg (ev_int (i := 1))) h_v5) v4 (.same (.same (.same (.lose (.lose .nil))))) (List.Sublist.refl _) (fun s1 x2 => (pt_name (by decide))) (fun s1 x2 st hb1 D' B' K1 K1' => ?_) s4 h_s4 ?_)
    · show Im _ [some (tv (rQui K (rTup K rStr) (rTup K (rPair K rStr rBl)) (rTup K (rPair K rInt rInt)) (rTup K (rPair K rStr rInt)) (rTup K rInt)) x_net), some (tv rInt v1), some (tv rAddr l_found1), some (tv rInt x2), none] [(l_found1, tcD kInt rBl s1)] _
      refine (sv_if (et_B (ev_dinO keyI (ev_add (ev_var (i := 1) rfl) (ev_var (i := 3) rfl)) (ev_var (i := 2) rfl) (List.mem_of_getElem? (i := 0) rfl))) (fun hb => ?_) (fun hb => ?_))
      · rw [if_pos hb] at hb1
        obtain ⟨v6, h_v6, hb1⟩ := bindS hb1
        obtain ⟨s3, h_s3, hb1⟩ := bindS hb1
        refine (sv_forO (vs := [4]) (r := rInt) _ (fun (s2 : (List (Int × Bool))) => [some (tv (rQui K (rTup K rStr) (rTup K (rPair K rStr rBl)) (rTup K (rPair K rInt rInt)) (rTup K (rPair K rStr rInt)) (rTup K rInt)) x_net), some (tv rInt v1), some (tv rAddr l_found1), some (tv rInt x2), none]) (fun (s2 : (List (Int × Bool))) => [(l_found1, tcD kInt rBl s2)]) (fun (s2 : (List (Int × Bool))) x3 => [some (tv (rQui K (rTup K rStr) (rTup K (rPair K rStr rBl)) (rTup K (rPair K rInt rInt)) (rTup K (rPair K rStr rInt)) (rTup K rInt)) x_net), some (tv rInt v1), some (tv rAddr l_found1), some (tv rInt x2), some (tv rInt x3)]) (ei_tup (ev_pairT (ev_ixT (ev_t53 (ev_var (i := 0) rfl) (ev_int (i := 2))) (ev_var (i := 3) rfl) h_v6))) s1 (.same (.same (.same (.same (.lose .nil))))) (List.Sublist.refl _) (fun s2 x3 => (pt_name (by decide))) (fun s2 x3 st hb2 D' B' K2 K2' => ?_) s3 h_s3 ?_)
        · show Im _ [some (tv (rQui K (rTup K rStr) (rTup K (rPair K rStr rBl)) (rTup K (rPair K rInt rInt)) (rTup K (rPair K rStr rInt)) (rTup K rInt)) x_net), some (tv rInt v1), some (tv rAddr l_found1), some (tv rInt x2), some (tv rInt x3)] [(l_found1, tcD kInt rBl s2)] _
          obtain ⟨v7, h_v7, hb2⟩ := bindS hb2
          obtain ⟨v8, h_v8, hb2⟩ := bindS hb2
          refine (sv_dput (n := 0) keyI ev_bl (ev_var (i := 2) rfl) (ev_fdiv (ev_var (i := 4) rfl) (ev_int (i := 2)) h_v7) rfl h_v8 ?_)
          show Im _ [some (tv (rQui K (rTup K rStr) (rTup K (rPair K rStr rBl)) (rTup K (rPair K rInt rInt)) (rTup K (rPair K rStr rInt)) (rTup K rInt)) x_net), some (tv rInt v1), some (tv rAddr l_found1), some (tv rInt x2), some (tv rInt x3)] [(l_found1, tcD kInt rBl v8)] _
          replace hb2 := Option.some.inj hb2
          subst hb2
          exact im_le (.same (.same (.same (.same (.lose .nil))))) (im_sub (List.Sublist.refl _) K2)
        · show Im _ [some (tv (rQui K (rTup K rStr) (rTup K (rPair K rStr rBl)) (rTup K (rPair K rInt rInt)) (rTup K (rPair K rStr rInt)) (rTup K rInt)) x_net), some (tv rInt v1), some (tv rAddr l_found1), some (tv rInt x2), none] [(l_found1, tcD kInt rBl s3)] _
          replace hb1 := Option.some.inj hb1
          subst hb1
          exact im_le (.same (.same (.same (.lose (.lose .nil))))) (im_sub (List.Sublist.refl _) K1)
      · rw [if_neg (nt hb)] at hb1
        refine sv_next ?_
        replace hb1 := Option.some.inj hb1
        subst hb1
        exact im_le (.same (.same (.same (.lose (.lose .nil))))) (im_sub (List.Sublist.refl _) K1)
    · show Im _ [some (tv (rQui K (rTup K rStr) (rTup K (rPair K rStr rBl)) (rTup K (rPair K rInt rInt)) (rTup K (rPair K rStr rInt)) (rTup K rInt)) x_net), some (tv rInt v1), some (tv rAddr l_found1), none, none] [(l_found1, tcD kInt rBl s4)] _
      refine nxq ?_
      replace hm := Option.some.inj hm
      subst hm
      exact sv_ret (P := tv (rDic kInt rBl) s4) (c1 := []) (ev_varFD (i := 2) (n := 0) (l := l_found1) rfl rfl) (RT.sub (List.Sublist.refl _) (fun v G' H' ap pp => hq _ _ v G' H' ⟨rfl, rfl⟩ ap pp))
def m_moved (x_literal : Int) (x_numbers : (List (Int × Int))) : Option (Int) :=
  (fdivO x_literal (2 : Int)).bind fun v1 => (dgetO x_numbers v1).bind fun v2 => (mulO (2 : Int) v2).bind fun v3 => (modO x_literal (2 : Int)).bind fun v4 => some (v3 + v4)
def R_moved (K : PySem.W.Frag) : Hp → List V → Cells → (Cells → TV → Prop) → Prop := fun G vs c W => ∃ (x_literal : Int) (x_numbers : (List (Int × Int))) (y : Int), VsOk G [tv rInt x_literal, tv (rDic kInt rInt) x_numbers] vs ∧ c = [] ∧ m_moved x_literal x_numbers = some y ∧ W = W1 [] (tv rInt y)
abbrev n_moved : List Str := ["literal", "numbers"]
theorem sc_moved : FnScope ["literal", "numbers"] ["literal", "numbers"] (defScope s_moved) := ⟨rfl, rfl, rfl, by decide +kernel, rfl, by decide +kernel, by decide +kernel⟩
theorem ok_moved (T : Tx K mg a) : FnOk P w K mg base CX0 1 a.f_moved a.d_moved ["literal", "numbers"] (spOf (R_moved K)) := by
  refine T.F_moved.ok sc_moved (fun vs H Q E h => ?_) (fun cdv A outer s H vs Q E hr h => ?_)
  · obtain ⟨G, c, W, hd, ⟨x_literal, x_numbers, y, hv, _⟩, hq⟩ := h
    exact hv.len
  · obtain ⟨G, c, W, hd, ⟨x_literal, x_numbers, y, hv, rfl, hm, rfl⟩, hq⟩ := h
    have hu := hu_of hr
    have hu64 := hr.units
    have hu65 := units65 hr
    refine ⟨_, (pss_one (ps_ret (pe_op op_add (pe_op op_mul pe_int (pe_dget hu (pv 1) (pe_op op_fdiv (pv 0) pe_int) (fun _ _ => rfl))) (pe_op op_mod (pv 0) pe_int)))), ?_⟩
    refine (?_ : Sv _ _ ⟨G, [], H⟩ [some (tv rInt x_literal), some (tv (rDic kInt rInt) x_numbers)] []) _ _ (Post.refl hd (env_start (N := n_moved) hv))
    unfold m_moved at hm
    obtain ⟨v1, h_v1, hm⟩ := bindS hm
    obtain ⟨v2, h_v2, hm⟩ := bindS hm
    obtain ⟨v3, h_v3, hm⟩ := bindS hm
    obtain ⟨v4, h_v4, hm⟩ := bindS hm
    replace hm := Option.some.inj hm
    subst hm
    exact sv_ret (P := tv rInt (v3 + v4)) (c1 := []) (ev_add (ev_mul (ev_int (i := 2)) (ev_dget keyI (ev_var (i := 1) rfl) (ev_fdiv (ev_var (i := 0) rfl) (ev_int (i := 2)) h_v1) h_v2) h_v3) (ev_mod (ev_var (i := 0) rfl) (ev_int (i := 2)) h_v4)) (RT.sub (List.Sublist.refl _) (fun v G' H' ap pp => hq _ _ v G' H' ⟨rfl, rfl⟩ ap pp))
def m_trimmed (x_net : ((List (List Nat)) × (List ((List Nat) × Bool)) × (List (Int × Int)) × (List ((List Nat) × Int)) × (List Int))) : Option (((List (List Nat)) × (List ((List Nat) × Bool)) × (List (Int × Int)) × (List ((List Nat) × Int)) × (List Int))) :=
  (m_first_gate x_net).bind fun v1 => (m_used x_net).bind fun v2 => (rng1O v1).bind fun v3 => (dictO (fun x1 : Int => some (x1, x1)) [] v3).bind fun v4 => (foldO (fun (s1 : (List (Int × Int)) × (List (Int × Int))) (x2 : (Int × (Int × Int))) => if (dgetO v2 (v1 + x2.1)).isSome = true then (dputO s1.1 (v1 + x2.1) (v1 + (s1.2.length : Int))).bind fun v5 => (m_moved x2.2.1 v5).bind fun v6 => (m_moved x2.2.2 v5).bind fun v7 => (pushO s1.2 (v6, v7)).bind fun v8 => some (v5, v8) else some (s1.1, s1.2)) (v4, ([] : List (Int × Int))) (enL x_net.2.2.1)).bind fun (s2 : (List (Int × Int)) × (List (Int × Int))) => (mapO (fun x3 : ((List Nat) × Int) => (m_moved x3.2 s2.1).bind fun v9 => some (x3.1, v9)) x_net.2.2.2.1).bind fun v10 => (mapO (fun x4 : Int => (m_moved x4 s2.1).bind fun v11 => some v11) x_net.2.2.2.2).bind fun v12 => some (x_net.1, x_net.2.1, s2.2, v10, v12)
def R_trimmed (K : PySem.W.Frag) : Hp → List V → Cells → (Cells → TV → Prop) → Prop := fun G vs c W => ∃ (x_net : ((List (List Nat)) × (List ((List Nat) × Bool)) × (List (Int × Int)) × (List ((List Nat) × Int)) × (List Int))) (y : ((List (List Nat)) × (List ((List Nat) × Bool)) × (List (Int × Int)) × (List ((List Nat) × Int)) × (List Int))), VsOk G [tv (rQui K (rTup K rStr) (rTup K (rPair K rStr rBl)) (rTup K (rPair K rInt rInt)) (rTup K (rPair K rStr rInt)) (rTup K rInt)) x_net] vs ∧ c = [] ∧ m_trimmed x_net = some y ∧ W = W1 [] (tv (rQui K (rTup K rStr) (rTup K (rPair K rStr rBl)) (rTup K (rPair K rInt rInt)) (rTup K (rPair K rStr rInt)) (rTup K rInt)) y)
abbrev n_trimmed : List Str := ["net", "start", "kept", "numbers", "gates", "place", "one", "two", "outputs", "node", "name", "literal"]
theorem sc_trimmed : FnScope ["net", "start", "kept", "numbers", "gates", "place", "one", "two", "outputs", "node", "name", "literal"] ["net"] (defScope s_trimmed) := ⟨rfl, rfl, rfl, by decide +kernel, rfl, by decide +kernel, by decide +kernel⟩
theorem ok_trimmed (T : Tx K mg a) : FnOk P w K mg base CX0 3 a.f_trimmed a.d_trimmed ["net"] (spOf (R_trimmed K)) := by
  refine T.F_trimmed.ok sc_trimmed (fun vs H Q E h => ?_) (fun cdv A outer s H vs Q E hr h => ?_)
  · obtain ⟨G, c, W, hd, ⟨x_net, y, hv, _⟩, hq⟩ := h
    exact hv.len
  · obtain ⟨G, c, W, hd, ⟨x_net, y, hv, rfl, hm, rfl⟩, hq⟩ := h
    have hu := hu_of hr
    have hu64 := hr.units
    have hu65 := units65 hr
    refine ⟨_, (pss_cons (ps_set (i := 1) sc_trimmed.nd (by rfl) (by first | exact Or.inl rfl | exact Or.inr rfl) (pe_call (ok_first_gate T) (hr.mono (by decide)) (by rfl) T.g_first_gate T.F_first_gate.kp T.d_first_gate .nil pass0 (pa_cons (pv 0) pa_nil)))
      (pss_cons (ps_set (i := 2) sc_trimmed.nd (by rfl) (by first | exact Or.inl rfl | exact Or.inr rfl) (pe_call (ok_used T) (hr.mono (by decide)) (by rfl) T.g_used T.F_used.kp T.d_used .nil pass0 (pa_cons (pv 0) pa_nil)))
      (pss_cons (ps_set (i := 3) sc_trimmed.nd (by rfl) (by first | exact Or.inl rfl | exact Or.inr rfl) (pe_dc (own := [("node", 9)]) (wi := (iRng1 (tCons (tVar 1) tNil))) (g := (gName 9)) (tt := tYes) (tk := (tVar 9)) (tv := (tVar 9)) rfl sc_trimmed.nd (pi_range1 (by rfl) T.b_range (pa_cons (pv 1) pa_nil)) (blkOk_by (by kernel_rfl)) (fun _ _ _ _ _ => (pg_name (i := 9) sc_trimmed.nd (by rfl) (by first | exact Or.inl rfl | exact Or.inr rfl) (by first | exact Or.inr rfl | exact Or.inl rfl))) (fun _ _ _ _ _ => pts_nil) (fun _ _ _ _ _ => (pv 9)) (fun _ _ _ _ _ => (pv 9))))
      (pss_cons (ps_set (i := 4) sc_trimmed.nd (by rfl) (by first | exact Or.inl rfl | exact Or.inr rfl) (pe_lst pa_nil))
      (pss_cons (ps_for PassesOwn.never rfl (pi_enumS (by rfl) T.b_enumerate (pa_cons (pe_ix ix_tup (pv 0) pe_int (fun _ _ => rfl)) pa_nil)) (pg_tup rfl (pgs_cons (pg_name (i := 5) sc_trimmed.nd (by rfl) (by first | exact Or.inl rfl | exact Or.inr rfl) (by first | exact Or.inr rfl | exact Or.inl rfl)) (pgs_cons (pg_tup rfl (pgs_cons (pg_name (i := 6) sc_trimmed.nd (by rfl) (by first | exact Or.inl rfl | exact Or.inr rfl) (by first | exact Or.inr rfl | exact Or.inl rfl)) (pgs_cons (pg_name (i := 7) sc_trimmed.nd (by rfl) (by first | exact Or.inl rfl | exact Or.inr rfl) (by first | exact Or.inr rfl | exact Or.inl rfl)) pgs_nil))) pgs_nil))) (pss_one (ps_if (pt_cmp (pc_din hu (pe_op op_add (pv 1) (pv 5)) (pv 2)) (by with_unfolding_all rfl)) (pss_cons (ps_dput hu (pv 3) (pe_op op_add (pv 1) (pv 5)) (pe_op op_add (pv 1) (pe_callB (id := "len") k_len (by rfl) T.b_len (by decide +kernel) (pa_cons (pv 4) pa_nil))) rfl)
      (pss_one (ps_expr (pe_bm PySem.F.plainAttrs_list PySem.F.slot_list_append PySem.F.type_list_append mt_append (pv 4) (pa_cons (pe_tup (pa_cons (pe_call (ok_moved T) (hr.mono (by decide)) (by rfl) T.g_moved T.F_moved.kp T.d_moved .nil pass0 (pa_cons (pv 6) (pa_cons (pv 3) pa_nil))) (pa_cons (pe_call (ok_moved T) (hr.mono (by decide)) (by rfl) T.g_moved T.F_moved.kp T.d_moved .nil pass0 (pa_cons (pv 7) (pa_cons (pv 3) pa_nil))) pa_nil))) pa_nil))))) pss_nil)))
      (pss_cons (ps_set (i := 8) sc_trimmed.nd (by rfl) (by first | exact Or.inl rfl | exact Or.inr rfl) (pe_callTy (T := "tuple") call_tuple_of (by rfl) T.b_tuple (by decide +kernel) (pa_cons (pe_lc (own := [("name", 10), ("literal", 11)]) (wi := (iTup K (tOp (rIxT K) (tVar 0) (tC (.int 3))))) (g := (gTup K 2 (gCons (gName 10) (gCons (gName 11) gNil)))) (tt := tYes) (te := (tTup (tCons (tVar 10) (tCons (tCall (spOf (R_moved K)) [] E0 (tCons (tVar 11) (tCons (tVar 3) tNil))) tNil)))) rfl sc_trimmed.nd (pi_tup (pe_ix ix_tup (pv 0) pe_int (fun _ _ => rfl))) (blkOk_by (by kernel_rfl)) (fun _ _ _ _ _ => (pg_tup rfl (pgs_cons (pg_name (i := 10) sc_trimmed.nd (by rfl) (by first | exact Or.inl rfl | exact Or.inr rfl) (by first | exact Or.inr rfl | exact Or.inl rfl)) (pgs_cons (pg_name (i := 11) sc_trimmed.nd (by rfl) (by first | exact Or.inl rfl | exact Or.inr rfl) (by first | exact Or.inr rfl | exact Or.inl rfl)) pgs_nil)))) (fun _ _ _ _ _ => pts_nil) (fun _ _ _ _ _ => (pe_tup (pa_cons (pv 10) (pa_cons (pe_call (ok_moved T) (hr.mono (by decide)) (by rfl) T.g_moved T.F_moved.kp T.d_moved .nil pass0 (pa_cons (pv 11) (pa_cons (pv 3) pa_nil))) pa_nil))))) pa_nil)))
      (pss_one (ps_ret (pe_tup (pa_cons (pe_ix ix_tup (pv 0) pe_int (fun _ _ => rfl)) (pa_cons (pe_ix ix_tup (pv 0) pe_int (fun _ _ => rfl)) (pa_cons (pe_callTy (T := "tuple") call_tuple_of (by rfl) T.b_tuple (by decide +kernel) (pa_cons (pv 4) pa_nil)) (pa_cons (pv 8) (pa_cons (pe_callTy (T := "tuple") call_tuple_of (by rfl) T.b_tuple (by decide +kernel) (pa_cons (pe_lc (own := [("literal", 11)]) (wi := (iTup K (tOp (rIxT K) (tVar 0) (tC (.int 4))))) (g := (gName 11)) (tt := tYes) (te := (tCall (spOf (R_moved K)) [] E0 (tCons (tVar 11) (tCons (tVar 3) tNil)))) rfl sc_trimmed.nd (pi_tup (pe_ix ix_tup (pv 0) pe_int (fun _ _ => rfl))) (blkOk_by (by kernel_rfl)) (fun _ _ _ _ _ => (pg_name (i := 11) sc_trimmed.nd (by rfl) (by first | exact Or.inl rfl | exact Or.inr rfl) (by first | exact Or.inr rfl | exact Or.inl rfl))) (fun _ _ _ _ _ => pts_nil) (fun _ _ _ _ _ => (pe_call (ok_moved T) (hr.mono (by decide)) (by rfl) T.g_moved T.F_moved.kp T.d_moved .nil pass0 (pa_cons (pv 11) (pa_cons (pv 3) pa_nil))))) pa_nil)) pa_nil)))))))))))))), ?_⟩
    refine (?_ : Sv _ _ ⟨G, [], H⟩ [some (tv (rQui K (rTup K rStr) (rTup K (rPair K rStr rBl)) (rTup K (rPair K rInt rInt)) (rTup K (rPair K rStr rInt)) (rTup K rInt)) x_net), none, none, none, none, none, none, none, none, none, none, none] []) _ _ (Post.refl hd (env_start (N := n_trimmed) hv))
    unfold m_trimmed at hm
    obtain ⟨v1, h_v1, hm⟩ := bindS hm
    refine sv_seq (sv_asg (P := tv rInt v1) (c1 := []) (ev_callP (R := R_first_gate K) (ea_cons (ev_var (i := 0) rfl) ea_nil) (fun G vs hvs => ⟨x_net, v1, hvs, rfl, h_v1, rfl⟩)) ?_)
    show Im _ [some (tv (rQui K (rTup K rStr) (rTup K (rPair K rStr rBl)) (rTup K (rPair K rInt rInt)) (rTup K (rPair K rStr rInt)) (rTup K rInt)) x_net), some (tv rInt v1), none, none, none, none, none, none, none, none, none, none] [] _
    refine nxq ?_
    obtain ⟨v2, h_v2, hm⟩ := bindS hm
    refine sv_seq (sv_asg (P := tv (rDic kInt rBl) v2) (c1 := []) (ev_callP (R := R_used K) (ea_cons (ev_var (i := 0) rfl) ea_nil) (fun G vs hvs => ⟨x_net, v2, hvs, rfl, h_v2, rfl⟩)) ?_)
    show Im _ [some (tv (rQui K (rTup K rStr) (rTup K (rPair K rStr rBl)) (rTup K (rPair K rInt rInt)) (rTup K (rPair K rStr rInt)) (rTup K rInt)) x_net), some (tv rInt v1), some (tv (rDic kInt rBl) v2), none, none, none, none, none, none, none, none, none] [] _
    refine nxq ?_
    obtain ⟨v3, h_v3, hm⟩ := bindS hm
    obtain ⟨v4, h_v4, hm⟩ := bindS hm
    refine sv_seq (sv_asgN (c1 := []) (en_dc (rβ := rInt) _ (fun x1 => [some (tv (rQui K (rTup K rStr) (rTup K (rPair K rStr rBl)) (rTup K (rPair K rInt rInt)) (rTup K (rPair K rStr rInt)) (rTup K rInt)) x_net), some (tv rInt v1), some (tv (rDic kInt rBl) v2), none, none, none, none, none, none, some (tv rInt x1), none, none]) keyI (ei_rng1 (ev_var (i := 1) rfl) h_v3) (fun x1 => (pt_name (by decide))) (fun x1 z1 hh_z1 => by replace hh_z1 := Option.some.inj hh_z1; subst hh_z1; exact ⟨(ev_var (i := 9) rfl), (ev_var (i := 9) rfl)⟩) _ h_v4) ?_)
    intro l_numbers1
    show Im _ [some (tv (rQui K (rTup K rStr) (rTup K (rPair K rStr rBl)) (rTup K (rPair K rInt rInt)) (rTup K (rPair K rStr rInt)) (rTup K rInt)) x_net), some (tv rInt v1), some (tv (rDic kInt rBl) v2), some (tv rAddr l_numbers1), none, none, none, none, none, none, none, none] [(l_numbers1, tcD kInt rInt v4)] _
    refine nxq ?_
    refine sv_seq (sv_asgN (c1 := [(l_numbers1, tcD kInt rInt v4)]) (en_nil (rα := (rPair K rInt rInt))) ?_)
    intro l_gates1
    show Im _ [some (tv (rQui K (rTup K rStr) (rTup K (rPair K rStr rBl)) (rTup K (rPair K rInt rInt)) (rTup K (rPair K rStr rInt)) (rTup K rInt)) x_net), some (tv rInt v1), some (tv (rDic kInt rBl) v2), some (tv rAddr l_numbers1), some (tv rAddr l_gates1), none, none, none, none, none, none, none] [(l_numbers1, tcD kInt rInt v4), (l_gates1, tcL (rPair K rInt rInt) ([] : List (Int × Int)))] _
    refine nxq ?_
    obtain ⟨s2, h_s2, hm⟩ := bindS hm
    refine sv_seq (sv_forO (vs := [5, 6, 7]) (r := (rPair K rInt (rPair K rInt rInt))) _ (fun (s1 : (List (Int × Int)) × (List (Int × Int))) => [some (tv (rQui K (rTup K rStr) (rTup K (rPair K rStr rBl)) (rTup K (rPair K rInt rInt)) (rTup K (rPair K rStr rInt)) (rTup K rInt)) x_net), some (tv rInt v1), some (tv (rDic kInt rBl) v2), some (tv rAddr l_numbers1), some (tv rAddr l_gates1), none, none, none, none, none, none, none]) (fun (s1 : (List (Int × Int)) × (List (Int × Int))) => [(l_numbers1, tcD kInt rInt s1.1), (l_gates1, tcL (rPair K rInt rInt) s1.2)]) (fun (s1 : (List (Int × Int)) × (List (Int × Int))) x2 => [some (tv (rQui K (rTup K rStr) (rTup K (rPair K rStr rBl)) (rTup K (rPair K rInt rInt)) (rTup K (rPair K rStr rInt)) (rTup K rInt)) x_net), some (tv rInt v1), some (tv (rDic kInt rBl) v2), some (tv rAddr l_numbers1), some (tv rAddr l_gates1), some (tv rInt x2.1), some (tv rInt x2.2.1), some (tv rInt x2.2.2), none, none, none, none]) (ei_enum (ev_t53 (ev_var (i := 0) rfl) (ev_int (i := 2))) src_tup) (v4, ([] : List (Int × Int))) (.same (.same (.same (.same (.same (.lose (.lose (.lose (.lose (.lose (.lose (.lose .nil)))))))))))) (List.Sublist.refl _) (fun s1 x2 => (pt_pair (pt_name (by decide)) (pt_pair (pt_name (by decide)) (pt_name (by decide))))) (fun s1 x2 st hb1 D' B' K1 K1' => ?_) s2 h_s2 ?_)
    · show Im _ [some (tv (rQui K (rTup K rStr) (rTup K (rPair K rStr rBl)) (rTup K (rPair K rInt rInt)) (rTup K (rPair K rStr rInt)) (rTup K rInt)) x_net), some (tv rInt v1), some (tv (rDic kInt rBl) v2), some (tv rAddr l_numbers1), some (tv rAddr l_gates1), some (tv rInt x2.1), some (tv rInt x2.2.1), some (tv rInt x2.2.2), none, none, none, none] [(l_numbers1, tcD kInt rInt s1.1), (l_gates1, tcL (rPair K rInt rInt) s1.2)] _
      refine (sv_if (et_B (ev_din keyI (ev_add (ev_var (i := 1) rfl) (ev_var (i := 5) rfl)) (ev_var (i := 2) rfl))) (fun hb => ?_) (fun hb => ?_))
      · rw [if_pos hb] at hb1
        obtain ⟨v5, h_v5, hb1⟩ := bindS hb1
        refine sv_seq (sv_dput (n := 0) keyI (ev_add (ev_var (i := 1) rfl) (ev_lenO (ev_var (i := 4) rfl) (List.mem_of_getElem? (i := 1) rfl))) (ev_var (i := 3) rfl) (ev_add (ev_var (i := 1) rfl) (ev_var (i := 5) rfl)) rfl h_v5 ?_)
        show Im _ [some (tv (rQui K (rTup K rStr) (rTup K (rPair K rStr rBl)) (rTup K (rPair K rInt rInt)) (rTup K (rPair K rStr rInt)) (rTup K rInt)) x_net), some (tv rInt v1), some (tv (rDic kInt rBl) v2), some (tv rAddr l_numbers1), some (tv rAddr l_gates1), some (tv rInt x2.1), some (tv rInt x2.2.1), some (tv rInt x2.2.2), none, none, none, none] [(l_numbers1, tcD kInt rInt v5), (l_gates1, tcL (rPair K rInt rInt) s1.2)] _
        refine nxq ?_
        obtain ⟨v6, h_v6, hb1⟩ := bindS hb1
        obtain ⟨v7, h_v7, hb1⟩ := bindS hb1
        obtain ⟨v8, h_v8, hb1⟩ := bindS hb1
        refine (sv_drop (P := tv rNon ()) (c1 := [(l_numbers1, tcD kInt rInt v5), (l_gates1, tcL (rPair K rInt rInt) v8)]) (ev_app (n := 1) (l := l_gates1) (xs1 := s1.2) (ev_var (i := 4) rfl) (List.mem_of_getElem? (i := 1) rfl) (ev_pair (ev_lendD (i := 3) (n := 0) (l := l_numbers1) sc_int rfl rfl (ev_callP (R := R_moved K) (ea_cons (ev_var (i := 6) rfl) (ea_cons (ev_var (i := 3) rfl) ea_nil)) (fun G vs hvs => ⟨x2.2.1, v5, v6, hvs, rfl, h_v6, rfl⟩))) (ev_lendD (i := 3) (n := 0) (l := l_numbers1) sc_int rfl rfl (ev_callP (R := R_moved K) (ea_cons (ev_var (i := 7) rfl) (ea_cons (ev_var (i := 3) rfl) ea_nil)) (fun G vs hvs => ⟨x2.2.2, v5, v7, hvs, rfl, h_v7, rfl⟩)))) rfl h_v8) ?_)
        show Im _ [some (tv (rQui K (rTup K rStr) (rTup K (rPair K rStr rBl)) (rTup K (rPair K rInt rInt)) (rTup K (rPair K rStr rInt)) (rTup K rInt)) x_net), some (tv rInt v1), some (tv (rDic kInt rBl) v2), some (tv rAddr l_numbers1), some (tv rAddr l_gates1), some (tv rInt x2.1), some (tv rInt x2.2.1), some (tv rInt x2.2.2), none, none, none, none] [(l_numbers1, tcD kInt rInt v5), (l_gates1, tcL (rPair K rInt rInt) v8)] _
        replace hb1 := Option.some.inj hb1
        subst hb1
        exact im_le (.same (.same (.same (.same (.same (.lose (.lose (.lose (.lose (.lose (.lose (.lose .nil)))))))))))) (im_sub (List.Sublist.refl _) K1)
      · rw [if_neg (nt hb)] at hb1
        refine sv_next ?_
        replace hb1 := Option.some.inj hb1
        subst hb1
        exact im_le (.same (.same (.same (.same (.same (.lose (.lose (.lose (.lose (.lose (.lose (.lose .nil)))))))))))) (im_sub (List.Sublist.refl _) K1)
    · show Im _ [some (tv (rQui K (rTup K rStr) (rTup K (rPair K rStr rBl)) (rTup K (rPair K rInt rInt)) (rTup K (rPair K rStr rInt)) (rTup K rInt)) x_net), some (tv rInt v1), some (tv (rDic kInt rBl) v2), some (tv rAddr l_numbers1), some (tv rAddr l_gates1), none, none, none, none, none, none, none] [(l_numbers1, tcD kInt rInt s2.1), (l_gates1, tcL (rPair K rInt rInt) s2.2)] _
      refine nxq ?_
      obtain ⟨v10, h_v10, hm⟩ := bindS hm
      refine sv_seq (sv_asg (P := tv (rTup K (rPair K rStr rInt)) v10) (c1 := [(l_numbers1, tcD kInt rInt s2.1), (l_gates1, tcL (rPair K rInt rInt) s2.2)]) (ev_tupL (ev_frz (en_lc (rβ := (rPair K rStr rInt)) _ (fun x3 => [some (tv (rQui K (rTup K rStr) (rTup K (rPair K rStr rBl)) (rTup K (rPair K rInt rInt)) (rTup K (rPair K rStr rInt)) (rTup K rInt)) x_net), some (tv rInt v1), some (tv (rDic kInt rBl) v2), some (tv rAddr l_numbers1), some (tv rAddr l_gates1), none, none, none, none, none, some (tv rStr x3.1), some (tv rInt x3.2)]) (ei_tup (ev_t54 (ev_var (i := 0) rfl) (ev_int (i := 3)))) (fun x3 => (pt_pair (pt_name (by decide)) (pt_name (by decide)))) (fun x3 z2 hh_z2 => by obtain ⟨v9, h_v9, hh_z2⟩ := bindS hh_z2; replace hh_z2 := Option.some.inj hh_z2; subst hh_z2; exact (ev_pair (ev_var (i := 10) rfl) (ev_lendD (i := 3) (n := 0) (l := l_numbers1) sc_int rfl rfl (ev_callP (R := R_moved K) (ea_cons (ev_var (i := 11) rfl) (ea_cons (ev_var (i := 3) rfl) ea_nil)) (fun G vs hvs => ⟨x3.2, s2.1, v9, hvs, rfl, h_v9, rfl⟩))))) _ h_v10))) ?_)
      show Im _ [some (tv (rQui K (rTup K rStr) (rTup K (rPair K rStr rBl)) (rTup K (rPair K rInt rInt)) (rTup K (rPair K rStr rInt)) (rTup K rInt)) x_net), some (tv rInt v1), some (tv (rDic kInt rBl) v2), some (tv rAddr l_numbers1), some (tv rAddr l_gates1), none, none, none, some (tv (rTup K (rPair K rStr rInt)) v10), none, none, none] [(l_numbers1, tcD kInt rInt s2.1), (l_gates1, tcL (rPair K rInt rInt) s2.2)] _
      refine nxq ?_
      obtain ⟨v12, h_v12, hm⟩ := bindS hm
      replace hm := Option.some.inj hm
      subst hm
      exact sv_ret (P := tv (rQui K (rTup K rStr) (rTup K (rPair K rStr rBl)) (rTup K (rPair K rInt rInt)) (rTup K (rPair K rStr rInt)) (rTup K rInt)) (x_net.1, x_net.2.1, s2.2, v10, v12)) (c1 := [(l_numbers1, tcD kInt rInt s2.1), (l_gates1, tcL (rPair K rInt rInt) s2.2)]) (ev_qui (ev_t51 (ev_var (i := 0) rfl) (ev_int (i := 0))) (ev_t52 (ev_var (i := 0) rfl) (ev_int (i := 1))) (ev_tupO (ev_var (i := 4) rfl) (List.mem_of_getElem? (i := 1) rfl)) (ev_var (i := 8) rfl) (ev_tupL (ev_frz (en_lc (rβ := rInt) _ (fun x4 => [some (tv (rQui K (rTup K rStr) (rTup K (rPair K rStr rBl)) (rTup K (rPair K rInt rInt)) (rTup K (rPair K rStr rInt)) (rTup K rInt)) x_net), some (tv rInt v1), some (tv (rDic kInt rBl) v2), some (tv rAddr l_numbers1), some (tv rAddr l_gates1), none, none, none, some (tv (rTup K (rPair K rStr rInt)) v10), none, none, some (tv rInt x4)]) (ei_tup (ev_t55 (ev_var (i := 0) rfl) (ev_int (i := 4)))) (fun x4 => (pt_name (by decide))) (fun x4 z3 hh_z3 => by obtain ⟨v11, h_v11, hh_z3⟩ := bindS hh_z3; replace hh_z3 := Option.some.inj hh_z3; subst hh_z3; exact (ev_lendD (i := 3) (n := 0) (l := l_numbers1) sc_int rfl rfl (ev_callP (R := R_moved K) (ea_cons (ev_var (i := 11) rfl) (ea_cons (ev_var (i := 3) rfl) ea_nil)) (fun G vs hvs => ⟨x4, s2.1, v11, hvs, rfl, h_v11, rfl⟩)))) _ h_v12)))) (RT.sub (List.Sublist.cons _ (List.Sublist.cons _ List.Sublist.slnil)) (fun v G' H' ap pp => hq _ _ v G' H' ⟨rfl, rfl⟩ ap pp))
def m_literal_value (x_values : (List Bool)) (x_literal : Int) : Option (Bool) :=
  (fdivO x_literal (2 : Int)).bind fun v1 => (atI x_values v1).bind fun v2 => (modO x_literal (2 : Int)).bind fun v3 => some (!(decide (v2 = (decide (v3 = (1 : Int))))))
def R_literal_value (K : PySem.W.Frag) : Hp → List V → Cells → (Cells → TV → Prop) → Prop := fun G vs c W => ∃ (x_values : (List Bool)) (x_literal : Int) (y : Bool), VsOk G [tv (rLst rBl) x_values, tv rInt x_literal] vs ∧ c = [] ∧ m_literal_value x_values x_literal = some y ∧ W = W1 [] (tv rBl y)
abbrev n_literal_value : List Str := ["values", "literal"]
theorem sc_literal_value : FnScope ["values", "literal"] ["values", "literal"] (defScope s_literal_value) := ⟨rfl, rfl, rfl, by decide +kernel, rfl, by decide +kernel, by decide +kernel⟩
theorem ok_literal_value (T : Tx K mg a) : FnOk P w K mg base CX0 1 a.f_literal_value a.d_literal_value ["values", "literal"] (spOf (R_literal_value K)) := by
  refine T.F_literal_value.ok sc_literal_value (fun vs H Q E h => ?_) (fun cdv A outer s H vs Q E hr h => ?_)
  · obtain ⟨G, c, W, hd, ⟨x_values, x_literal, y, hv, _⟩, hq⟩ := h
    exact hv.len
  · obtain ⟨G, c, W, hd, ⟨x_values, x_literal, y, hv, rfl, hm, rfl⟩, hq⟩ := h
    have hu := hu_of hr
    have hu64 := hr.units
    have hu65 := units65 hr
    refine ⟨_, (pss_one (ps_ret (pe_cmpR op_ne (pe_ix ix_list (pv 0) (pe_op op_fdiv (pv 1) pe_int) (fun _ _ => rfl)) (pe_cmpR op_eq (pe_op op_mod (pv 1) pe_int) pe_int (nomark _)) (nomark _)))), ?_⟩
    refine (?_ : Sv _ _ ⟨G, [], H⟩ [some (tv (rLst rBl) x_values), some (tv rInt x_literal)] []) _ _ (Post.refl hd (env_start (N := n_literal_value) hv))
    unfold m_literal_value at hm
    obtain ⟨v1, h_v1, hm⟩ := bindS hm
    obtain ⟨v2, h_v2, hm⟩ := bindS hm
    obtain ⟨v3, h_v3, hm⟩ := bindS hm
    replace hm := Option.some.inj hm
    subst hm
    exact sv_ret (P := tv rBl (!(decide (v2 = (decide (v3 = (1 : Int))))))) (c1 := []) (ev_neB (ev_ixL (ev_var (i := 0) rfl) (ev_fdiv (ev_var (i := 1) rfl) (ev_int (i := 2)) h_v1) h_v2) (ev_eqI (ev_mod (ev_var (i := 1) rfl) (ev_int (i := 2)) h_v3) (ev_int (i := 1)))) (RT.sub (List.Sublist.refl _) (fun v G' H' ap pp => hq _ _ v G' H' ⟨rfl, rfl⟩ ap pp))
def m_node_values (x_net : ((List (List Nat)) × (List ((List Nat) × Bool)) × (List (Int × Int)) × (List ((List Nat) × Int)) × (List Int))) (x_inputs : (List Bool)) (x_state : (List Bool)) : Option ((List Bool)) :=
  (appO ([false] : List Bool) x_inputs).bind fun v1 => (appO v1 x_state).bind fun v2 => (foldO (fun (s1 : (List Bool)) (x1 : (Int × Int)) => (m_literal_value s1 x1.1).bind fun v3 => (andO v3 ((m_literal_value s1 x1.2).bind fun v4 => some v4)).bind fun v5 => (pushO s1 v5).bind fun v6 => some v6) v2 x_net.2.2.1).bind fun (s2 : (List Bool)) => some s2
def R_node_values (K : PySem.W.Frag) : Hp → List V → Cells → (Cells → TV → Prop) → Prop := fun G vs c W => ∃ (x_net : ((List (List Nat)) × (List ((List Nat) × Bool)) × (List (Int × Int)) × (List ((List Nat) × Int)) × (List Int))) (x_inputs : (List Bool)) (x_state : (List Bool)) (y : (List Bool)), VsOk G [tv (rQui K (rTup K rStr) (rTup K (rPair K rStr rBl)) (rTup K (rPair K rInt rInt)) (rTup K (rPair K rStr rInt)) (rTup K rInt)) x_net, tv (rTup K rBl) x_inputs, tv (rTup K rBl) x_state] vs ∧ c = [] ∧ m_node_values x_net x_inputs x_state = some y ∧ W = W1 [] (tv (rLst rBl) y)
abbrev n_node_values : List Str := ["net", "inputs", "state", "values", "one", "two"]
theorem sc_node_values : FnScope ["net", "inputs", "state", "values", "one", "two"] ["net", "inputs", "state"] (defScope s_node_values) := ⟨rfl, rfl, rfl, by decide +kernel, rfl, by decide +kernel, by decide +kernel⟩
theorem ok_node_values (T : Tx K mg a) : FnOk P w K mg base CX0 2 a.f_node_values a.d_node_values ["net", "inputs", "state"] (spOf (R_node_values K)) := by
  refine T.F_node_values.ok sc_node_values (fun vs H Q E h => ?_) (fun cdv A outer s H vs Q E hr h => ?_)
  · obtain ⟨G, c, W, hd, ⟨x_net, x_inputs, x_state, y, hv, _⟩, hq⟩ := h
    exact hv.len
  · obtain ⟨G, c, W, hd, ⟨x_net, x_inputs, x_state, y, hv, rfl, hm, rfl⟩, hq⟩ := h
    have hu := hu_of hr
    have hu64 := hr.units
    have hu65 := units65 hr
    refine ⟨_, (pss_cons (ps_set (i := 3) sc_node_values.nd (by rfl) (by first | exact Or.inl rfl | exact Or.inr rfl) (pe_op op_cat (pe_op op_cat (pe_lst (pa_cons pe_bl pa_nil)) (pe_callTy (T := "list") call_list_of (by rfl) T.b_list (by decide +kernel) (pa_cons (pv 1) pa_nil))) (pe_callTy (T := "list") call_list_of (by rfl) T.b_list (by decide +kernel) (pa_cons (pv 2) pa_nil))))
      (pss_cons (ps_for PassesOwn.never rfl (pi_tup (pe_ix ix_tup (pv 0) pe_int (fun _ _ => rfl))) (pg_tup rfl (pgs_cons (pg_name (i := 4) sc_node_values.nd (by rfl) (by first | exact Or.inl rfl | exact Or.inr rfl) (by first | exact Or.inr rfl | exact Or.inl rfl)) (pgs_cons (pg_name (i := 5) sc_node_values.nd (by rfl) (by first | exact Or.inl rfl | exact Or.inr rfl) (by first | exact Or.inr rfl | exact Or.inl rfl)) pgs_nil))) (pss_one (ps_expr (pe_bm PySem.F.plainAttrs_list PySem.F.slot_list_append PySem.F.type_list_append mt_append (pv 3) (pa_cons (pe_and (pe_call (ok_literal_value T) (hr.mono (by decide)) (by rfl) T.g_literal_value T.F_literal_value.kp T.d_literal_value .nil pass0 (pa_cons (pv 3) (pa_cons (pv 4) pa_nil))) (pe_one (pe_call (ok_literal_value T) (hr.mono (by decide)) (by rfl) T.g_literal_value T.F_literal_value.kp T.d_literal_value .nil pass0 (pa_cons (pv 3) (pa_cons (pv 5) pa_nil))))) pa_nil)))))
      (pss_one (ps_ret (pv 3))))), ?_⟩
    refine (?_ : Sv _ _ ⟨G, [], H⟩ [some (tv (rQui K (rTup K rStr) (rTup K (rPair K rStr rBl)) (rTup K (rPair K rInt rInt)) (rTup K (rPair K rStr rInt)) (rTup K rInt)) x_net), some (tv (rTup K rBl) x_inputs), some (tv (rTup K rBl) x_state), none, none, none] []) _ _ (Post.refl hd (env_start (N := n_node_values) hv))
    unfold m_node_values at hm
    obtain ⟨v1, h_v1, hm⟩ := bindS hm
    obtain ⟨v2, h_v2, hm⟩ := bindS hm
    refine sv_seq (sv_asgN (c1 := []) (en_catL (ev_catL (ev_frz (en_lst (rα := rBl) (xs := [false]) (ea_cons ev_bl ea_nil) (by show 1 ≤ sizeLine; decide))) (ev_frz (en_listT (ev_var (i := 1) rfl))) h_v1) (ev_frz (en_listT (ev_var (i := 2) rfl))) h_v2) ?_)
    intro l_values1
    show Im _ [some (tv (rQui K (rTup K rStr) (rTup K (rPair K rStr rBl)) (rTup K (rPair K rInt rInt)) (rTup K (rPair K rStr rInt)) (rTup K rInt)) x_net), some (tv (rTup K rBl) x_inputs), some (tv (rTup K rBl) x_state), some (tv rAddr l_values1), none, none] [(l_values1, tcL rBl v2)] _
    refine nxq ?_
    obtain ⟨s2, h_s2, hm⟩ := bindS hm
    refine sv_seq (sv_forO (vs := [4, 5]) (r := (rPair K rInt rInt)) _ (fun (s1 : (List Bool)) => [some (tv (rQui K (rTup K rStr) (rTup K (rPair K rStr rBl)) (rTup K (rPair K rInt rInt)) (rTup K (rPair K rStr rInt)) (rTup K rInt)) x_net), some (tv (rTup K rBl) x_inputs), some (tv (rTup K rBl) x_state), some (tv rAddr l_values1), none, none]) (fun (s1 : (List Bool)) => [(l_values1, tcL rBl s1)]) (fun (s1 : (List Bool)) x1 => [some (tv (rQui K (rTup K rStr) (rTup K (rPair K rStr rBl)) (rTup K (rPair K rInt rInt)) (rTup K (rPair K rStr rInt)) (rTup K rInt)) x_net), some (tv (rTup K rBl) x_inputs), some (tv (rTup K rBl) x_state), some (tv rAddr l_values1), some (tv rInt x1.1), some (tv rInt x1.2)]) (ei_tup (ev_t53 (ev_var (i := 0) rfl) (ev_int (i := 2)))) v2 (.same (.same (.same (.same (.lose (.lose .nil)))))) (List.Sublist.refl _) (fun s1 x1 => (pt_pair (pt_name (by decide)) (pt_name (by decide)))) (fun s1 x1 st hb1 D' B' K1 K1' => ?_) s2 h_s2 ?_)
    · show Im _ [some (tv (rQui K (rTup K rStr) (rTup K (rPair K rStr rBl)) (rTup K (rPair K rInt rInt)) (rTup K (rPair K rStr rInt)) (rTup K rInt)) x_net), some (tv (rTup K rBl) x_inputs), some (tv (rTup K rBl) x_state), some (tv rAddr l_values1), some (tv rInt x1.1), some (tv rInt x1.2)] [(l_values1, tcL rBl s1)] _
      obtain ⟨v3, h_v3, hb1⟩ := bindS hb1
      obtain ⟨v5, h_v5, hb1⟩ := bindS hb1
      obtain ⟨v6, h_v6, hb1⟩ := bindS hb1
      refine (sv_drop (P := tv rNon ()) (c1 := [(l_values1, tcL rBl v6)]) (ev_app (n := 0) (l := l_values1) (xs1 := s1) (ev_var (i := 3) rfl) (List.mem_of_getElem? (i := 0) rfl) (ev_andO (ev_lend (i := 3) (n := 0) (l := l_values1) sc_bl rfl rfl (ev_callP (R := R_literal_value K) (ea_cons (ev_var (i := 3) rfl) (ea_cons (ev_var (i := 4) rfl) ea_nil)) (fun G vs hvs => ⟨s1, x1.1, v3, hvs, rfl, h_v3, rfl⟩))) (fun z1 hh_z1 => by obtain ⟨v4, h_v4, hh_z1⟩ := bindS hh_z1; replace hh_z1 := Option.some.inj hh_z1; subst hh_z1; exact (ev_lend (i := 3) (n := 0) (l := l_values1) sc_bl rfl rfl (ev_callP (R := R_literal_value K) (ea_cons (ev_var (i := 3) rfl) (ea_cons (ev_var (i := 5) rfl) ea_nil)) (fun G vs hvs => ⟨s1, x1.2, v4, hvs, rfl, h_v4, rfl⟩)))) h_v5) rfl h_v6) ?_)
      show Im _ [some (tv (rQui K (rTup K rStr) (rTup K (rPair K rStr rBl)) (rTup K (rPair K rInt rInt)) (rTup K (rPair K rStr rInt)) (rTup K rInt)) x_net), some (tv (rTup K rBl) x_inputs), some (tv (rTup K rBl) x_state), some (tv rAddr l_values1), some (tv rInt x1.1), some (tv rInt x1.2)] [(l_values1, tcL rBl v6)] _
      replace hb1 := Option.some.inj hb1
      subst hb1
      exact im_le (.same (.same (.same (.same (.lose (.lose .nil)))))) (im_sub (List.Sublist.refl _) K1)
    · show Im _ [some (tv (rQui K (rTup K rStr) (rTup K (rPair K rStr rBl)) (rTup K (rPair K rInt rInt)) (rTup K (rPair K rStr rInt)) (rTup K rInt)) x_net), some (tv (rTup K rBl) x_inputs), some (tv (rTup K rBl) x_state), some (tv rAddr l_values1), none, none] [(l_values1, tcL rBl s2)] _
      refine nxq ?_
      replace hm := Option.some.inj hm
      subst hm
      exact sv_ret (P := tv (rLst rBl) s2) (c1 := []) (ev_varF (i := 3) (n := 0) (l := l_values1) rfl rfl) (RT.sub (List.Sublist.refl _) (fun v G' H' ap pp => hq _ _ v G' H' ⟨rfl, rfl⟩ ap pp))
def m_begun (x_net : ((List (List Nat)) × (List ((List Nat) × Bool)) × (List (Int × Int)) × (List ((List Nat) × Int)) × (List Int))) : Option ((List Bool)) :=
  (mapO (fun x1 : ((List Nat) × Bool) => some x1.2) x_net.2.1).bind fun v1 => some v1
def R_begun (K : PySem.W.Frag) : Hp → List V → Cells → (Cells → TV → Prop) → Prop := fun G vs c W => ∃ (x_net : ((List (List Nat)) × (List ((List Nat) × Bool)) × (List (Int × Int)) × (List ((List Nat) × Int)) × (List Int))) (y : (List Bool)), VsOk G [tv (rQui K (rTup K rStr) (rTup K (rPair K rStr rBl)) (rTup K (rPair K rInt rInt)) (rTup K (rPair K rStr rInt)) (rTup K rInt)) x_net] vs ∧ c = [] ∧ m_begun x_net = some y ∧ W = W1 [] (tv (rTup K rBl) y)
abbrev n_begun : List Str := ["net", "_", "value"]
theorem sc_begun : FnScope ["net", "_", "value"] ["net"] (defScope s_begun) := ⟨rfl, rfl, rfl, by decide +kernel, rfl, by decide +kernel, by decide +kernel⟩
theorem ok_begun (T : Tx K mg a) : FnOk P w K mg base CX0 1 a.f_begun a.d_begun ["net"] (spOf (R_begun K)) := by
  refine T.F_begun.ok sc_begun (fun vs H Q E h => ?_) (fun cdv A outer s H vs Q E hr h => ?_)
  · obtain ⟨G, c, W, hd, ⟨x_net, y, hv, _⟩, hq⟩ := h
    exact hv.len
  · obtain ⟨G, c, W, hd, ⟨x_net, y, hv, rfl, hm, rfl⟩, hq⟩ := h
    have hu := hu_of hr
    have hu64 := hr.units
    have hu65 := units65 hr
    refine ⟨_, (pss_one (ps_ret (pe_callTy (T := "tuple") call_tuple_of (by rfl) T.b_tuple (by decide +kernel) (pa_cons (pe_lc (own := [("_", 1), ("value", 2)]) (wi := (iTup K (tOp (rIxT K) (tVar 0) (tC (.int 1))))) (g := (gTup K 2 (gCons (gName 1) (gCons (gName 2) gNil)))) (tt := tYes) (te := (tVar 2)) rfl sc_begun.nd (pi_tup (pe_ix ix_tup (pv 0) pe_int (fun _ _ => rfl))) (blkOk_by (by kernel_rfl)) (fun _ _ _ _ _ => (pg_tup rfl (pgs_cons (pg_name (i := 1) sc_begun.nd (by rfl) (by first | exact Or.inl rfl | exact Or.inr rfl) (by first | exact Or.inr rfl | exact Or.inl rfl)) (pgs_cons (pg_name (i := 2) sc_begun.nd (by rfl) (by first | exact Or.inl rfl | exact Or.inr rfl) (by first | exact Or.inr rfl | exact Or.inl rfl)) pgs_nil)))) (fun _ _ _ _ _ => pts_nil) (fun _ _ _ _ _ => (pv 2))) pa_nil)))), ?_⟩
    refine (?_ : Sv _ _ ⟨G, [], H⟩ [some (tv (rQui K (rTup K rStr) (rTup K (rPair K rStr rBl)) (rTup K (rPair K rInt rInt)) (rTup K (rPair K rStr rInt)) (rTup K rInt)) x_net), none, none] []) _ _ (Post.refl hd (env_start (N := n_begun) hv))
    unfold m_begun at hm
    obtain ⟨v1, h_v1, hm⟩ := bindS hm
    replace hm := Option.some.inj hm
    subst hm
    exact sv_ret (P := tv (rTup K rBl) v1) (c1 := []) (ev_tupL (ev_frz (en_lc (rβ := rBl) _ (fun x1 => [some (tv (rQui K (rTup K rStr) (rTup K (rPair K rStr rBl)) (rTup K (rPair K rInt rInt)) (rTup K (rPair K rStr rInt)) (rTup K rInt)) x_net), some (tv rStr x1.1), some (tv rBl x1.2)]) (ei_tup (ev_t52 (ev_var (i := 0) rfl) (ev_int (i := 1)))) (fun x1 => (pt_pair (pt_name (by decide)) (pt_name (by decide)))) (fun x1 z1 hh_z1 => by replace hh_z1 := Option.some.inj hh_z1; subst hh_z1; exact (ev_var (i := 2) rfl)) _ h_v1))) (RT.sub (List.Sublist.refl _) (fun v G' H' ap pp => hq _ _ v G' H' ⟨rfl, rfl⟩ ap pp))
def m_clocked (x_net : ((List (List Nat)) × (List ((List Nat) × Bool)) × (List (Int × Int)) × (List ((List Nat) × Int)) × (List Int))) (x_inputs : (List Bool)) (x_state : (List Bool)) : Option (((List Bool) × (List Bool))) :=
  if ((!(decide ((x_inputs.length : Int) = (x_net.1.length : Int)))) || (!(decide ((x_state.length : Int) = (x_net.2.1.length : Int))))) = true then none else (m_node_values x_net x_inputs x_state).bind fun v1 => (mapO (fun x1 : ((List Nat) × Int) => (m_literal_value v1 x1.2).bind fun v2 => some v2) x_net.2.2.2.1).bind fun v3 => (mapO (fun x2 : Int => (m_literal_value v1 x2).bind fun v4 => some v4) x_net.2.2.2.2).bind fun v5 => some (v3, v5)
def R_clocked (K : PySem.W.Frag) : Hp → List V → Cells → (Cells → TV → Prop) → Prop := fun G vs c W => ∃ (x_net : ((List (List Nat)) × (List ((List Nat) × Bool)) × (List (Int × Int)) × (List ((List Nat) × Int)) × (List Int))) (x_inputs : (List Bool)) (x_state : (List Bool)) (y : ((List Bool) × (List Bool))), VsOk G [tv (rQui K (rTup K rStr) (rTup K (rPair K rStr rBl)) (rTup K (rPair K rInt rInt)) (rTup K (rPair K rStr rInt)) (rTup K rInt)) x_net, tv (rTup K rBl) x_inputs, tv (rTup K rBl) x_state] vs ∧ c = [] ∧ m_clocked x_net x_inputs x_state = some y ∧ W = W1 [] (tv (rPair K (rTup K rBl) (rTup K rBl)) y)
abbrev n_clocked : List Str := ["net", "inputs", "state", "values", "outputs", "_", "literal"]
theorem sc_clocked : FnScope ["net", "inputs", "state", "values", "outputs", "_", "literal"] ["net", "inputs", "state"] (defScope s_clocked) := ⟨rfl, rfl, rfl, by decide +kernel, rfl, by decide +kernel, by decide +kernel⟩
theorem ok_clocked (T : Tx K mg a) : FnOk P w K mg base CX0 3 a.f_clocked a.d_clocked ["net", "inputs", "state"] (spOf (R_clocked K)) := by
  refine T.F_clocked.ok sc_clocked (fun vs H Q E h => ?_) (fun cdv A outer s H vs Q E hr h => ?_)
  · obtain ⟨G, c, W, hd, ⟨x_net, x_inputs, x_state, y, hv, _⟩, hq⟩ := h
    exact hv.len
  · obtain ⟨G, c, W, hd, ⟨x_net, x_inputs, x_state, y, hv, rfl, hm, rfl⟩, hq⟩ := h
    have hu := hu_of hr
    have hu64 := hr.units
    have hu65 := units65 hr
    refine ⟨_, (pss_cons (ps_if (PW.pt (pw_or (pt_cmpR op_ne (pe_callB (id := "len") k_len (by rfl) T.b_len (by decide +kernel) (pa_cons (pv 1) pa_nil)) (pe_callB (id := "len") k_len (by rfl) T.b_len (by decide +kernel) (pa_cons (pe_ix ix_tup (pv 0) pe_int (fun _ _ => rfl)) pa_nil)) (nomark _)) (pw_or1 (pt_cmpR op_ne (pe_callB (id := "len") k_len (by rfl) T.b_len (by decide +kernel) (pa_cons (pv 2) pa_nil)) (pe_callB (id := "len") k_len (by rfl) T.b_len (by decide +kernel) (pa_cons (pe_ix ix_tup (pv 0) pe_int (fun _ _ => rfl)) pa_nil)) (nomark _))))) (pss_one ps_never) pss_nil)
      (pss_cons (ps_set (i := 3) sc_clocked.nd (by rfl) (by first | exact Or.inl rfl | exact Or.inr rfl) (pe_call (ok_node_values T) (hr.mono (by decide)) (by rfl) T.g_node_values T.F_node_values.kp T.d_node_values .nil pass0 (pa_cons (pv 0) (pa_cons (pv 1) (pa_cons (pv 2) pa_nil)))))
      (pss_cons (ps_set (i := 4) sc_clocked.nd (by rfl) (by first | exact Or.inl rfl | exact Or.inr rfl) (pe_callTy (T := "tuple") call_tuple_of (by rfl) T.b_tuple (by decide +kernel) (pa_cons (pe_lc (own := [("_", 5), ("literal", 6)]) (wi := (iTup K (tOp (rIxT K) (tVar 0) (tC (.int 3))))) (g := (gTup K 2 (gCons (gName 5) (gCons (gName 6) gNil)))) (tt := tYes) (te := (tCall (spOf (R_literal_value K)) [] E0 (tCons (tVar 3) (tCons (tVar 6) tNil)))) rfl sc_clocked.nd (pi_tup (pe_ix ix_tup (pv 0) pe_int (fun _ _ => rfl))) (blkOk_by (by kernel_rfl)) (fun _ _ _ _ _ => (pg_tup rfl (pgs_cons (pg_name (i := 5) sc_clocked.nd (by rfl) (by first | exact Or.inl rfl | exact Or.inr rfl) (by first | exact Or.inr rfl | exact Or.inl rfl)) (pgs_cons (pg_name (i := 6) sc_clocked.nd (by rfl) (by first | exact Or.inl rfl | exact Or.inr rfl) (by first | exact Or.inr rfl | exact Or.inl rfl)) pgs_nil)))) (fun _ _ _ _ _ => pts_nil) (fun _ _ _ _ _ => (pe_call (ok_literal_value T) (hr.mono (by decide)) (by rfl) T.g_literal_value T.F_literal_value.kp T.d_literal_value .nil pass0 (pa_cons (pv 3) (pa_cons (pv 6) pa_nil))))) pa_nil)))
      (pss_one (ps_ret (pe_tup (pa_cons (pv 4) (pa_cons (pe_callTy (T := "tuple") call_tuple_of (by rfl) T.b_tuple (by decide +kernel) (pa_cons (pe_lc (own := [("literal", 6)]) (wi := (iTup K (tOp (rIxT K) (tVar 0) (tC (.int 4))))) (g := (gName 6)) (tt := tYes) (te := (tCall (spOf (R_literal_value K)) [] E0 (tCons (tVar 3) (tCons (tVar 6) tNil)))) rfl sc_clocked.nd (pi_tup (pe_ix ix_tup (pv 0) pe_int (fun _ _ => rfl))) (blkOk_by (by kernel_rfl)) (fun _ _ _ _ _ => (pg_name (i := 6) sc_clocked.nd (by rfl) (by first | exact Or.inl rfl | exact Or.inr rfl) (by first | exact Or.inr rfl | exact Or.inl rfl))) (fun _ _ _ _ _ => pts_nil) (fun _ _ _ _ _ => (pe_call (ok_literal_value T) (hr.mono (by decide)) (by rfl) T.g_literal_value T.F_literal_value.kp T.d_literal_value .nil pass0 (pa_cons (pv 3) (pa_cons (pv 6) pa_nil))))) pa_nil)) pa_nil)))))))), ?_⟩
    refine (?_ : Sv _ _ ⟨G, [], H⟩ [some (tv (rQui K (rTup K rStr) (rTup K (rPair K rStr rBl)) (rTup K (rPair K rInt rInt)) (rTup K (rPair K rStr rInt)) (rTup K rInt)) x_net), some (tv (rTup K rBl) x_inputs), some (tv (rTup K rBl) x_state), none, none, none, none] []) _ _ (Post.refl hd (env_start (N := n_clocked) hv))
    unfold m_clocked at hm
    refine sv_seq (sv_if (et_or (et_test (ev_neI (ev_lenT (ev_var (i := 1) rfl)) (ev_lenT (ev_t51 (ev_var (i := 0) rfl) (ev_int (i := 0)))))) (et_test (ev_neI (ev_lenT (ev_var (i := 2) rfl)) (ev_lenT (ev_t52 (ev_var (i := 0) rfl) (ev_int (i := 1))))))) (fun hb => ?_) (fun hb => ?_))
    · rw [if_pos hb] at hm
      cases hm
    · rw [if_neg (nt hb)] at hm
      refine sv_next ?_
      refine nxq ?_
      obtain ⟨v1, h_v1, hm⟩ := bindS hm
      refine sv_seq (sv_asg (P := tv (rLst rBl) v1) (c1 := []) (ev_callP (R := R_node_values K) (ea_cons (ev_var (i := 0) rfl) (ea_cons (ev_var (i := 1) rfl) (ea_cons (ev_var (i := 2) rfl) ea_nil))) (fun G vs hvs => ⟨x_net, x_inputs, x_state, v1, hvs, rfl, h_v1, rfl⟩)) ?_)
      show Im _ [some (tv (rQui K (rTup K rStr) (rTup K (rPair K rStr rBl)) (rTup K (rPair K rInt rInt)) (rTup K (rPair K rStr rInt)) (rTup K rInt)) x_net), some (tv (rTup K rBl) x_inputs), some (tv (rTup K rBl) x_state), some (tv (rLst rBl) v1), none, none, none] [] _
      refine nxq ?_
      obtain ⟨v3, h_v3, hm⟩ := bindS hm
      refine sv_seq (sv_asg (P := tv (rTup K rBl) v3) (c1 := []) (ev_tupL (ev_frz (en_lc (rβ := rBl) _ (fun x1 => [some (tv (rQui K (rTup K rStr) (rTup K (rPair K rStr rBl)) (rTup K (rPair K rInt rInt)) (rTup K (rPair K rStr rInt)) (rTup K rInt)) x_net), some (tv (rTup K rBl) x_inputs), some (tv (rTup K rBl) x_state), some (tv (rLst rBl) v1), none, some (tv rStr x1.1), some (tv rInt x1.2)]) (ei_tup (ev_t54 (ev_var (i := 0) rfl) (ev_int (i := 3)))) (fun x1 => (pt_pair (pt_name (by decide)) (pt_name (by decide)))) (fun x1 z1 hh_z1 => by obtain ⟨v2, h_v2, hh_z1⟩ := bindS hh_z1; replace hh_z1 := Option.some.inj hh_z1; subst hh_z1; exact (ev_callP (R := R_literal_value K) (ea_cons (ev_var (i := 3) rfl) (ea_cons (ev_var (i := 6) rfl) ea_nil)) (fun G vs hvs => ⟨v1, x1.2, v2, hvs, rfl, h_v2, rfl⟩))) _ h_v3))) ?_)
      show Im _ [some (tv (rQui K (rTup K rStr) (rTup K (rPair K rStr rBl)) (rTup K (rPair K rInt rInt)) (rTup K (rPair K rStr rInt)) (rTup K rInt)) x_net), some (tv (rTup K rBl) x_inputs), some (tv (rTup K rBl) x_state), some (tv (rLst rBl) v1), some (tv (rTup K rBl) v3), none, none] [] _
      refine nxq ?_
      obtain ⟨v5, h_v5, hm⟩ := bindS hm
      replace hm := Option.some.inj hm
      subst hm
      exact sv_ret (P := tv (rPair K (rTup K rBl) (rTup K rBl)) (v3, v5)) (c1 := []) (ev_pair (ev_var (i := 4) rfl) (ev_tupL (ev_frz (en_lc (rβ := rBl) _ (fun x2 => [some (tv (rQui K (rTup K rStr) (rTup K (rPair K rStr rBl)) (rTup K (rPair K rInt rInt)) (rTup K (rPair K rStr rInt)) (rTup K rInt)) x_net), some (tv (rTup K rBl) x_inputs), some (tv (rTup K rBl) x_state), some (tv (rLst rBl) v1), some (tv (rTup K rBl) v3), none, some (tv rInt x2)]) (ei_tup (ev_t55 (ev_var (i := 0) rfl) (ev_int (i := 4)))) (fun x2 => (pt_name (by decide))) (fun x2 z2 hh_z2 => by obtain ⟨v4, h_v4, hh_z2⟩ := bindS hh_z2; replace hh_z2 := Option.some.inj hh_z2; subst hh_z2; exact (ev_callP (R := R_literal_value K) (ea_cons (ev_var (i := 3) rfl) (ea_cons (ev_var (i := 6) rfl) ea_nil)) (fun G vs hvs => ⟨v1, x2, v4, hvs, rfl, h_v4, rfl⟩))) _ h_v5)))) (RT.sub (List.Sublist.refl _) (fun v G' H' ap pp => hq _ _ v G' H' ⟨rfl, rfl⟩ ap pp))
def m_run (x_net : ((List (List Nat)) × (List ((List Nat) × Bool)) × (List (Int × Int)) × (List ((List Nat) × Int)) × (List Int))) (x_rows : (List (List Bool))) : Option ((List (List Bool))) :=
  (m_begun x_net).bind fun v1 => (foldO (fun (s1 : (List Bool) × (List (List Bool))) (x1 : (List Bool)) => (m_clocked x_net x1 s1.1).bind fun v2 => (pushO s1.2 v2.1).bind fun v3 => some (v2.2, v3)) (v1, ([] : List (List Bool))) x_rows).bind fun (s2 : (List Bool) × (List (List Bool))) => some s2.2
def R_run (K : PySem.W.Frag) : Hp → List V → Cells → (Cells → TV → Prop) → Prop := fun G vs c W => ∃ (x_net : ((List (List Nat)) × (List ((List Nat) × Bool)) × (List (Int × Int)) × (List ((List Nat) × Int)) × (List Int))) (x_rows : (List (List Bool))) (y : (List (List Bool))), VsOk G [tv (rQui K (rTup K rStr) (rTup K (rPair K rStr rBl)) (rTup K (rPair K rInt rInt)) (rTup K (rPair K rStr rInt)) (rTup K rInt)) x_net, tv (rLst (rTup K rBl)) x_rows] vs ∧ c = [] ∧ m_run x_net x_rows = some y ∧ W = W1 [] (tv (rLst (rTup K rBl)) y)
abbrev n_run : List Str := ["net", "rows", "state", "found", "inputs", "outputs"]
theorem sc_run : FnScope ["net", "rows", "state", "found", "inputs", "outputs"] ["net", "rows"] (defScope s_run) := ⟨rfl, rfl, rfl, by decide +kernel, rfl, by decide +kernel, by decide +kernel⟩
theorem ok_run (T : Tx K mg a) : FnOk P w K mg base CX0 4 a.f_run a.d_run ["net", "rows"] (spOf (R_run K)) := by
  refine T.F_run.ok sc_run (fun vs H Q E h => ?_) (fun cdv A outer s H vs Q E hr h => ?_)
  · obtain ⟨G, c, W, hd, ⟨x_net, x_rows, y, hv, _⟩, hq⟩ := h
    exact hv.len
  · obtain ⟨G, c, W, hd, ⟨x_net, x_rows, y, hv, rfl, hm, rfl⟩, hq⟩ := h
    have hu := hu_of hr
    have hu64 := hr.units
    have hu65 := units65 hr
    refine ⟨_, (pss_cons (ps_set (i := 2) sc_run.nd (by rfl) (by first | exact Or.inl rfl | exact Or.inr rfl) (pe_call (ok_begun T) (hr.mono (by decide)) (by rfl) T.g_begun T.F_begun.kp T.d_begun .nil pass0 (pa_cons (pv 0) pa_nil)))
      (pss_cons (ps_set (i := 3) sc_run.nd (by rfl) (by first | exact Or.inl rfl | exact Or.inr rfl) (pe_lst pa_nil))
      (pss_cons (ps_for PassesOwn.never rfl (pi_list (pv 1)) (pg_name (i := 4) sc_run.nd (by rfl) (by first | exact Or.inl rfl | exact Or.inr rfl) (by first | exact Or.inr rfl | exact Or.inl rfl)) (pss_cons (ps_asg (pe_call (ok_clocked T) (hr.mono (by decide)) (by rfl) T.g_clocked T.F_clocked.kp T.d_clocked .nil pass0 (pa_cons (pv 0) (pa_cons (pv 4) (pa_cons (pv 2) pa_nil)))) (pg_tup rfl (pgs_cons (pg_name (i := 5) sc_run.nd (by rfl) (by first | exact Or.inl rfl | exact Or.inr rfl) (by first | exact Or.inr rfl | exact Or.inl rfl)) (pgs_cons (pg_name (i := 2) sc_run.nd (by rfl) (by first | exact Or.inl rfl | exact Or.inr rfl) (by first | exact Or.inr rfl | exact Or.inl rfl)) pgs_nil))))
      (pss_one (ps_expr (pe_bm PySem.F.plainAttrs_list PySem.F.slot_list_append PySem.F.type_list_append mt_append (pv 3) (pa_cons (pv 5) pa_nil))))))
      (pss_one (ps_ret (pv 3)))))), ?_⟩
    refine (?_ : Sv _ _ ⟨G, [], H⟩ [some (tv (rQui K (rTup K rStr) (rTup K (rPair K rStr rBl)) (rTup K (rPair K rInt rInt)) (rTup K (rPair K rStr rInt)) (rTup K rInt)) x_net), some (tv (rLst (rTup K rBl)) x_rows), none, none, none, none] []) _ _ (Post.refl hd (env_start (N := n_run) hv))
    unfold m_run at hm
    obtain ⟨v1, h_v1, hm⟩ := bindS hm
    refine sv_seq (sv_asg (P := tv (rTup K rBl) v1) (c1 := []) (ev_callP (R := R_begun K) (ea_cons (ev_var (i := 0) rfl) ea_nil) (fun G vs hvs => ⟨x_net, v1, hvs, rfl, h_v1, rfl⟩)) ?_)
    show Im _ [some (tv (rQui K (rTup K rStr) (rTup K (rPair K rStr rBl)) (rTup K (rPair K rInt rInt)) (rTup K (rPair K rStr rInt)) (rTup K rInt)) x_net), some (tv (rLst (rTup K rBl)) x_rows), some (tv (rTup K rBl) v1), none, none, none] [] _
    refine nxq ?_
    refine sv_seq (sv_asgN (c1 := []) (en_nil (rα := (rTup K rBl))) ?_)
    intro l_found1
    show Im _ [some (tv (rQui K (rTup K rStr) (rTup K (rPair K rStr rBl)) (rTup K (rPair K rInt rInt)) (rTup K (rPair K rStr rInt)) (rTup K rInt)) x_net), some (tv (rLst (rTup K rBl)) x_rows), some (tv (rTup K rBl) v1), some (tv rAddr l_found1), none, none] [(l_found1, tcL (rTup K rBl) ([] : List (List Bool)))] _
    refine nxq ?_
    obtain ⟨s2, h_s2, hm⟩ := bindS hm
    refine sv_seq (sv_forO (vs := [4]) (r := (rTup K rBl)) _ (fun (s1 : (List Bool) × (List (List Bool))) => [some (tv (rQui K (rTup K rStr) (rTup K (rPair K rStr rBl)) (rTup K (rPair K rInt rInt)) (rTup K (rPair K rStr rInt)) (rTup K rInt)) x_net), some (tv (rLst (rTup K rBl)) x_rows), some (tv (rTup K rBl) s1.1), some (tv rAddr l_found1), none, none]) (fun (s1 : (List Bool) × (List (List Bool))) => [(l_found1, tcL (rTup K rBl) s1.2)]) (fun (s1 : (List Bool) × (List (List Bool))) x1 => [some (tv (rQui K (rTup K rStr) (rTup K (rPair K rStr rBl)) (rTup K (rPair K rInt rInt)) (rTup K (rPair K rStr rInt)) (rTup K rInt)) x_net), some (tv (rLst (rTup K rBl)) x_rows), some (tv (rTup K rBl) s1.1), some (tv rAddr l_found1), some (tv (rTup K rBl) x1), none]) (ei_lst (ev_var (i := 1) rfl)) (v1, ([] : List (List Bool))) (.same (.same (.same (.same (.lose (.lose .nil)))))) (List.Sublist.refl _) (fun s1 x1 => (pt_name (by decide))) (fun s1 x1 st hb1 D' B' K1 K1' => ?_) s2 h_s2 ?_)
    · show Im _ [some (tv (rQui K (rTup K rStr) (rTup K (rPair K rStr rBl)) (rTup K (rPair K rInt rInt)) (rTup K (rPair K rStr rInt)) (rTup K rInt)) x_net), some (tv (rLst (rTup K rBl)) x_rows), some (tv (rTup K rBl) s1.1), some (tv rAddr l_found1), some (tv (rTup K rBl) x1), none] [(l_found1, tcL (rTup K rBl) s1.2)] _
      obtain ⟨v2, h_v2, hb1⟩ := bindS hb1
      refine sv_seq (sv_asgP (P := tv (rPair K (rTup K rBl) (rTup K rBl)) v2) (c1 := [(l_found1, tcL (rTup K rBl) s1.2)]) (vs := [5, 2]) (ev_callP (R := R_clocked K) (ea_cons (ev_var (i := 0) rfl) (ea_cons (ev_var (i := 4) rfl) (ea_cons (ev_var (i := 2) rfl) ea_nil))) (fun G vs hvs => ⟨x_net, x1, s1.1, v2, hvs, rfl, h_v2, rfl⟩)) (pt_pair (pt_name (by decide)) (pt_name (by decide))) ?_)
      show Im _ [some (tv (rQui K (rTup K rStr) (rTup K (rPair K rStr rBl)) (rTup K (rPair K rInt rInt)) (rTup K (rPair K rStr rInt)) (rTup K rInt)) x_net), some (tv (rLst (rTup K rBl)) x_rows), some (tv (rTup K rBl) v2.2), some (tv rAddr l_found1), some (tv (rTup K rBl) x1), some (tv (rTup K rBl) v2.1)] [(l_found1, tcL (rTup K rBl) s1.2)] _
      refine nxq ?_
      obtain ⟨v3, h_v3, hb1⟩ := bindS hb1
      refine (sv_drop (P := tv rNon ()) (c1 := [(l_found1, tcL (rTup K rBl) v3)]) (ev_app (n := 0) (l := l_found1) (xs1 := s1.2) (ev_var (i := 3) rfl) (List.mem_of_getElem? (i := 0) rfl) (ev_var (i := 5) rfl) rfl h_v3) ?_)
      show Im _ [some (tv (rQui K (rTup K rStr) (rTup K (rPair K rStr rBl)) (rTup K (rPair K rInt rInt)) (rTup K (rPair K rStr rInt)) (rTup K rInt)) x_net), some (tv (rLst (rTup K rBl)) x_rows), some (tv (rTup K rBl) v2.2), some (tv rAddr l_found1), some (tv (rTup K rBl) x1), some (tv (rTup K rBl) v2.1)] [(l_found1, tcL (rTup K rBl) v3)] _
      replace hb1 := Option.some.inj hb1
      subst hb1
      exact im_le (.same (.same (.same (.same (.lose (.lose .nil)))))) (im_sub (List.Sublist.refl _) K1)
    · show Im _ [some (tv (rQui K (rTup K rStr) (rTup K (rPair K rStr rBl)) (rTup K (rPair K rInt rInt)) (rTup K (rPair K rStr rInt)) (rTup K rInt)) x_net), some (tv (rLst (rTup K rBl)) x_rows), some (tv (rTup K rBl) s2.1), some (tv rAddr l_found1), none, none] [(l_found1, tcL (rTup K rBl) s2.2)] _
      refine nxq ?_
      replace hm := Option.some.inj hm
      subst hm
      exact sv_ret (P := tv (rLst (rTup K rBl)) s2.2) (c1 := []) (ev_varF (i := 3) (n := 0) (l := l_found1) rfl rfl) (RT.sub (List.Sublist.refl _) (fun v G' H' ap pp => hq _ _ v G' H' ⟨rfl, rfl⟩ ap pp))
def m_Builder___init__ (x_inputs : (List (List Nat))) (x_registers : (List ((List Nat) × Bool))) : Option ((List (List Nat)) × (List ((List Nat) × Bool)) × (List (Int × Int)) × (List ((Int × Int) × Int)) × (List ((List Nat) × Int))) :=
  (foldO (fun (s1 : (List ((List Nat) × Int))) (x1 : (Int × (List Nat))) => (mulO (2 : Int) (x1.1 + (1 : Int))).bind fun v1 => (dputO s1 x1.2 v1).bind fun v2 => some v2) ([] : (List ((List Nat) × Int))) (enL x_inputs)).bind fun (s2 : (List ((List Nat) × Int))) => (foldO (fun (s3 : (List ((List Nat) × Int))) (x2 : (Int × ((List Nat) × Bool))) => (mulO (2 : Int) (((x_inputs.length : Int) + x2.1) + (1 : Int))).bind fun v3 => (dputO s3 x2.2.1 v3).bind fun v4 => some v4) s2 (enL x_registers)).bind fun (s4 : (List ((List Nat) × Int))) => some (x_inputs, x_registers, ([] : List (Int × Int)), ([] : (List ((Int × Int) × Int))), s4)
def WB_Builder (K : PySem.W.Frag) (a : Ad) (y : (List (List Nat)) × (List ((List Nat) × Bool)) × (List (Int × Int)) × (List ((Int × Int) × Int)) × (List ((List Nat) × Int))) : Cells → TV → Prop := fun c' O => ∃ (l_gates : Addr) (l_known : Addr), c' = [(l_gates, tcL (rPair K rInt rInt) y.2.2.1), (l_known, tcDT kPair rInt y.2.2.2.1)] ∧ O = tvObj a.c_Builder [("inputs", tv (rTup K rStr) y.1), ("registers", tv (rTup K (rPair K rStr rBl)) y.2.1), ("gates", tv rAddr l_gates), ("known", tv rAddr l_known), ("literals", tv (rDic kStr rInt) y.2.2.2.2)]
def R_Builder___init__ (K : PySem.W.Frag) (a : Ad) : Hp → List V → Cells → (Cells → TV → Prop) → Prop := fun G vs c W => ∃ (p_self : Addr) (x_inputs : (List (List Nat))) (x_registers : (List ((List Nat) × Bool))) (y : (List (List Nat)) × (List ((List Nat) × Bool)) × (List (Int × Int)) × (List ((Int × Int) × Int)) × (List ((List Nat) × Int))), VsOk G [tv rAddr p_self, tv (rLst rStr) x_inputs, tv (rLst (rPair K rStr rBl)) x_registers] vs ∧ c = [(p_self, tcIns a.c_Builder [])] ∧ m_Builder___init__ x_inputs x_registers = some y ∧ W = (fun c' P => ∃ O, P = tvInit p_self O ∧ WB_Builder K a y c' O)
abbrev n_Builder___init__ : List Str := ["self", "inputs", "registers", "place", "name", "_"]
theorem sc_Builder___init__ : FnScope ["self", "inputs", "registers", "place", "name", "_"] ["self", "inputs", "registers"] (defScope s_Builder___init__) := ⟨rfl, rfl, rfl, by decide +kernel, rfl, by decide +kernel, by decide +kernel⟩
theorem ok_Builder___init__ (T : Tx K mg a) : FnOk P w K mg base CX0 1 a.f_Builder___init__ a.d_Builder___init__ ["self", "inputs", "registers"] (spOf (R_Builder___init__ K a)) := by
  refine T.F_Builder___init__.ok sc_Builder___init__ (fun vs H Q E h => ?_) (fun cdv A outer s H vs Q E hr h => ?_)
  · obtain ⟨G, c, W, hd, ⟨p_self, x_inputs, x_registers, y, hv, _⟩, hq⟩ := h
    exact hv.len
  · obtain ⟨G, c, W, hd, ⟨p_self, x_inputs, x_registers, y, hv, rfl, hm, rfl⟩, hq⟩ := h
    have hu := hu_of hr
    have hu64 := hr.units
    have hu65 := units65 hr
    refine ⟨_, (pss_cons (ps_fld (pv 0) (pe_callTy (T := "tuple") call_tuple_of (by rfl) T.b_tuple (by decide +kernel) (pa_cons (pv 1) pa_nil)) rfl)
      (pss_cons (ps_fld (pv 0) (pe_callTy (T := "tuple") call_tuple_of (by rfl) T.b_tuple (by decide +kernel) (pa_cons (pv 2) pa_nil)) rfl)
      (pss_cons (ps_fld (pv 0) (pe_lst pa_nil) rfl)
      (pss_cons (ps_fld (pv 0) pe_dnewT rfl)
      (pss_cons (ps_fld (pv 0) pe_dnewK rfl)
      (pss_cons (ps_for PassesOwn.never rfl (pi_enumS (by rfl) T.b_enumerate (pa_cons (pe_fld (pv 0) rfl) pa_nil)) (pg_tup rfl (pgs_cons (pg_name (i := 3) sc_Builder___init__.nd (by rfl) (by first | exact Or.inl rfl | exact Or.inr rfl) (by first | exact Or.inr rfl | exact Or.inl rfl)) (pgs_cons (pg_name (i := 4) sc_Builder___init__.nd (by rfl) (by first | exact Or.inl rfl | exact Or.inr rfl) (by first | exact Or.inr rfl | exact Or.inl rfl)) pgs_nil))) (pss_one (ps_dput hu (pe_fld (pv 0) rfl) (pv 4) (pe_op op_mul pe_int (pe_op op_add (pv 3) pe_int)) rfl)))
      (pss_one (ps_for PassesOwn.never rfl (pi_enumS (by rfl) T.b_enumerate (pa_cons (pe_fld (pv 0) rfl) pa_nil)) (pg_tup rfl (pgs_cons (pg_name (i := 3) sc_Builder___init__.nd (by rfl) (by first | exact Or.inl rfl | exact Or.inr rfl) (by first | exact Or.inr rfl | exact Or.inl rfl)) (pgs_cons (pg_tup rfl (pgs_cons (pg_name (i := 4) sc_Builder___init__.nd (by rfl) (by first | exact Or.inl rfl | exact Or.inr rfl) (by first | exact Or.inr rfl | exact Or.inl rfl)) (pgs_cons (pg_name (i := 5) sc_Builder___init__.nd (by rfl) (by first | exact Or.inl rfl | exact Or.inr rfl) (by first | exact Or.inr rfl | exact Or.inl rfl)) pgs_nil))) pgs_nil))) (pss_one (ps_dput hu (pe_fld (pv 0) rfl) (pv 4) (pe_op op_mul pe_int (pe_op op_add (pe_op op_add (pe_callB (id := "len") k_len (by rfl) T.b_len (by decide +kernel) (pa_cons (pe_fld (pv 0) rfl) pa_nil)) (pv 3)) pe_int)) rfl)))))))))), ?_⟩
    refine (?_ : Sv _ _ ⟨G, [(p_self, tcIns a.c_Builder [])], H⟩ [some (tv rAddr p_self), some (tv (rLst rStr) x_inputs), some (tv (rLst (rPair K rStr rBl)) x_registers), none, none, none] [(p_self, tcIns a.c_Builder [])]) _ _ (Post.refl hd (env_start (N := n_Builder___init__) hv))
    unfold m_Builder___init__ at hm
    refine sv_seq (sv_fld (P := tv (rTup K rStr) x_inputs) (p := p_self) (n := 0) (ev_tupL (ev_var (i := 1) rfl)) (ev_var (i := 0) rfl) rfl T.cl_Builder T.n_Builder_inputs (by show 0 < 1000; decide) ?_)
    rw [fp_Builder_0_inputs]
    show Im _ [some (tv rAddr p_self), some (tv (rLst rStr) x_inputs), some (tv (rLst (rPair K rStr rBl)) x_registers), none, none, none] [(p_self, tcIns a.c_Builder [("inputs", tv (rTup K rStr) x_inputs)])] _
    refine nxq ?_
    refine sv_seq (sv_fld (P := tv (rTup K (rPair K rStr rBl)) x_registers) (p := p_self) (n := 0) (ev_tupL (ev_var (i := 2) rfl)) (ev_var (i := 0) rfl) rfl T.cl_Builder T.n_Builder_registers (by show 1 < 1000; decide) ?_)
    rw [fp_Builder_1_registers]
    show Im _ [some (tv rAddr p_self), some (tv (rLst rStr) x_inputs), some (tv (rLst (rPair K rStr rBl)) x_registers), none, none, none] [(p_self, tcIns a.c_Builder [("inputs", tv (rTup K rStr) x_inputs), ("registers", tv (rTup K (rPair K rStr rBl)) x_registers)])] _
    refine nxq ?_
    refine sv_seq (sv_fldN (p := p_self) (n := 0) (c1 := [(p_self, tcIns a.c_Builder [("inputs", tv (rTup K rStr) x_inputs), ("registers", tv (rTup K (rPair K rStr rBl)) x_registers)])]) (en_nil (rα := (rPair K rInt rInt))) (fun _ => (ev_var (i := 0) rfl)) (fun _ => rfl) T.cl_Builder T.n_Builder_gates (by show 2 < 1000; decide) ?_)
    intro l_gates1
    rw [fp_Builder_2_gates]
    show Im _ [some (tv rAddr p_self), some (tv (rLst rStr) x_inputs), some (tv (rLst (rPair K rStr rBl)) x_registers), none, none, none] [(p_self, tcIns a.c_Builder [("inputs", tv (rTup K rStr) x_inputs), ("registers", tv (rTup K (rPair K rStr rBl)) x_registers), ("gates", tv rAddr l_gates1)]), (l_gates1, tcL (rPair K rInt rInt) ([] : List (Int × Int)))] _
    refine nxq ?_
    refine sv_seq (sv_fldN (p := p_self) (n := 0) (c1 := [(p_self, tcIns a.c_Builder [("inputs", tv (rTup K rStr) x_inputs), ("registers", tv (rTup K (rPair K rStr rBl)) x_registers), ("gates", tv rAddr l_gates1)]), (l_gates1, tcL (rPair K rInt rInt) ([] : List (Int × Int)))]) (en_dT (kf := kPair) (rα := rInt)) (fun _ => (ev_var (i := 0) rfl)) (fun _ => rfl) T.cl_Builder T.n_Builder_known (by show 3 < 1000; decide) ?_)
    intro l_known1
    rw [fp_Builder_3_known]
    show Im _ [some (tv rAddr p_self), some (tv (rLst rStr) x_inputs), some (tv (rLst (rPair K rStr rBl)) x_registers), none, none, none] [(p_self, tcIns a.c_Builder [("inputs", tv (rTup K rStr) x_inputs), ("registers", tv (rTup K (rPair K rStr rBl)) x_registers), ("gates", tv rAddr l_gates1), ("known", tv rAddr l_known1)]), (l_gates1, tcL (rPair K rInt rInt) ([] : List (Int × Int))), (l_known1, tcDT kPair rInt ([] : (List ((Int × Int) × Int))))] _
    refine nxq ?_
    refine sv_seq (sv_fldN (p := p_self) (n := 0) (c1 := [(p_self, tcIns a.c_Builder [("inputs", tv (rTup K rStr) x_inputs), ("registers", tv (rTup K (rPair K rStr rBl)) x_registers), ("gates", tv rAddr l_gates1), ("known", tv rAddr l_known1)]), (l_gates1, tcL (rPair K rInt rInt) ([] : List (Int × Int))), (l_known1, tcDT kPair rInt ([] : (List ((Int × Int) × Int))))]) (en_dK (kf := kStr) (rα := rInt)) (fun _ => (ev_var (i := 0) rfl)) (fun _ => rfl) T.cl_Builder T.n_Builder_literals (by show 4 < 1000; decide) ?_)
    intro l_literals1
    rw [fp_Builder_4_literals]
    show Im _ [some (tv rAddr p_self), some (tv (rLst rStr) x_inputs), some (tv (rLst (rPair K rStr rBl)) x_registers), none, none, none] [(p_self, tcIns a.c_Builder [("inputs", tv (rTup K rStr) x_inputs), ("registers", tv (rTup K (rPair K rStr rBl)) x_registers), ("gates", tv rAddr l_gates1), ("known", tv rAddr l_known1), ("literals", tv rAddr l_literals1)]), (l_gates1, tcL (rPair K rInt rInt) ([] : List (Int × Int))), (l_known1, tcDT kPair rInt ([] : (List ((Int × Int) × Int)))), (l_literals1, tcD kStr rInt ([] : (List ((List Nat) × Int))))] _
    refine nxq ?_
    obtain ⟨s2, h_s2, hm⟩ := bindS hm
    refine sv_seq (sv_forO (vs := [3, 4]) (r := (rPair K rInt rStr)) _ (fun (s1 : (List ((List Nat) × Int))) => [some (tv rAddr p_self), some (tv (rLst rStr) x_inputs), some (tv (rLst (rPair K rStr rBl)) x_registers), none, none, none]) (fun (s1 : (List ((List Nat) × Int))) => [(p_self, tcIns a.c_Builder [("inputs", tv (rTup K rStr) x_inputs), ("registers", tv (rTup K (rPair K rStr rBl)) x_registers), ("gates", tv rAddr l_gates1), ("known", tv rAddr l_known1), ("literals", tv rAddr l_literals1)]), (l_gates1, tcL (rPair K rInt rInt) ([] : List (Int × Int))), (l_known1, tcDT kPair rInt ([] : (List ((Int × Int) × Int)))), (l_literals1, tcD kStr rInt s1)]) (fun (s1 : (List ((List Nat) × Int))) x1 => [some (tv rAddr p_self), some (tv (rLst rStr) x_inputs), some (tv (rLst (rPair K rStr rBl)) x_registers), some (tv rInt x1.1), some (tv rStr x1.2), none]) (ei_enum (ev_fldO (p := p_self) (ev_var (i := 0) rfl) (List.mem_of_getElem? (i := 0) rfl) T.cl_Builder T.n_Builder_inputs (fg_Builder_5_inputs _ _ _ _ _)) src_tup) ([] : (List ((List Nat) × Int))) (.same (.same (.same (.lose (.lose (.lose .nil)))))) (List.Sublist.refl _) (fun s1 x1 => (pt_pair (pt_name (by decide)) (pt_name (by decide)))) (fun s1 x1 st hb1 D' B' K1 K1' => ?_) s2 h_s2 ?_)
    · show Im _ [some (tv rAddr p_self), some (tv (rLst rStr) x_inputs), some (tv (rLst (rPair K rStr rBl)) x_registers), some (tv rInt x1.1), some (tv rStr x1.2), none] [(p_self, tcIns a.c_Builder [("inputs", tv (rTup K rStr) x_inputs), ("registers", tv (rTup K (rPair K rStr rBl)) x_registers), ("gates", tv rAddr l_gates1), ("known", tv rAddr l_known1), ("literals", tv rAddr l_literals1)]), (l_gates1, tcL (rPair K rInt rInt) ([] : List (Int × Int))), (l_known1, tcDT kPair rInt ([] : (List ((Int × Int) × Int)))), (l_literals1, tcD kStr rInt s1)] _
      obtain ⟨v1, h_v1, hb1⟩ := bindS hb1
      obtain ⟨v2, h_v2, hb1⟩ := bindS hb1
      refine (sv_dput (n := 3) keyS (ev_mul (ev_int (i := 2)) (ev_add (ev_var (i := 3) rfl) (ev_int (i := 1))) h_v1) (ev_fldO (p := p_self) (ev_var (i := 0) rfl) (List.mem_of_getElem? (i := 0) rfl) T.cl_Builder T.n_Builder_literals (fg_Builder_5_literals _ _ _ _ _)) (ev_var (i := 4) rfl) rfl h_v2 ?_)
      show Im _ [some (tv rAddr p_self), some (tv (rLst rStr) x_inputs), some (tv (rLst (rPair K rStr rBl)) x_registers), some (tv rInt x1.1), some (tv rStr x1.2), none] [(p_self, tcIns a.c_Builder [("inputs", tv (rTup K rStr) x_inputs), ("registers", tv (rTup K (rPair K rStr rBl)) x_registers), ("gates", tv rAddr l_gates1), ("known", tv rAddr l_known1), ("literals", tv rAddr l_literals1)]), (l_gates1, tcL (rPair K rInt rInt) ([] : List (Int × Int))), (l_known1, tcDT kPair rInt ([] : (List ((Int × Int) × Int)))), (l_literals1, tcD kStr rInt v2)] _
      replace hb1 := Option.some.inj hb1
      subst hb1
      exact im_le (.same (.same (.same (.lose (.lose (.lose .nil)))))) (im_sub (List.Sublist.refl _) K1)
    · show Im _ [some (tv rAddr p_self), some (tv (rLst rStr) x_inputs), some (tv (rLst (rPair K rStr rBl)) x_registers), none, none, none] [(p_self, tcIns a.c_Builder [("inputs", tv (rTup K rStr) x_inputs), ("registers", tv (rTup K (rPair K rStr rBl)) x_registers), ("gates", tv rAddr l_gates1), ("known", tv rAddr l_known1), ("literals", tv rAddr l_literals1)]), (l_gates1, tcL (rPair K rInt rInt) ([] : List (Int × Int))), (l_known1, tcDT kPair rInt ([] : (List ((Int × Int) × Int)))), (l_literals1, tcD kStr rInt s2)] _
      refine nxq ?_
      obtain ⟨s4, h_s4, hm⟩ := bindS hm
      refine (sv_forO (vs := [3, 4, 5]) (r := (rPair K rInt (rPair K rStr rBl))) _ (fun (s3 : (List ((List Nat) × Int))) => [some (tv rAddr p_self), some (tv (rLst rStr) x_inputs), some (tv (rLst (rPair K rStr rBl)) x_registers), none, none, none]) (fun (s3 : (List ((List Nat) × Int))) => [(p_self, tcIns a.c_Builder [("inputs", tv (rTup K rStr) x_inputs), ("registers", tv (rTup K (rPair K rStr rBl)) x_registers), ("gates", tv rAddr l_gates1), ("known", tv rAddr l_known1), ("literals", tv rAddr l_literals1)]), (l_gates1, tcL (rPair K rInt rInt) ([] : List (Int × Int))), (l_known1, tcDT kPair rInt ([] : (List ((Int × Int) × Int)))), (l_literals1, tcD kStr rInt s3)]) (fun (s3 : (List ((List Nat) × Int))) x2 => [some (tv rAddr p_self), some (tv (rLst rStr) x_inputs), some (tv (rLst (rPair K rStr rBl)) x_registers), some (tv rInt x2.1), some (tv rStr x2.2.1), some (tv rBl x2.2.2)]) (ei_enum (ev_fldO (p := p_self) (ev_var (i := 0) rfl) (List.mem_of_getElem? (i := 0) rfl) T.cl_Builder T.n_Builder_registers (fg_Builder_5_registers _ _ _ _ _)) src_tup) s2 (.same (.same (.same (.lose (.lose (.lose .nil)))))) (List.Sublist.refl _) (fun s3 x2 => (pt_pair (pt_name (by decide)) (pt_pair (pt_name (by decide)) (pt_name (by decide))))) (fun s3 x2 st hb2 D' B' K2 K2' => ?_) s4 h_s4 ?_)
      · show Im _ [some (tv rAddr p_self), some (tv (rLst rStr) x_inputs), some (tv (rLst (rPair K rStr rBl)) x_registers), some (tv rInt x2.1), some (tv rStr x2.2.1), some (tv rBl x2.2.2)] [(p_self, tcIns a.c_Builder [("inputs", tv (rTup K rStr) x_inputs), ("registers", tv (rTup K (rPair K rStr rBl)) x_registers), ("gates", tv rAddr l_gates1), ("known", tv rAddr l_known1), ("literals", tv rAddr l_literals1)]), (l_gates1, tcL (rPair K rInt rInt) ([] : List (Int × Int))), (l_known1, tcDT kPair rInt ([] : (List ((Int × Int) × Int)))), (l_literals1, tcD kStr rInt s3)] _
        obtain ⟨v3, h_v3, hb2⟩ := bindS hb2
        obtain ⟨v4, h_v4, hb2⟩ := bindS hb2
        refine (sv_dput (n := 3) keyS (ev_mul (ev_int (i := 2)) (ev_add (ev_add (ev_lenT (ev_fldO (p := p_self) (ev_var (i := 0) rfl) (List.mem_of_getElem? (i := 0) rfl) T.cl_Builder T.n_Builder_inputs (fg_Builder_5_inputs _ _ _ _ _))) (ev_var (i := 3) rfl)) (ev_int (i := 1))) h_v3) (ev_fldO (p := p_self) (ev_var (i := 0) rfl) (List.mem_of_getElem? (i := 0) rfl) T.cl_Builder T.n_Builder_literals (fg_Builder_5_literals _ _ _ _ _)) (ev_var (i := 4) rfl) rfl h_v4 ?_)
        show Im _ [some (tv rAddr p_self), some (tv (rLst rStr) x_inputs), some (tv (rLst (rPair K rStr rBl)) x_registers), some (tv rInt x2.1), some (tv rStr x2.2.1), some (tv rBl x2.2.2)] [(p_self, tcIns a.c_Builder [("inputs", tv (rTup K rStr) x_inputs), ("registers", tv (rTup K (rPair K rStr rBl)) x_registers), ("gates", tv rAddr l_gates1), ("known", tv rAddr l_known1), ("literals", tv rAddr l_literals1)]), (l_gates1, tcL (rPair K rInt rInt) ([] : List (Int × Int))), (l_known1, tcDT kPair rInt ([] : (List ((Int × Int) × Int)))), (l_literals1, tcD kStr rInt v4)] _
        replace hb2 := Option.some.inj hb2
        subst hb2
        exact im_le (.same (.same (.same (.lose (.lose (.lose .nil)))))) (im_sub (List.Sublist.refl _) K2)
      · show Im _ [some (tv rAddr p_self), some (tv (rLst rStr) x_inputs), some (tv (rLst (rPair K rStr rBl)) x_registers), none, none, none] [(p_self, tcIns a.c_Builder [("inputs", tv (rTup K rStr) x_inputs), ("registers", tv (rTup K (rPair K rStr rBl)) x_registers), ("gates", tv rAddr l_gates1), ("known", tv rAddr l_known1), ("literals", tv rAddr l_literals1)]), (l_gates1, tcL (rPair K rInt rInt) ([] : List (Int × Int))), (l_known1, tcDT kPair rInt ([] : (List ((Int × Int) × Int)))), (l_literals1, tcD kStr rInt s4)] _
        refine sv_frzF (n := 3) (j := 0) (f := "literals") (l := l_literals1) rfl rfl (fg_Builder_5_literals _ _ _ _ _) (by decide) (fun G fs _ v hv => putF_same hv) ?_
        rw [fp_Builder_5_literals]
        show Im _ [some (tv rAddr p_self), some (tv (rLst rStr) x_inputs), some (tv (rLst (rPair K rStr rBl)) x_registers), none, none, none] [(p_self, tcIns a.c_Builder [("inputs", tv (rTup K rStr) x_inputs), ("registers", tv (rTup K (rPair K rStr rBl)) x_registers), ("gates", tv rAddr l_gates1), ("known", tv rAddr l_known1), ("literals", tv (rDic kStr rInt) s4)]), (l_gates1, tcL (rPair K rInt rInt) ([] : List (Int × Int))), (l_known1, tcDT kPair rInt ([] : (List ((Int × Int) × Int))))] _
        replace hm := Option.some.inj hm
        subst hm
        exact im_init (n := 0) (x := p_self) (c0 := [(l_gates1, tcL (rPair K rInt rInt) ([] : List (Int × Int))), (l_known1, tcDT kPair rInt ([] : (List ((Int × Int) × Int))))]) rfl (List.Sublist.refl _) (fun v G' H' ap pp => hq _ _ v G' H' ⟨_, rfl, l_gates1, l_known1, rfl, rfl⟩ ap pp)
def m_Builder_first (x_inputs : (List (List Nat))) (x_registers : (List ((List Nat) × Bool))) (x_literals : (List ((List Nat) × Int))) (w_gates : (List (Int × Int))) (w_known : (List ((Int × Int) × Int))) : Option (Int × (List (Int × Int)) × (List ((Int × Int) × Int))) :=
  some ((((1 : Int) + (x_inputs.length : Int)) + (x_registers.length : Int)), w_gates, w_known)
def R_Builder_first (K : PySem.W.Frag) (a : Ad) : Hp → List V → Cells → (Cells → TV → Prop) → Prop := fun G vs c W => ∃ (x_inputs : (List (List Nat))) (x_registers : (List ((List Nat) × Bool))) (l_gates : Addr) (l_known : Addr) (x_literals : (List ((List Nat) × Int))) (w_gates : (List (Int × Int))) (w_known : (List ((Int × Int) × Int))) (y : Int × (List (Int × Int)) × (List ((Int × Int) × Int))), VsOk G [tvObj a.c_Builder [("inputs", tv (rTup K rStr) x_inputs), ("registers", tv (rTup K (rPair K rStr rBl)) x_registers), ("gates", tv rAddr l_gates), ("known", tv rAddr l_known), ("literals", tv (rDic kStr rInt) x_literals)]] vs ∧ c = [(l_gates, tcL (rPair K rInt rInt) w_gates), (l_known, tcDT kPair rInt w_known)] ∧ m_Builder_first x_inputs x_registers x_literals w_gates w_known = some y ∧ W = W1 [(l_gates, tcL (rPair K rInt rInt) y.2.1), (l_known, tcDT kPair rInt y.2.2)] (tv rInt y.1)
abbrev n_Builder_first : List Str := ["self"]
theorem sc_Builder_first : FnScope ["self"] ["self"] (defScope s_Builder_first) := ⟨rfl, rfl, rfl, by decide +kernel, rfl, by decide +kernel, by decide +kernel⟩
theorem ok_Builder_first (T : Tx K mg a) : FnOk P w K mg base CX0 1 a.f_Builder_first a.d_Builder_first ["self"] (spOf (R_Builder_first K a)) := by
  refine T.F_Builder_first.ok sc_Builder_first (fun vs H Q E h => ?_) (fun cdv A outer s H vs Q E hr h => ?_)
  · obtain ⟨G, c, W, hd, ⟨x_inputs, x_registers, l_gates, l_known, x_literals, w_gates, w_known, y, hv, _⟩, hq⟩ := h
    exact hv.len
  · obtain ⟨G, c, W, hd, ⟨x_inputs, x_registers, l_gates, l_known, x_literals, w_gates, w_known, y, hv, rfl, hm, rfl⟩, hq⟩ := h
    have hu := hu_of hr
    have hu64 := hr.units
    have hu65 := units65 hr
    refine ⟨_, (pss_one (ps_ret (pe_op op_add (pe_op op_add pe_int (pe_callB (id := "len") k_len (by rfl) T.b_len (by decide +kernel) (pa_cons (pe_fld (pv 0) rfl) pa_nil))) (pe_callB (id := "len") k_len (by rfl) T.b_len (by decide +kernel) (pa_cons (pe_fld (pv 0) rfl) pa_nil))))), ?_⟩
    refine (?_ : Sv _ _ ⟨G, [(l_gates, tcL (rPair K rInt rInt) w_gates), (l_known, tcDT kPair rInt w_known)], H⟩ [some (tvObj a.c_Builder [("inputs", tv (rTup K rStr) x_inputs), ("registers", tv (rTup K (rPair K rStr rBl)) x_registers), ("gates", tv rAddr l_gates), ("known", tv rAddr l_known), ("literals", tv (rDic kStr rInt) x_literals)])] [(l_gates, tcL (rPair K rInt rInt) w_gates), (l_known, tcDT kPair rInt w_known)]) _ _ (Post.refl hd (env_start (N := n_Builder_first) hv))
    unfold m_Builder_first at hm
    replace hm := Option.some.inj hm
    subst hm
    exact sv_ret (P := tv rInt (((1 : Int) + (x_inputs.length : Int)) + (x_registers.length : Int))) (c1 := [(l_gates, tcL (rPair K rInt rInt) w_gates), (l_known, tcDT kPair rInt w_known)]) (ev_add (ev_add (ev_int (i := 1)) (ev_lenT (ev_fld (ev_var (i := 0) rfl) T.cl_Builder T.n_Builder_inputs (fg_Builder_5_inputs _ _ _ _ _)))) (ev_lenT (ev_fld (ev_var (i := 0) rfl) T.cl_Builder T.n_Builder_registers (fg_Builder_5_registers _ _ _ _ _)))) (RT.sub (List.Sublist.refl _) (fun v G' H' ap pp => hq _ _ v G' H' ⟨rfl, rfl⟩ ap pp))
def m_Builder_conj (x_inputs : (List (List Nat))) (x_registers : (List ((List Nat) × Bool))) (x_literals : (List ((List Nat) × Int))) (w_gates : (List (Int × Int))) (w_known : (List ((Int × Int) × Int))) (x_one : Int) (x_two : Int) : Option (Int × (List (Int × Int)) × (List ((Int × Int) × Int))) :=
  (some (min x_one x_two)).bind fun x_low_1 => (some (max x_one x_two)).bind fun x_high_1 => (orO (decide (x_low_1 = (0 : Int))) ((andO (decide (x_low_1 = (x_high_1 - (1 : Int)))) ((modO x_high_1 (2 : Int)).bind fun v1 => some (decide (v1 = (1 : Int))))).bind fun v2 => some v2)).bind fun v3 => if v3 = true then some ((0 : Int), w_gates, w_known) else if ((decide (x_low_1 = (1 : Int))) || (decide (x_low_1 = x_high_1))) = true then some (x_high_1, w_gates, w_known) else (if (!(dgetO w_known (x_high_1, x_low_1)).isSome) = true then (m_Builder_first x_inputs x_registers x_literals w_gates w_known).bind fun v4 => (mulO (2 : Int) (v4.1 + (v4.2.1.length : Int))).bind fun v5 => (dputO v4.2.2 (x_high_1, x_low_1) v5).bind fun v6 => (pushO v4.2.1 (x_high_1, x_low_1)).bind fun v7 => some (v7, v6) else some (w_gates, w_known)).bind fun (s1 : (List (Int × Int)) × (List ((Int × Int) × Int))) => (dgetO s1.2 (x_high_1, x_low_1)).bind fun v8 => some (v8, s1.1, s1.2)
def R_Builder_conj (K : PySem.W.Frag) (a : Ad) : Hp → List V → Cells → (Cells → TV → Prop) → Prop := fun G vs c W => ∃ (x_inputs : (List (List Nat))) (x_registers : (List ((List Nat) × Bool))) (l_gates : Addr) (l_known : Addr) (x_literals : (List ((List Nat) × Int))) (x_one : Int) (x_two : Int) (w_gates : (List (Int × Int))) (w_known : (List ((Int × Int) × Int))) (y : Int × (List (Int × Int)) × (List ((Int × Int) × Int))), VsOk G [tvObj a.c_Builder [("inputs", tv (rTup K rStr) x_inputs), ("registers", tv (rTup K (rPair K rStr rBl)) x_registers), ("gates", tv rAddr l_gates), ("known", tv rAddr l_known), ("literals", tv (rDic kStr rInt) x_literals)], tv rInt x_one, tv rInt x_two] vs ∧ c = [(l_gates, tcL (rPair K rInt rInt) w_gates), (l_known, tcDT kPair rInt w_known)] ∧ m_Builder_conj x_inputs x_registers x_literals w_gates w_known x_one x_two = some y ∧ W = W1 [(l_gates, tcL (rPair K rInt rInt) y.2.1), (l_known, tcDT kPair rInt y.2.2)] (tv rInt y.1)
abbrev n_Builder_conj : List Str := ["self", "one", "two", "low", "high"]
theorem sc_Builder_conj : FnScope ["self", "one", "two", "low", "high"] ["self", "one", "two"] (defScope s_Builder_conj) := ⟨rfl, rfl, rfl, by decide +kernel, rfl, by decide +kernel, by decide +kernel⟩
theorem ok_Builder_conj (T : Tx K mg a) : FnOk P w K mg base CX0 2 a.f_Builder_conj a.d_Builder_conj ["self", "one", "two"] (spOf (R_Builder_conj K a)) := by
  refine T.F_Builder_conj.ok sc_Builder_conj (fun vs H Q E h => ?_) (fun cdv A outer s H vs Q E hr h => ?_)
  · obtain ⟨G, c, W, hd, ⟨x_inputs, x_registers, l_gates, l_known, x_literals, x_one, x_two, w_gates, w_known, y, hv, _⟩, hq⟩ := h
    exact hv.len
  · obtain ⟨G, c, W, hd, ⟨x_inputs, x_registers, l_gates, l_known, x_literals, x_one, x_two, w_gates, w_known, y, hv, rfl, hm, rfl⟩, hq⟩ := h
    have hu := hu_of hr
    have hu64 := hr.units
    have hu65 := units65 hr
    refine ⟨_, (pss_cons (ps_par (i := 3) (j := 4) (by rfl) sc_Builder_conj.nd (by rfl) (by rfl) (by decide) (by rfl) (by rfl) (pa_cons (pe_callB (id := "min") (call_min2 rfl) (by rfl) T.b_min (by decide +kernel) (pa_cons (pv 1) (pa_cons (pv 2) pa_nil))) (pa_cons (pe_callB (id := "max") (call_max2 rfl) (by rfl) T.b_max (by decide +kernel) (pa_cons (pv 1) (pa_cons (pv 2) pa_nil))) pa_nil)) (by rfl))
      (pss_cons (ps_if (PW.pt (pw_or (pt_cmpR op_eq (pv 3) pe_int (nomark _)) (pw_or1 (PW.pt (pw_and (pt_cmpR op_eq (pv 3) (pe_op op_sub (pv 4) pe_int) (nomark _)) (pw_and1 (pt_cmpR op_eq (pe_op op_mod (pv 4) pe_int) pe_int (nomark _)))))))) (pss_one (ps_ret pe_int)) pss_nil)
      (pss_cons (ps_if (PW.pt (pw_or (pt_cmpR op_eq (pv 3) pe_int (nomark _)) (pw_or1 (pt_cmpR op_eq (pv 3) (pv 4) (nomark _))))) (pss_one (ps_ret (pv 4))) pss_nil)
      (pss_cons (ps_if (pt_cmp (pc_dnotin hu (pe_tup (pa_cons (pv 4) (pa_cons (pv 3) pa_nil))) (pe_fld (pv 0) rfl)) (by with_unfolding_all rfl)) (pss_cons (ps_dput hu (pe_fld (pv 0) rfl) (pe_tup (pa_cons (pv 4) (pa_cons (pv 3) pa_nil))) (pe_op op_mul pe_int (pe_op op_add (pe_meth0 (pv 0) T.cl_Builder T.m_Builder_first (ok_Builder_first T) (hr.mono (by decide)) T.d_Builder_first .nil pass0) (pe_callB (id := "len") k_len (by rfl) T.b_len (by decide +kernel) (pa_cons (pe_fld (pv 0) rfl) pa_nil)))) rfl)
      (pss_one (ps_expr (pe_bm PySem.F.plainAttrs_list PySem.F.slot_list_append PySem.F.type_list_append mt_append (pe_fld (pv 0) rfl) (pa_cons (pe_tup (pa_cons (pv 4) (pa_cons (pv 3) pa_nil))) pa_nil))))) pss_nil)
      (pss_one (ps_ret (pe_dget hu (pe_fld (pv 0) rfl) (pe_tup (pa_cons (pv 4) (pa_cons (pv 3) pa_nil))) (fun _ _ => rfl)))))))), ?_⟩
    refine (?_ : Sv _ _ ⟨G, [(l_gates, tcL (rPair K rInt rInt) w_gates), (l_known, tcDT kPair rInt w_known)], H⟩ [some (tvObj a.c_Builder [("inputs", tv (rTup K rStr) x_inputs), ("registers", tv (rTup K (rPair K rStr rBl)) x_registers), ("gates", tv rAddr l_gates), ("known", tv rAddr l_known), ("literals", tv (rDic kStr rInt) x_literals)]), some (tv rInt x_one), some (tv rInt x_two), none, none] [(l_gates, tcL (rPair K rInt rInt) w_gates), (l_known, tcDT kPair rInt w_known)]) _ _ (Post.refl hd (env_start (N := n_Builder_conj) hv))
    unfold m_Builder_conj at hm
    obtain ⟨x_low_1, h_x_low_1, hm⟩ := bindS hm
    obtain ⟨x_high_1, h_x_high_1, hm⟩ := bindS hm
    refine sv_seq (sv_par (Ev.to (ev_min2 (ev_var (i := 1) rfl) (ev_var (i := 2) rfl)) (Option.some.inj h_x_low_1)) (Ev.to (ev_max2 (ev_var (i := 1) rfl) (ev_var (i := 2) rfl)) (Option.some.inj h_x_high_1)) ?_)
    show Im _ [some (tvObj a.c_Builder [("inputs", tv (rTup K rStr) x_inputs), ("registers", tv (rTup K (rPair K rStr rBl)) x_registers), ("gates", tv rAddr l_gates), ("known", tv rAddr l_known), ("literals", tv (rDic kStr rInt) x_literals)]), some (tv rInt x_one), some (tv rInt x_two), some (tv rInt x_low_1), some (tv rInt x_high_1)] [(l_gates, tcL (rPair K rInt rInt) w_gates), (l_known, tcDT kPair rInt w_known)] _
    refine nxq ?_
    obtain ⟨v3, h_v3, hm⟩ := bindS hm
    refine sv_seq (sv_if (et_orO (et_test (ev_eqI (ev_var (i := 3) rfl) (ev_int (i := 0)))) (fun z2 hh_z2 => by obtain ⟨v2, h_v2, hh_z2⟩ := bindS hh_z2; replace hh_z2 := Option.some.inj hh_z2; subst hh_z2; exact (et_andO (et_test (ev_eqI (ev_var (i := 3) rfl) (ev_sub (ev_var (i := 4) rfl) (ev_int (i := 1))))) (fun z1 hh_z1 => by obtain ⟨v1, h_v1, hh_z1⟩ := bindS hh_z1; replace hh_z1 := Option.some.inj hh_z1; subst hh_z1; exact (et_test (ev_eqI (ev_mod (ev_var (i := 4) rfl) (ev_int (i := 2)) h_v1) (ev_int (i := 1))))) h_v2)) h_v3) (fun hb => ?_) (fun hb => ?_))
    · rw [if_pos hb] at hm
      replace hm := Option.some.inj hm
      subst hm
      exact sv_ret (P := tv rInt (0 : Int)) (c1 := [(l_gates, tcL (rPair K rInt rInt) w_gates), (l_known, tcDT kPair rInt w_known)]) (ev_int (i := 0)) (RT.sub (List.Sublist.refl _) (fun v G' H' ap pp => hq _ _ v G' H' ⟨rfl, rfl⟩ ap pp))
    · rw [if_neg (nt hb)] at hm
      refine sv_next ?_
      refine nxq ?_
      refine sv_seq (sv_if (et_or (et_test (ev_eqI (ev_var (i := 3) rfl) (ev_int (i := 1)))) (et_test (ev_eqI (ev_var (i := 3) rfl) (ev_var (i := 4) rfl)))) (fun hb => ?_) (fun hb => ?_))
      · rw [if_pos hb] at hm
        replace hm := Option.some.inj hm
        subst hm
        exact sv_ret (P := tv rInt x_high_1) (c1 := [(l_gates, tcL (rPair K rInt rInt) w_gates), (l_known, tcDT kPair rInt w_known)]) (ev_var (i := 4) rfl) (RT.sub (List.Sublist.refl _) (fun v G' H' ap pp => hq _ _ v G' H' ⟨rfl, rfl⟩ ap pp))
      · rw [if_neg (nt hb)] at hm
        refine sv_next ?_
        refine nxq ?_
        obtain ⟨s1, h_s1, hm⟩ := bindS hm
        refine sv_seq (sv_join (Γ' := [some (tvObj a.c_Builder [("inputs", tv (rTup K rStr) x_inputs), ("registers", tv (rTup K (rPair K rStr rBl)) x_registers), ("gates", tv rAddr l_gates), ("known", tv rAddr l_known), ("literals", tv (rDic kStr rInt) x_literals)]), some (tv rInt x_one), some (tv rInt x_two), some (tv rInt x_low_1), some (tv rInt x_high_1)]) (c' := [(l_gates, tcL (rPair K rInt rInt) s1.1), (l_known, tcDT kPair rInt s1.2)]) ?_ (fun K_s1 => ?_))
        · show Im _ [some (tvObj a.c_Builder [("inputs", tv (rTup K rStr) x_inputs), ("registers", tv (rTup K (rPair K rStr rBl)) x_registers), ("gates", tv rAddr l_gates), ("known", tv rAddr l_known), ("literals", tv (rDic kStr rInt) x_literals)]), some (tv rInt x_one), some (tv rInt x_two), some (tv rInt x_low_1), some (tv rInt x_high_1)] [(l_gates, tcL (rPair K rInt rInt) s1.1), (l_known, tcDT kPair rInt s1.2)] _
          refine nxq ?_
          obtain ⟨v8, h_v8, hm⟩ := bindS hm
          replace hm := Option.some.inj hm
          subst hm
          exact sv_ret (P := tv rInt v8) (c1 := [(l_gates, tcL (rPair K rInt rInt) s1.1), (l_known, tcDT kPair rInt s1.2)]) (ev_dgetT (ev_fld (ev_var (i := 0) rfl) T.cl_Builder T.n_Builder_known (fg_Builder_5_known _ _ _ _ _)) (ev_pairK (ev_var (i := 4) rfl) (ev_var (i := 3) rfl)) (List.mem_of_getElem? (i := 1) rfl) h_v8) (RT.sub (List.Sublist.refl _) (fun v G' H' ap pp => hq _ _ v G' H' ⟨rfl, rfl⟩ ap pp))
        · refine sv_if (et_B (ev_dninT (ev_pairK (ev_var (i := 4) rfl) (ev_var (i := 3) rfl)) (ev_fld (ev_var (i := 0) rfl) T.cl_Builder T.n_Builder_known (fg_Builder_5_known _ _ _ _ _)) (List.mem_of_getElem? (i := 1) rfl))) (fun hb => ?_) (fun hb => ?_)
          · rw [if_pos hb] at h_s1
            obtain ⟨v4, h_v4, h_s1⟩ := bindS h_s1
            obtain ⟨v5, h_v5, h_s1⟩ := bindS h_s1
            obtain ⟨v6, h_v6, h_s1⟩ := bindS h_s1
            refine sv_seq (sv_dputT (n := 1) (ev_mul (ev_int (i := 2)) (ev_add (ev_meth (c2 := [(l_gates, tcL (rPair K rInt rInt) w_gates), (l_known, tcDT kPair rInt w_known)]) (c3 := []) (c4 := [(l_gates, tcL (rPair K rInt rInt) v4.2.1), (l_known, tcDT kPair rInt v4.2.2)]) (R := R_Builder_first K a) (ev_var (i := 0) rfl) (fn_Builder_5_first _ _ _ _ _) ea_nil (fun G v vs hv hvs => ⟨x_inputs, x_registers, l_gates, l_known, x_literals, w_gates, w_known, v4, ⟨hv, hvs⟩, rfl, h_v4, rfl⟩)) (ev_lenO (ev_fld (ev_var (i := 0) rfl) T.cl_Builder T.n_Builder_gates (fg_Builder_5_gates _ _ _ _ _)) (List.mem_of_getElem? (i := 0) rfl))) h_v5) (ev_fld (ev_var (i := 0) rfl) T.cl_Builder T.n_Builder_known (fg_Builder_5_known _ _ _ _ _)) (ev_pairK (ev_var (i := 4) rfl) (ev_var (i := 3) rfl)) rfl h_v6 ?_)
            show Im _ [some (tvObj a.c_Builder [("inputs", tv (rTup K rStr) x_inputs), ("registers", tv (rTup K (rPair K rStr rBl)) x_registers), ("gates", tv rAddr l_gates), ("known", tv rAddr l_known), ("literals", tv (rDic kStr rInt) x_literals)]), some (tv rInt x_one), some (tv rInt x_two), some (tv rInt x_low_1), some (tv rInt x_high_1)] [(l_gates, tcL (rPair K rInt rInt) v4.2.1), (l_known, tcDT kPair rInt v6)] _
            refine nxq ?_
            obtain ⟨v7, h_v7, h_s1⟩ := bindS h_s1
            refine (sv_drop (P := tv rNon ()) (c1 := [(l_gates, tcL (rPair K rInt rInt) v7), (l_known, tcDT kPair rInt v6)]) (ev_app (n := 0) (l := l_gates) (xs1 := v4.2.1) (ev_fld (ev_var (i := 0) rfl) T.cl_Builder T.n_Builder_gates (fg_Builder_5_gates _ _ _ _ _)) (List.mem_of_getElem? (i := 0) rfl) (ev_pair (ev_var (i := 4) rfl) (ev_var (i := 3) rfl)) rfl h_v7) ?_)
            show Im _ [some (tvObj a.c_Builder [("inputs", tv (rTup K rStr) x_inputs), ("registers", tv (rTup K (rPair K rStr rBl)) x_registers), ("gates", tv rAddr l_gates), ("known", tv rAddr l_known), ("literals", tv (rDic kStr rInt) x_literals)]), some (tv rInt x_one), some (tv rInt x_two), some (tv rInt x_low_1), some (tv rInt x_high_1)] [(l_gates, tcL (rPair K rInt rInt) v7), (l_known, tcDT kPair rInt v6)] _
            replace h_s1 := Option.some.inj h_s1
            subst h_s1
            exact im_le (.same (.same (.same (.same (.same .nil))))) (im_sub (List.Sublist.refl _) K_s1)
          · rw [if_neg (nt hb)] at h_s1
            refine sv_next ?_
            replace h_s1 := Option.some.inj h_s1
            subst h_s1
            exact im_le (.same (.same (.same (.same (.same .nil))))) (im_sub (List.Sublist.refl _) K_s1)
def m_Builder_disj (x_inputs : (List (List Nat))) (x_registers : (List ((List Nat) × Bool))) (x_literals : (List ((List Nat) × Int))) (w_gates : (List (Int × Int))) (w_known : (List ((Int × Int) × Int))) (x_one : Int) (x_two : Int) : Option (Int × (List (Int × Int)) × (List ((Int × Int) × Int))) :=
  (m_turned x_one).bind fun v1 => (m_turned x_two).bind fun v2 => (m_Builder_conj x_inputs x_registers x_literals w_gates w_known v1 v2).bind fun v3 => (m_turned v3.1).bind fun v4 => some (v4, v3.2.1, v3.2.2)
def R_Builder_disj (K : PySem.W.Frag) (a : Ad) : Hp → List V → Cells → (Cells → TV → Prop) → Prop := fun G vs c W => ∃ (x_inputs : (List (List Nat))) (x_registers : (List ((List Nat) × Bool))) (l_gates : Addr) (l_known : Addr) (x_literals : (List ((List Nat) × Int))) (x_one : Int) (x_two : Int) (w_gates : (List (Int × Int))) (w_known : (List ((Int × Int) × Int))) (y : Int × (List (Int × Int)) × (List ((Int × Int) × Int))), VsOk G [tvObj a.c_Builder [("inputs", tv (rTup K rStr) x_inputs), ("registers", tv (rTup K (rPair K rStr rBl)) x_registers), ("gates", tv rAddr l_gates), ("known", tv rAddr l_known), ("literals", tv (rDic kStr rInt) x_literals)], tv rInt x_one, tv rInt x_two] vs ∧ c = [(l_gates, tcL (rPair K rInt rInt) w_gates), (l_known, tcDT kPair rInt w_known)] ∧ m_Builder_disj x_inputs x_registers x_literals w_gates w_known x_one x_two = some y ∧ W = W1 [(l_gates, tcL (rPair K rInt rInt) y.2.1), (l_known, tcDT kPair rInt y.2.2)] (tv rInt y.1)
abbrev n_Builder_disj : List Str := ["self", "one", "two"]
theorem sc_Builder_disj : FnScope ["self", "one", "two"] ["self", "one", "two"] (defScope s_Builder_disj) := ⟨rfl, rfl, rfl, by decide +kernel, rfl, by decide +kernel, by decide +kernel⟩
theorem ok_Builder_disj (T : Tx K mg a) : FnOk P w K mg base CX0 3 a.f_Builder_disj a.d_Builder_disj ["self", "one", "two"] (spOf (R_Builder_disj K a)) := by
  refine T.F_Builder_disj.ok sc_Builder_disj (fun vs H Q E h => ?_) (fun cdv A outer s H vs Q E hr h => ?_)
  · obtain ⟨G, c, W, hd, ⟨x_inputs, x_registers, l_gates, l_known, x_literals, x_one, x_two, w_gates, w_known, y, hv, _⟩, hq⟩ := h
    exact hv.len
  · obtain ⟨G, c, W, hd, ⟨x_inputs, x_registers, l_gates, l_known, x_literals, x_one, x_two, w_gates, w_known, y, hv, rfl, hm, rfl⟩, hq⟩ := h
    have hu := hu_of hr
    have hu64 := hr.units
    have hu65 := units65 hr
    refine ⟨_, (pss_one (ps_ret (pe_call (ok_turned T) (hr.mono (by decide)) (by rfl) T.g_turned T.F_turned.kp T.d_turned .nil pass0 (pa_cons (pe_meth (pv 0) T.cl_Builder T.m_Builder_conj (ok_Builder_conj T) (hr.mono (by decide)) T.d_Builder_conj .nil pass0 (pa_cons (pe_call (ok_turned T) (hr.mono (by decide)) (by rfl) T.g_turned T.F_turned.kp T.d_turned .nil pass0 (pa_cons (pv 1) pa_nil)) (pa_cons (pe_call (ok_turned T) (hr.mono (by decide)) (by rfl) T.g_turned T.F_turned.kp T.d_turned .nil pass0 (pa_cons (pv 2) pa_nil)) pa_nil))) pa_nil)))), ?_⟩
    refine (?_ : Sv _ _ ⟨G, [(l_gates, tcL (rPair K rInt rInt) w_gates), (l_known, tcDT kPair rInt w_known)], H⟩ [some (tvObj a.c_Builder [("inputs", tv (rTup K rStr) x_inputs), ("registers", tv (rTup K (rPair K rStr rBl)) x_registers), ("gates", tv rAddr l_gates), ("known", tv rAddr l_known), ("literals", tv (rDic kStr rInt) x_literals)]), some (tv rInt x_one), some (tv rInt x_two)] [(l_gates, tcL (rPair K rInt rInt) w_gates), (l_known, tcDT kPair rInt w_known)]) _ _ (Post.refl hd (env_start (N := n_Builder_disj) hv))
    unfold m_Builder_disj at hm
    obtain ⟨v1, h_v1, hm⟩ := bindS hm
    obtain ⟨v2, h_v2, hm⟩ := bindS hm
    obtain ⟨v3, h_v3, hm⟩ := bindS hm
    obtain ⟨v4, h_v4, hm⟩ := bindS hm
    replace hm := Option.some.inj hm
    subst hm
    exact sv_ret (P := tv rInt v4) (c1 := [(l_gates, tcL (rPair K rInt rInt) v3.2.1), (l_known, tcDT kPair rInt v3.2.2)]) (ev_callP (R := R_turned K) (ea_cons (ev_meth (c2 := [(l_gates, tcL (rPair K rInt rInt) w_gates), (l_known, tcDT kPair rInt w_known)]) (c3 := []) (c4 := [(l_gates, tcL (rPair K rInt rInt) v3.2.1), (l_known, tcDT kPair rInt v3.2.2)]) (R := R_Builder_conj K a) (ev_var (i := 0) rfl) (fn_Builder_5_conj _ _ _ _ _) (ea_cons (ev_callP (R := R_turned K) (ea_cons (ev_var (i := 1) rfl) ea_nil) (fun G vs hvs => ⟨x_one, v1, hvs, rfl, h_v1, rfl⟩)) (ea_cons (ev_callP (R := R_turned K) (ea_cons (ev_var (i := 2) rfl) ea_nil) (fun G vs hvs => ⟨x_two, v2, hvs, rfl, h_v2, rfl⟩)) ea_nil)) (fun G v vs hv hvs => ⟨x_inputs, x_registers, l_gates, l_known, x_literals, v1, v2, w_gates, w_known, v3, ⟨hv, hvs⟩, rfl, h_v3, rfl⟩)) ea_nil) (fun G vs hvs => ⟨v3.1, v4, hvs, rfl, h_v4, rfl⟩)) (RT.sub (List.Sublist.refl _) (fun v G' H' ap pp => hq _ _ v G' H' ⟨rfl, rfl⟩ ap pp))
def m_Builder_net (x_inputs : (List (List Nat))) (x_registers : (List ((List Nat) × Bool))) (x_literals : (List ((List Nat) × Int))) (w_gates : (List (Int × Int))) (w_known : (List ((Int × Int) × Int))) (x_outputs : (List ((List Nat) × Int))) (x_nexts : (List Int)) : Option (((List (List Nat)) × (List ((List Nat) × Bool)) × (List (Int × Int)) × (List ((List Nat) × Int)) × (List Int)) × (List (Int × Int)) × (List ((Int × Int) × Int))) :=
  (m_trimmed (x_inputs, x_registers, w_gates, x_outputs, x_nexts)).bind fun v1 => some (v1, w_gates, w_known)
def R_Builder_net (K : PySem.W.Frag) (a : Ad) : Hp → List V → Cells → (Cells → TV → Prop) → Prop := fun G vs c W => ∃ (x_inputs : (List (List Nat))) (x_registers : (List ((List Nat) × Bool))) (l_gates : Addr) (l_known : Addr) (x_literals : (List ((List Nat) × Int))) (x_outputs : (List ((List Nat) × Int))) (x_nexts : (List Int)) (w_gates : (List (Int × Int))) (w_known : (List ((Int × Int) × Int))) (y : ((List (List Nat)) × (List ((List Nat) × Bool)) × (List (Int × Int)) × (List ((List Nat) × Int)) × (List Int)) × (List (Int × Int)) × (List ((Int × Int) × Int))), VsOk G [tvObj a.c_Builder [("inputs", tv (rTup K rStr) x_inputs), ("registers", tv (rTup K (rPair K rStr rBl)) x_registers), ("gates", tv rAddr l_gates), ("known", tv rAddr l_known), ("literals", tv (rDic kStr rInt) x_literals)], tv (rLst (rPair K rStr rInt)) x_outputs, tv (rLst rInt) x_nexts] vs ∧ c = [(l_gates, tcL (rPair K rInt rInt) w_gates), (l_known, tcDT kPair rInt w_known)] ∧ m_Builder_net x_inputs x_registers x_literals w_gates w_known x_outputs x_nexts = some y ∧ W = W1 [(l_gates, tcL (rPair K rInt rInt) y.2.1), (l_known, tcDT kPair rInt y.2.2)] (tv (rQui K (rTup K rStr) (rTup K (rPair K rStr rBl)) (rTup K (rPair K rInt rInt)) (rTup K (rPair K rStr rInt)) (rTup K rInt)) y.1)
abbrev n_Builder_net : List Str := ["self", "outputs", "nexts"]
theorem sc_Builder_net : FnScope ["self", "outputs", "nexts"] ["self", "outputs", "nexts"] (defScope s_Builder_net) := ⟨rfl, rfl, rfl, by decide +kernel, rfl, by decide +kernel, by decide +kernel⟩
theorem ok_Builder_net (T : Tx K mg a) : FnOk P w K mg base CX0 4 a.f_Builder_net a.d_Builder_net ["self", "outputs", "nexts"] (spOf (R_Builder_net K a)) := by
  refine T.F_Builder_net.ok sc_Builder_net (fun vs H Q E h => ?_) (fun cdv A outer s H vs Q E hr h => ?_)
  · obtain ⟨G, c, W, hd, ⟨x_inputs, x_registers, l_gates, l_known, x_literals, x_outputs, x_nexts, w_gates, w_known, y, hv, _⟩, hq⟩ := h
    exact hv.len
  · obtain ⟨G, c, W, hd, ⟨x_inputs, x_registers, l_gates, l_known, x_literals, x_outputs, x_nexts, w_gates, w_known, y, hv, rfl, hm, rfl⟩, hq⟩ := h
    have hu := hu_of hr
    have hu64 := hr.units
    have hu65 := units65 hr
    refine ⟨_, (pss_one (ps_ret (pe_call (ok_trimmed T) (hr.mono (by decide)) (by rfl) T.g_trimmed T.F_trimmed.kp T.d_trimmed .nil pass0 (pa_cons (pe_tup (pa_cons (pe_fld (pv 0) rfl) (pa_cons (pe_fld (pv 0) rfl) (pa_cons (pe_callTy (T := "tuple") call_tuple_of (by rfl) T.b_tuple (by decide +kernel) (pa_cons (pe_fld (pv 0) rfl) pa_nil)) (pa_cons (pe_callTy (T := "tuple") call_tuple_of (by rfl) T.b_tuple (by decide +kernel) (pa_cons (pv 1) pa_nil)) (pa_cons (pe_callTy (T := "tuple") call_tuple_of (by rfl) T.b_tuple (by decide +kernel) (pa_cons (pv 2) pa_nil)) pa_nil)))))) pa_nil)))), ?_⟩
    refine (?_ : Sv _ _ ⟨G, [(l_gates, tcL (rPair K rInt rInt) w_gates), (l_known, tcDT kPair rInt w_known)], H⟩ [some (tvObj a.c_Builder [("inputs", tv (rTup K rStr) x_inputs), ("registers", tv (rTup K (rPair K rStr rBl)) x_registers), ("gates", tv rAddr l_gates), ("known", tv rAddr l_known), ("literals", tv (rDic kStr rInt) x_literals)]), some (tv (rLst (rPair K rStr rInt)) x_outputs), some (tv (rLst rInt) x_nexts)] [(l_gates, tcL (rPair K rInt rInt) w_gates), (l_known, tcDT kPair rInt w_known)]) _ _ (Post.refl hd (env_start (N := n_Builder_net) hv))
    unfold m_Builder_net at hm
    obtain ⟨v1, h_v1, hm⟩ := bindS hm
    replace hm := Option.some.inj hm
    subst hm
    exact sv_ret (P := tv (rQui K (rTup K rStr) (rTup K (rPair K rStr rBl)) (rTup K (rPair K rInt rInt)) (rTup K (rPair K rStr rInt)) (rTup K rInt)) v1) (c1 := [(l_gates, tcL (rPair K rInt rInt) w_gates), (l_known, tcDT kPair rInt w_known)]) (ev_callP (R := R_trimmed K) (ea_cons (ev_qui (ev_fld (ev_var (i := 0) rfl) T.cl_Builder T.n_Builder_inputs (fg_Builder_5_inputs _ _ _ _ _)) (ev_fld (ev_var (i := 0) rfl) T.cl_Builder T.n_Builder_registers (fg_Builder_5_registers _ _ _ _ _)) (ev_tupO (ev_fld (ev_var (i := 0) rfl) T.cl_Builder T.n_Builder_gates (fg_Builder_5_gates _ _ _ _ _)) (List.mem_of_getElem? (i := 0) rfl)) (ev_tupL (ev_var (i := 1) rfl)) (ev_tupL (ev_var (i := 2) rfl))) ea_nil) (fun G vs hvs => ⟨(x_inputs, x_registers, w_gates, x_outputs, x_nexts), v1, hvs, rfl, h_v1, rfl⟩)) (RT.sub (List.Sublist.refl _) (fun v G' H' ap pp => hq _ _ v G' H' ⟨rfl, rfl⟩ ap pp))
def m_sign_names (x_signs : (List Nat)) : Option ((List (List Nat))) :=
  (m_width_of ((x_signs.length : Int) - (1 : Int))).bind fun v1 => (rng1O v1).bind fun v2 => (mapO (fun x1 : Int => (strO x1).bind fun v3 => (catO ([115, 46] : List Nat) v3).bind fun v4 => some v4) v2).bind fun v5 => some v5
def R_sign_names (K : PySem.W.Frag) : Hp → List V → Cells → (Cells → TV → Prop) → Prop := fun G vs c W => ∃ (x_signs : (List Nat)) (y : (List (List Nat))), VsOk G [tv rStr x_signs] vs ∧ c = [] ∧ m_sign_names x_signs = some y ∧ W = W1 [] (tv (rLst rStr) y)
abbrev n_sign_names : List Str := ["signs", "bit"]
theorem sc_sign_names : FnScope ["signs", "bit"] ["signs"] (defScope s_sign_names) := ⟨rfl, rfl, rfl, by decide +kernel, rfl, by decide +kernel, by decide +kernel⟩
theorem ok_sign_names (T : Tx K mg a) : FnOk P w K mg base CX0 3 a.f_sign_names a.d_sign_names ["signs"] (spOf (R_sign_names K)) := by
  refine T.F_sign_names.ok sc_sign_names (fun vs H Q E h => ?_) (fun cdv A outer s H vs Q E hr h => ?_)
  · obtain ⟨G, c, W, hd, ⟨x_signs, y, hv, _⟩, hq⟩ := h
    exact hv.len
  · obtain ⟨G, c, W, hd, ⟨x_signs, y, hv, rfl, hm, rfl⟩, hq⟩ := h
    have hu := hu_of hr
    have hu64 := hr.units
    have hu65 := units65 hr
    refine ⟨_, (pss_one (ps_ret (pe_lc (own := [("bit", 1)]) (wi := (iRng1 (tCons (tCall (spOf (R_width_of K)) [] E0 (tCons (tOp (rI0 fun i j => .int (i - j)) (tCB (TW.rLen K) (tCons (tVar 0) tNil)) (tC (.int 1))) tNil)) tNil))) (g := (gName 1)) (tt := tYes) (te := (tOp rCatX (tC (.str (PySem.Str.ofString "s."))) (tCB rStrIX (tCons (tVar 1) tNil)))) rfl sc_sign_names.nd (pi_range1 (by rfl) T.b_range (pa_cons (pe_call (ok_width_of T) (hr.mono (by decide)) (by rfl) T.g_width_of T.F_width_of.kp T.d_width_of .nil pass0 (pa_cons (pe_op op_sub (pe_callB (id := "len") k_len (by rfl) T.b_len (by decide +kernel) (pa_cons (pv 0) pa_nil)) pe_int) pa_nil)) pa_nil)) (blkOk_by (by kernel_rfl)) (fun _ _ _ _ _ => (pg_name (i := 1) sc_sign_names.nd (by rfl) (by first | exact Or.inl rfl | exact Or.inr rfl) (by first | exact Or.inr rfl | exact Or.inl rfl))) (fun _ _ _ _ _ => pts_nil) (fun _ _ _ _ _ => (pe_op k_catS pe_str (pe_callTy (T := "str") call_str_int (by rfl) T.b_str (by decide +kernel) (pa_cons (pv 1) pa_nil))))))), ?_⟩
    refine (?_ : Sv _ _ ⟨G, [], H⟩ [some (tv rStr x_signs), none] []) _ _ (Post.refl hd (env_start (N := n_sign_names) hv))
    unfold m_sign_names at hm
    obtain ⟨v1, h_v1, hm⟩ := bindS hm
    obtain ⟨v2, h_v2, hm⟩ := bindS hm
    obtain ⟨v5, h_v5, hm⟩ := bindS hm
    replace hm := Option.some.inj hm
    subst hm
    exact sv_ret (P := tv (rLst rStr) v5) (c1 := []) (ev_frz (en_lc (rβ := rStr) _ (fun x1 => [some (tv rStr x_signs), some (tv rInt x1)]) (ei_rng1 (ev_callP (R := R_width_of K) (ea_cons (ev_sub (ev_lenS (ev_var (i := 0) rfl)) (ev_int (i := 1))) ea_nil) (fun G vs hvs => ⟨((x_signs.length : Int) - (1 : Int)), v1, hvs, rfl, h_v1, rfl⟩)) h_v2) (fun x1 => (pt_name (by decide))) (fun x1 z1 hh_z1 => by obtain ⟨v3, h_v3, hh_z1⟩ := bindS hh_z1; obtain ⟨v4, h_v4, hh_z1⟩ := bindS hh_z1; replace hh_z1 := Option.some.inj hh_z1; subst hh_z1; exact (ev_catS (ev_str (x := [115, 46]) (by decide +kernel) (by decide +kernel)) (ev_strI (ev_var (i := 1) rfl) h_v3) h_v4)) _ h_v5)) (RT.sub (List.Sublist.refl _) (fun v G' H' ap pp => hq _ _ v G' H' ⟨rfl, rfl⟩ ap pp))
def m_line_names (x_machine : (List (Bool × (List Int)))) (x_name : (List Nat)) : Option ((List (List Nat))) :=
  (m_width_of ((x_machine.length : Int) - (1 : Int))).bind fun v1 => (rng1O v1).bind fun v2 => (mapO (fun x1 : Int => (catO x_name ([46] : List Nat)).bind fun v3 => (strO x1).bind fun v4 => (catO v3 v4).bind fun v5 => some v5) v2).bind fun v6 => some v6
def R_line_names (K : PySem.W.Frag) : Hp → List V → Cells → (Cells → TV → Prop) → Prop := fun G vs c W => ∃ (x_machine : (List (Bool × (List Int)))) (x_name : (List Nat)) (y : (List (List Nat))), VsOk G [tv (rTup K (rPair K rBl (rTup K rInt))) x_machine, tv rStr x_name] vs ∧ c = [] ∧ m_line_names x_machine x_name = some y ∧ W = W1 [] (tv (rLst rStr) y)
abbrev n_line_names : List Str := ["machine", "name", "bit"]
theorem sc_line_names : FnScope ["machine", "name", "bit"] ["machine", "name"] (defScope s_line_names) := ⟨rfl, rfl, rfl, by decide +kernel, rfl, by decide +kernel, by decide +kernel⟩
theorem ok_line_names (T : Tx K mg a) : FnOk P w K mg base CX0 3 a.f_line_names a.d_line_names ["machine", "name"] (spOf (R_line_names K)) := by
  refine T.F_line_names.ok sc_line_names (fun vs H Q E h => ?_) (fun cdv A outer s H vs Q E hr h => ?_)
  · obtain ⟨G, c, W, hd, ⟨x_machine, x_name, y, hv, _⟩, hq⟩ := h
    exact hv.len
  · obtain ⟨G, c, W, hd, ⟨x_machine, x_name, y, hv, rfl, hm, rfl⟩, hq⟩ := h
    have hu := hu_of hr
    have hu64 := hr.units
    have hu65 := units65 hr
    refine ⟨_, (pss_one (ps_ret (pe_lc (own := [("bit", 2)]) (wi := (iRng1 (tCons (tCall (spOf (R_width_of K)) [] E0 (tCons (tOp (rI0 fun i j => .int (i - j)) (tCB (TW.rLen K) (tCons (tVar 0) tNil)) (tC (.int 1))) tNil)) tNil))) (g := (gName 2)) (tt := tYes) (te := (tOp rCatX (tOp rCatX (tVar 1) (tC (.str (PySem.Str.ofString ".")))) (tCB rStrIX (tCons (tVar 2) tNil)))) rfl sc_line_names.nd (pi_range1 (by rfl) T.b_range (pa_cons (pe_call (ok_width_of T) (hr.mono (by decide)) (by rfl) T.g_width_of T.F_width_of.kp T.d_width_of .nil pass0 (pa_cons (pe_op op_sub (pe_callB (id := "len") k_len (by rfl) T.b_len (by decide +kernel) (pa_cons (pv 0) pa_nil)) pe_int) pa_nil)) pa_nil)) (blkOk_by (by kernel_rfl)) (fun _ _ _ _ _ => (pg_name (i := 2) sc_line_names.nd (by rfl) (by first | exact Or.inl rfl | exact Or.inr rfl) (by first | exact Or.inr rfl | exact Or.inl rfl))) (fun _ _ _ _ _ => pts_nil) (fun _ _ _ _ _ => (pe_op k_catS (pe_op k_catS (pv 1) pe_str) (pe_callTy (T := "str") call_str_int (by rfl) T.b_str (by decide +kernel) (pa_cons (pv 2) pa_nil))))))), ?_⟩
    refine (?_ : Sv _ _ ⟨G, [], H⟩ [some (tv (rTup K (rPair K rBl (rTup K rInt))) x_machine), some (tv rStr x_name), none] []) _ _ (Post.refl hd (env_start (N := n_line_names) hv))
    unfold m_line_names at hm
    obtain ⟨v1, h_v1, hm⟩ := bindS hm
    obtain ⟨v2, h_v2, hm⟩ := bindS hm
    obtain ⟨v6, h_v6, hm⟩ := bindS hm
    replace hm := Option.some.inj hm
    subst hm
    exact sv_ret (P := tv (rLst rStr) v6) (c1 := []) (ev_frz (en_lc (rβ := rStr) _ (fun x1 => [some (tv (rTup K (rPair K rBl (rTup K rInt))) x_machine), some (tv rStr x_name), some (tv rInt x1)]) (ei_rng1 (ev_callP (R := R_width_of K) (ea_cons (ev_sub (ev_lenT (ev_var (i := 0) rfl)) (ev_int (i := 1))) ea_nil) (fun G vs hvs => ⟨((x_machine.length : Int) - (1 : Int)), v1, hvs, rfl, h_v1, rfl⟩)) h_v2) (fun x1 => (pt_name (by decide))) (fun x1 z1 hh_z1 => by obtain ⟨v3, h_v3, hh_z1⟩ := bindS hh_z1; obtain ⟨v4, h_v4, hh_z1⟩ := bindS hh_z1; obtain ⟨v5, h_v5, hh_z1⟩ := bindS hh_z1; replace hh_z1 := Option.some.inj hh_z1; subst hh_z1; exact (ev_catS (ev_catS (ev_var (i := 1) rfl) (ev_str (x := [46]) (by decide +kernel) (by decide +kernel)) h_v3) (ev_strI (ev_var (i := 2) rfl) h_v4) h_v5)) _ h_v6)) (RT.sub (List.Sublist.refl _) (fun v G' H' ap pp => hq _ _ v G' H' ⟨rfl, rfl⟩ ap pp))
def m_Making___init__ (x_machines : (List (Bool × (List Int)))) (x_names : (List Nat)) (x_signs : (List Nat)) : Option ((List Nat) × (List (List Nat)) × (List ((List Nat) × Bool)) × (List (Int × Int)) × (List ((Int × Int) × Int)) × (List ((List Nat) × Int))) :=
  (lc2O (fun x1 : (List Nat) => (dgetO [(([] : List Nat), x_machines)] x1).bind fun v1 => (dgetO [(([] : List Nat), x_names)] x1).bind fun v2 => (m_line_names v1 v2).bind fun v3 => some v3) (fun (x1 : (List Nat)) (x2 : (List Nat)) => some (x2, false)) [[]]).bind fun v4 => (m_sign_names x_signs).bind fun v5 => (m_Builder___init__ v5 v4).bind fun v6 => some (x_signs, v6.1, v6.2.1, v6.2.2.1, v6.2.2.2.1, v6.2.2.2.2)
def WB_Making (K : PySem.W.Frag) (a : Ad) (y : (List Nat) × (List (List Nat)) × (List ((List Nat) × Bool)) × (List (Int × Int)) × (List ((Int × Int) × Int)) × (List ((List Nat) × Int))) : Cells → TV → Prop := fun c' O => ∃ (l_gates : Addr) (l_known : Addr), c' = [(l_gates, tcL (rPair K rInt rInt) y.2.2.2.1), (l_known, tcDT kPair rInt y.2.2.2.2.1)] ∧ O = tvObj a.c_Making [("signs", tv rStr y.1), ("builder", tvObj a.c_Builder [("inputs", tv (rTup K rStr) y.2.1), ("registers", tv (rTup K (rPair K rStr rBl)) y.2.2.1), ("gates", tv rAddr l_gates), ("known", tv rAddr l_known), ("literals", tv (rDic kStr rInt) y.2.2.2.2.2)])]
def R_Making___init__ (K : PySem.W.Frag) (a : Ad) : Hp → List V → Cells → (Cells → TV → Prop) → Prop := fun G vs c W => ∃ (p_self : Addr) (x_machines : (List (Bool × (List Int)))) (x_names : (List Nat)) (x_signs : (List Nat)) (y : (List Nat) × (List (List Nat)) × (List ((List Nat) × Bool)) × (List (Int × Int)) × (List ((Int × Int) × Int)) × (List ((List Nat) × Int))), VsOk G [tv rAddr p_self, tv (rDic kStr (rTup K (rPair K rBl (rTup K rInt)))) [(([] : List Nat), x_machines)], tv (rDic kStr rStr) [(([] : List Nat), x_names)], tv rStr x_signs] vs ∧ c = [(p_self, tcIns a.c_Making [])] ∧ m_Making___init__ x_machines x_names x_signs = some y ∧ W = (fun c' P => ∃ O, P = tvInit p_self O ∧ WB_Making K a y c' O)
abbrev n_Making___init__ : List Str := ["self", "machines", "names", "signs", "registers", "name", "each"]
theorem sc_Making___init__ : FnScope ["self", "machines", "names", "signs", "registers", "name", "each"] ["self", "machines", "names", "signs"] (defScope s_Making___init__) := ⟨rfl, rfl, rfl, by decide +kernel, rfl, by decide +kernel, by decide +kernel⟩
theorem ok_Making___init__ (T : Tx K mg a) : FnOk P w K mg base CX0 4 a.f_Making___init__ a.d_Making___init__ ["self", "machines", "names", "signs"] (spOf (R_Making___init__ K a)) := by
  refine T.F_Making___init__.ok sc_Making___init__ (fun vs H Q E h => ?_) (fun cdv A outer s H vs Q E hr h => ?_)
  · obtain ⟨G, c, W, hd, ⟨p_self, x_machines, x_names, x_signs, y, hv, _⟩, hq⟩ := h
    exact hv.len
  · obtain ⟨G, c, W, hd, ⟨p_self, x_machines, x_names, x_signs, y, hv, rfl, hm, rfl⟩, hq⟩ := h
    have hu := hu_of hr
    have hu64 := hr.units
    have hu65 := units65 hr
    refine ⟨_, (pss_cons (ps_setLc2 (i := 4) (own := [("name", 5), ("each", 6)]) (vs1 := [6]) (wi := (iList K (tCB rSortedD (tCons (tVar 1) tNil)))) (g := (gName 5)) (tt := tYes) (wi1 := (iList K (tCall (spOf (R_line_names K)) [] E0 (tCons (tDGet (tVar 1) (tVar 5)) (tCons (tDGet (tVar 2) (tVar 5)) tNil))))) (g1 := (gName 6)) (tt1 := tYes) (te := (tTup (tCons (tVar 6) (tCons (tC (.bl false)) tNil)))) rfl sc_Making___init__.nd (by rfl) (by rfl) (sw_true rfl (by rfl) (by rfl) (by decide +kernel)) (pi_list (pe_callB (id := "sorted") (call_sortedD rfl) (by rfl) T.b_sorted (by decide +kernel) (pa_cons (pv 1) pa_nil))) (blkOk_by (by kernel_rfl)) (by decide) (fun _ _ _ _ _ => (pg_name (i := 5) sc_Making___init__.nd (by rfl) (by first | exact Or.inl rfl | exact Or.inr rfl) (by first | exact Or.inr rfl | exact Or.inl rfl))) (fun _ _ _ _ _ => pts_nil) (fun _ _ _ _ _ => (pi_list (pe_call (ok_line_names T) (hr.mono (by decide)) (by rfl) T.g_line_names T.F_line_names.kp T.d_line_names .nil pass0 (pa_cons (pe_dget hu (pv 1) (pv 5) (fun _ _ => rfl)) (pa_cons (pe_dget hu (pv 2) (pv 5) (fun _ _ => rfl)) pa_nil))))) (fun _ _ _ _ _ => (pg_name (i := 6) sc_Making___init__.nd (by rfl) (by first | exact Or.inl rfl | exact Or.inr rfl) (by first | exact Or.inr rfl | exact Or.inl rfl))) (fun _ _ _ _ _ => pts_nil) (fun _ _ _ _ _ => (pe_tup (pa_cons (pv 6) (pa_cons pe_bl pa_nil)))))
      (pss_cons (ps_fld (pv 0) (pv 3) rfl)
      (pss_one (ps_fld (pv 0) (pe_make T.mk_Builder (ok_Builder___init__ T) (hr.mono (by decide)) (by rfl) T.gc_Builder T.d_Builder___init__ .nil pass0 (pa_cons (pe_call (ok_sign_names T) (hr.mono (by decide)) (by rfl) T.g_sign_names T.F_sign_names.kp T.d_sign_names .nil pass0 (pa_cons (pv 3) pa_nil)) (pa_cons (pv 4) pa_nil))) rfl)))), ?_⟩
    refine (?_ : Sv _ _ ⟨G, [(p_self, tcIns a.c_Making [])], H⟩ [some (tv rAddr p_self), some (tv (rDic kStr (rTup K (rPair K rBl (rTup K rInt)))) [(([] : List Nat), x_machines)]), some (tv (rDic kStr rStr) [(([] : List Nat), x_names)]), some (tv rStr x_signs), none, none, none] [(p_self, tcIns a.c_Making [])]) _ _ (Post.refl hd (env_start (N := n_Making___init__) hv))
    unfold m_Making___init__ at hm
    obtain ⟨v4, h_v4, hm⟩ := bindS hm
    refine sv_seq (sv_asg (P := tv (rLst (rPair K rStr rBl)) v4) (c1 := [(p_self, tcIns a.c_Making [])]) (ev_frz (en_lc2 (rβ := (rPair K rStr rBl)) _ _ (fun x1 => [some (tv rAddr p_self), some (tv (rDic kStr (rTup K (rPair K rBl (rTup K rInt)))) [(([] : List Nat), x_machines)]), some (tv (rDic kStr rStr) [(([] : List Nat), x_names)]), some (tv rStr x_signs), none, some (tv rStr x1), none]) (fun x1 x2 => [some (tv rAddr p_self), some (tv (rDic kStr (rTup K (rPair K rBl (rTup K rInt)))) [(([] : List Nat), x_machines)]), some (tv (rDic kStr rStr) [(([] : List Nat), x_names)]), some (tv rStr x_signs), none, some (tv rStr x1), some (tv rStr x2)]) (ei_lst (ev_sortedD1 (k := []) (by decide) (ev_var (i := 1) rfl))) (fun x1 => (pt_name (by decide))) (fun x1 z1 hh_z1 => by obtain ⟨v1, h_v1, hh_z1⟩ := bindS hh_z1; obtain ⟨v2, h_v2, hh_z1⟩ := bindS hh_z1; obtain ⟨v3, h_v3, hh_z1⟩ := bindS hh_z1; replace hh_z1 := Option.some.inj hh_z1; subst hh_z1; exact (ei_lst (ev_callP (R := R_line_names K) (ea_cons (ev_dget keyS (ev_var (i := 1) rfl) (ev_var (i := 5) rfl) h_v1) (ea_cons (ev_dget keyS (ev_var (i := 2) rfl) (ev_var (i := 5) rfl) h_v2) ea_nil)) (fun G vs hvs => ⟨v1, v2, v3, hvs, rfl, h_v3, rfl⟩)))) (fun x1 x2 => (pt_name (by decide))) (fun x1 x2 z2 hh_z2 => by replace hh_z2 := Option.some.inj hh_z2; subst hh_z2; exact (ev_pair (ev_var (i := 6) rfl) ev_bl)) _ h_v4)) ?_)
    show Im _ [some (tv rAddr p_self), some (tv (rDic kStr (rTup K (rPair K rBl (rTup K rInt)))) [(([] : List Nat), x_machines)]), some (tv (rDic kStr rStr) [(([] : List Nat), x_names)]), some (tv rStr x_signs), some (tv (rLst (rPair K rStr rBl)) v4), none, none] [(p_self, tcIns a.c_Making [])] _
    refine nxq ?_
    refine sv_seq (sv_fld (P := tv rStr x_signs) (p := p_self) (n := 0) (ev_var (i := 3) rfl) (ev_var (i := 0) rfl) rfl T.cl_Making T.n_Making_signs (by show 0 < 1000; decide) ?_)
    rw [fp_Making_0_signs]
    show Im _ [some (tv rAddr p_self), some (tv (rDic kStr (rTup K (rPair K rBl (rTup K rInt)))) [(([] : List Nat), x_machines)]), some (tv (rDic kStr rStr) [(([] : List Nat), x_names)]), some (tv rStr x_signs), some (tv (rLst (rPair K rStr rBl)) v4), none, none] [(p_self, tcIns a.c_Making [("signs", tv rStr x_signs)])] _
    refine nxq ?_
    obtain ⟨v5, h_v5, hm⟩ := bindS hm
    obtain ⟨v6, h_v6, hm⟩ := bindS hm
    refine (sv_fldX (p := p_self) (n := 0) (evx_make (W := fun _ => WB_Builder K a v6) (R := R_Builder___init__ K a) (ea_cons (ev_callP (R := R_sign_names K) (ea_cons (ev_var (i := 3) rfl) ea_nil) (fun G vs hvs => ⟨x_signs, v5, hvs, rfl, h_v5, rfl⟩)) (ea_cons (ev_var (i := 4) rfl) ea_nil)) (fun x G vs hvs => ⟨x, v5, v4, v6, ⟨rfl, hvs⟩, rfl, h_v6, rfl⟩)) (fun c2 P2 w2 => by obtain ⟨_, _, ⟨l_gates1, l_known1, rfl, rfl⟩, e2⟩ := w2; subst e2; exact (ev_var (i := 0) rfl)) (fun c2 P2 w2 => by obtain ⟨_, _, ⟨l_gates1, l_known1, rfl, rfl⟩, e2⟩ := w2; subst e2; rfl) T.cl_Making T.n_Making_builder (by show 1 < 1000; decide) ?_)
    rintro _ _ ⟨x_new, _, ⟨l_gates1, l_known1, rfl, rfl⟩, e2⟩
    subst e2
    rw [fp_Making_1_builder]
    show Im _ [some (tv rAddr p_self), some (tv (rDic kStr (rTup K (rPair K rBl (rTup K rInt)))) [(([] : List Nat), x_machines)]), some (tv (rDic kStr rStr) [(([] : List Nat), x_names)]), some (tv rStr x_signs), some (tv (rLst (rPair K rStr rBl)) v4), none, none] [(p_self, tcIns a.c_Making [("signs", tv rStr x_signs), ("builder", tvObj a.c_Builder [("inputs", tv (rTup K rStr) v6.1), ("registers", tv (rTup K (rPair K rStr rBl)) v6.2.1), ("gates", tv rAddr l_gates1), ("known", tv rAddr l_known1), ("literals", tv (rDic kStr rInt) v6.2.2.2.2)])]), (l_gates1, tcL (rPair K rInt rInt) v6.2.2.1), (l_known1, tcDT kPair rInt v6.2.2.2.1)] _
    replace hm := Option.some.inj hm
    subst hm
    exact im_init (n := 0) (x := p_self) (c0 := [(l_gates1, tcL (rPair K rInt rInt) v6.2.2.1), (l_known1, tcDT kPair rInt v6.2.2.2.1)]) rfl (List.Sublist.refl _) (fun v G' H' ap pp => hq _ _ v G' H' ⟨_, rfl, l_gates1, l_known1, rfl, rfl⟩ ap pp)
def m_Making_coded (x_signs : (List Nat)) (x_builder_inputs : (List (List Nat))) (x_builder_registers : (List ((List Nat) × Bool))) (x_builder_literals : (List ((List Nat) × Int))) (w_builder_gates : (List (Int × Int))) (w_builder_known : (List ((Int × Int) × Int))) (x_names : (List (List Nat))) (x_number : Int) : Option (Int × (List (Int × Int)) × (List ((Int × Int) × Int))) :=
  (some (1 : Int)).bind fun x_found_1 => (foldO (fun (s1 : Int × (List (Int × Int)) × (List ((Int × Int) × Int))) (x1 : (Int × (List Nat))) => (dgetO x_builder_literals x1.2).bind fun v1 => (m_bit_of x_number x1.1).bind fun v2 => (if (decide (v2 = (1 : Int))) = true then some v1 else (m_turned v1).bind fun v3 => some v3).bind fun v4 => (m_Builder_conj x_builder_inputs x_builder_registers x_builder_literals s1.2.1 s1.2.2 s1.1 v4).bind fun v5 => some (v5.1, v5.2.1, v5.2.2)) (x_found_1, w_builder_gates, w_builder_known) (enL x_names)).bind fun (s2 : Int × (List (Int × Int)) × (List ((Int × Int) × Int))) => some (s2.1, s2.2.1, s2.2.2)
def R_Making_coded (K : PySem.W.Frag) (a : Ad) : Hp → List V → Cells → (Cells → TV → Prop) → Prop := fun G vs c W => ∃ (x_signs : (List Nat)) (x_builder_inputs : (List (List Nat))) (x_builder_registers : (List ((List Nat) × Bool))) (l_builder_gates : Addr) (l_builder_known : Addr) (x_builder_literals : (List ((List Nat) × Int))) (x_names : (List (List Nat))) (x_number : Int) (w_builder_gates : (List (Int × Int))) (w_builder_known : (List ((Int × Int) × Int))) (y : Int × (List (Int × Int)) × (List ((Int × Int) × Int))), VsOk G [tvObj a.c_Making [("signs", tv rStr x_signs), ("builder", tvObj a.c_Builder [("inputs", tv (rTup K rStr) x_builder_inputs), ("registers", tv (rTup K (rPair K rStr rBl)) x_builder_registers), ("gates", tv rAddr l_builder_gates), ("known", tv rAddr l_builder_known), ("literals", tv (rDic kStr rInt) x_builder_literals)])], tv (rLst rStr) x_names, tv rInt x_number] vs ∧ c = [(l_builder_gates, tcL (rPair K rInt rInt) w_builder_gates), (l_builder_known, tcDT kPair rInt w_builder_known)] ∧ m_Making_coded x_signs x_builder_inputs x_builder_registers x_builder_literals w_builder_gates w_builder_known x_names x_number = some y ∧ W = W1 [(l_builder_gates, tcL (rPair K rInt rInt) y.2.1), (l_builder_known, tcDT kPair rInt y.2.2)] (tv rInt y.1)
abbrev n_Making_coded : List Str := ["self", "names", "number", "found", "bit", "name", "literal"]
theorem sc_Making_coded : FnScope ["self", "names", "number", "found", "bit", "name", "literal"] ["self", "names", "number"] (defScope s_Making_coded) := ⟨rfl, rfl, rfl, by decide +kernel, rfl, by decide +kernel, by decide +kernel⟩
theorem ok_Making_coded (T : Tx K mg a) : FnOk P w K mg base CX0 3 a.f_Making_coded a.d_Making_coded ["self", "names", "number"] (spOf (R_Making_coded K a)) := by
  refine T.F_Making_coded.ok sc_Making_coded (fun vs H Q E h => ?_) (fun cdv A outer s H vs Q E hr h => ?_)
  · obtain ⟨G, c, W, hd, ⟨x_signs, x_builder_inputs, x_builder_registers, l_builder_gates, l_builder_known, x_builder_literals, x_names, x_number, w_builder_gates, w_builder_known, y, hv, _⟩, hq⟩ := h
    exact hv.len
  · obtain ⟨G, c, W, hd, ⟨x_signs, x_builder_inputs, x_builder_registers, l_builder_gates, l_builder_known, x_builder_literals, x_names, x_number, w_builder_gates, w_builder_known, y, hv, rfl, hm, rfl⟩, hq⟩ := h
    have hu := hu_of hr
    have hu64 := hr.units
    have hu65 := units65 hr
    refine ⟨_, (pss_cons (ps_set (i := 3) sc_Making_coded.nd (by rfl) (by first | exact Or.inl rfl | exact Or.inr rfl) pe_int)
      (pss_cons (ps_for PassesOwn.never rfl (pi_enumS (by rfl) T.b_enumerate (pa_cons (pv 1) pa_nil)) (pg_tup rfl (pgs_cons (pg_name (i := 4) sc_Making_coded.nd (by rfl) (by first | exact Or.inl rfl | exact Or.inr rfl) (by first | exact Or.inr rfl | exact Or.inl rfl)) (pgs_cons (pg_name (i := 5) sc_Making_coded.nd (by rfl) (by first | exact Or.inl rfl | exact Or.inr rfl) (by first | exact Or.inr rfl | exact Or.inl rfl)) pgs_nil))) (pss_cons (ps_set (i := 6) sc_Making_coded.nd (by rfl) (by first | exact Or.inl rfl | exact Or.inr rfl) (pe_dget hu (pe_fld (pe_fld (pv 0) rfl) rfl) (pv 5) (fun _ _ => rfl)))
      (pss_one (ps_set (i := 3) sc_Making_coded.nd (by rfl) (by first | exact Or.inl rfl | exact Or.inr rfl) (pe_meth (pe_fld (pv 0) rfl) T.cl_Builder T.m_Builder_conj (ok_Builder_conj T) (hr.mono (by decide)) T.d_Builder_conj .nil pass0 (pa_cons (pv 3) (pa_cons (pe_ifExp (pt_cmpR op_eq (pe_call (ok_bit_of T) (hr.mono (by decide)) (by rfl) T.g_bit_of T.F_bit_of.kp T.d_bit_of .nil pass0 (pa_cons (pv 2) (pa_cons (pv 4) pa_nil))) pe_int (nomark _)) (pv 6) (pe_call (ok_turned T) (hr.mono (by decide)) (by rfl) T.g_turned T.F_turned.kp T.d_turned .nil pass0 (pa_cons (pv 6) pa_nil))) pa_nil)))))))
      (pss_one (ps_ret (pv 3))))), ?_⟩
    refine (?_ : Sv _ _ ⟨G, [(l_builder_gates, tcL (rPair K rInt rInt) w_builder_gates), (l_builder_known, tcDT kPair rInt w_builder_known)], H⟩ [some (tvObj a.c_Making [("signs", tv rStr x_signs), ("builder", tvObj a.c_Builder [("inputs", tv (rTup K rStr) x_builder_inputs), ("registers", tv (rTup K (rPair K rStr rBl)) x_builder_registers), ("gates", tv rAddr l_builder_gates), ("known", tv rAddr l_builder_known), ("literals", tv (rDic kStr rInt) x_builder_literals)])]), some (tv (rLst rStr) x_names), some (tv rInt x_number), none, none, none, none] [(l_builder_gates, tcL (rPair K rInt rInt) w_builder_gates), (l_builder_known, tcDT kPair rInt w_builder_known)]) _ _ (Post.refl hd (env_start (N := n_Making_coded) hv))
    unfold m_Making_coded at hm
    obtain ⟨x_found_1, h_x_found_1, hm⟩ := bindS hm
    refine sv_seq (sv_asg (P := tv rInt x_found_1) (c1 := [(l_builder_gates, tcL (rPair K rInt rInt) w_builder_gates), (l_builder_known, tcDT kPair rInt w_builder_known)]) (Ev.to (ev_int (i := 1)) (Option.some.inj h_x_found_1)) ?_)
    show Im _ [some (tvObj a.c_Making [("signs", tv rStr x_signs), ("builder", tvObj a.c_Builder [("inputs", tv (rTup K rStr) x_builder_inputs), ("registers", tv (rTup K (rPair K rStr rBl)) x_builder_registers), ("gates", tv rAddr l_builder_gates), ("known", tv rAddr l_builder_known), ("literals", tv (rDic kStr rInt) x_builder_literals)])]), some (tv (rLst rStr) x_names), some (tv rInt x_number), some (tv rInt x_found_1), none, none, none] [(l_builder_gates, tcL (rPair K rInt rInt) w_builder_gates), (l_builder_known, tcDT kPair rInt w_builder_known)] _
    refine nxq ?_
    obtain ⟨s2, h_s2, hm⟩ := bindS hm
    refine sv_seq (sv_forO (vs := [4, 5]) (r := (rPair K rInt rStr)) _ (fun (s1 : Int × (List (Int × Int)) × (List ((Int × Int) × Int))) => [some (tvObj a.c_Making [("signs", tv rStr x_signs), ("builder", tvObj a.c_Builder [("inputs", tv (rTup K rStr) x_builder_inputs), ("registers", tv (rTup K (rPair K rStr rBl)) x_builder_registers), ("gates", tv rAddr l_builder_gates), ("known", tv rAddr l_builder_known), ("literals", tv (rDic kStr rInt) x_builder_literals)])]), some (tv (rLst rStr) x_names), some (tv rInt x_number), some (tv rInt s1.1), none, none, none]) (fun (s1 : Int × (List (Int × Int)) × (List ((Int × Int) × Int))) => [(l_builder_gates, tcL (rPair K rInt rInt) s1.2.1), (l_builder_known, tcDT kPair rInt s1.2.2)]) (fun (s1 : Int × (List (Int × Int)) × (List ((Int × Int) × Int))) x1 => [some (tvObj a.c_Making [("signs", tv rStr x_signs), ("builder", tvObj a.c_Builder [("inputs", tv (rTup K rStr) x_builder_inputs), ("registers", tv (rTup K (rPair K rStr rBl)) x_builder_registers), ("gates", tv rAddr l_builder_gates), ("known", tv rAddr l_builder_known), ("literals", tv (rDic kStr rInt) x_builder_literals)])]), some (tv (rLst rStr) x_names), some (tv rInt x_number), some (tv rInt s1.1), some (tv rInt x1.1), some (tv rStr x1.2), none]) (ei_enum (ev_var (i := 1) rfl) src_lst) (x_found_1, w_builder_gates, w_builder_known) (.same (.same (.same (.same (.lose (.lose (.lose .nil))))))) (List.Sublist.refl _) (fun s1 x1 => (pt_pair (pt_name (by decide)) (pt_name (by decide)))) (fun s1 x1 st hb1 D' B' K1 K1' => ?_) s2 h_s2 ?_)
    · show Im _ [some (tvObj a.c_Making [("signs", tv rStr x_signs), ("builder", tvObj a.c_Builder [("inputs", tv (rTup K rStr) x_builder_inputs), ("registers", tv (rTup K (rPair K rStr rBl)) x_builder_registers), ("gates", tv rAddr l_builder_gates), ("known", tv rAddr l_builder_known), ("literals", tv (rDic kStr rInt) x_builder_literals)])]), some (tv (rLst rStr) x_names), some (tv rInt x_number), some (tv rInt s1.1), some (tv rInt x1.1), some (tv rStr x1.2), none] [(l_builder_gates, tcL (rPair K rInt rInt) s1.2.1), (l_builder_known, tcDT kPair rInt s1.2.2)] _
      obtain ⟨v1, h_v1, hb1⟩ := bindS hb1
      refine sv_seq (sv_asg (P := tv rInt v1) (c1 := [(l_builder_gates, tcL (rPair K rInt rInt) s1.2.1), (l_builder_known, tcDT kPair rInt s1.2.2)]) (ev_dget keyS (ev_fld (ev_fld (ev_var (i := 0) rfl) T.cl_Making T.n_Making_builder (fg_Making_2_builder _ _)) T.cl_Builder T.n_Builder_literals (fg_Builder_5_literals _ _ _ _ _)) (ev_var (i := 5) rfl) h_v1) ?_)
      show Im _ [some (tvObj a.c_Making [("signs", tv rStr x_signs), ("builder", tvObj a.c_Builder [("inputs", tv (rTup K rStr) x_builder_inputs), ("registers", tv (rTup K (rPair K rStr rBl)) x_builder_registers), ("gates", tv rAddr l_builder_gates), ("known", tv rAddr l_builder_known), ("literals", tv (rDic kStr rInt) x_builder_literals)])]), some (tv (rLst rStr) x_names), some (tv rInt x_number), some (tv rInt s1.1), some (tv rInt x1.1), some (tv rStr x1.2), some (tv rInt v1)] [(l_builder_gates, tcL (rPair K rInt rInt) s1.2.1), (l_builder_known, tcDT kPair rInt s1.2.2)] _
      refine nxq ?_
      obtain ⟨v2, h_v2, hb1⟩ := bindS hb1
      obtain ⟨v4, h_v4, hb1⟩ := bindS hb1
      obtain ⟨v5, h_v5, hb1⟩ := bindS hb1
      refine (sv_asg (P := tv rInt v5.1) (c1 := [(l_builder_gates, tcL (rPair K rInt rInt) v5.2.1), (l_builder_known, tcDT kPair rInt v5.2.2)]) (ev_meth (c2 := [(l_builder_gates, tcL (rPair K rInt rInt) s1.2.1), (l_builder_known, tcDT kPair rInt s1.2.2)]) (c3 := []) (c4 := [(l_builder_gates, tcL (rPair K rInt rInt) v5.2.1), (l_builder_known, tcDT kPair rInt v5.2.2)]) (R := R_Builder_conj K a) (ev_fld (ev_var (i := 0) rfl) T.cl_Making T.n_Making_builder (fg_Making_2_builder _ _)) (fn_Builder_5_conj _ _ _ _ _) (ea_cons (ev_var (i := 3) rfl) (ea_cons (ev_ifO (et_test (ev_eqI (ev_callP (R := R_bit_of K) (ea_cons (ev_var (i := 2) rfl) (ea_cons (ev_var (i := 4) rfl) ea_nil)) (fun G vs hvs => ⟨x_number, x1.1, v2, hvs, rfl, h_v2, rfl⟩)) (ev_int (i := 1)))) (fun _ z1 hh_z1 => by replace hh_z1 := Option.some.inj hh_z1; subst hh_z1; exact (ev_var (i := 6) rfl)) (fun _ z2 hh_z2 => by obtain ⟨v3, h_v3, hh_z2⟩ := bindS hh_z2; replace hh_z2 := Option.some.inj hh_z2; subst hh_z2; exact (ev_callP (R := R_turned K) (ea_cons (ev_var (i := 6) rfl) ea_nil) (fun G vs hvs => ⟨v1, v3, hvs, rfl, h_v3, rfl⟩))) h_v4) ea_nil)) (fun G v vs hv hvs => ⟨x_builder_inputs, x_builder_registers, l_builder_gates, l_builder_known, x_builder_literals, s1.1, v4, s1.2.1, s1.2.2, v5, ⟨hv, hvs⟩, rfl, h_v5, rfl⟩)) ?_)
      show Im _ [some (tvObj a.c_Making [("signs", tv rStr x_signs), ("builder", tvObj a.c_Builder [("inputs", tv (rTup K rStr) x_builder_inputs), ("registers", tv (rTup K (rPair K rStr rBl)) x_builder_registers), ("gates", tv rAddr l_builder_gates), ("known", tv rAddr l_builder_known), ("literals", tv (rDic kStr rInt) x_builder_literals)])]), some (tv (rLst rStr) x_names), some (tv rInt x_number), some (tv rInt v5.1), some (tv rInt x1.1), some (tv rStr x1.2), some (tv rInt v1)] [(l_builder_gates, tcL (rPair K rInt rInt) v5.2.1), (l_builder_known, tcDT kPair rInt v5.2.2)] _
      replace hb1 := Option.some.inj hb1
      subst hb1
      exact im_le (.same (.same (.same (.same (.lose (.lose (.lose .nil))))))) (im_sub (List.Sublist.refl _) K1)
    · show Im _ [some (tvObj a.c_Making [("signs", tv rStr x_signs), ("builder", tvObj a.c_Builder [("inputs", tv (rTup K rStr) x_builder_inputs), ("registers", tv (rTup K (rPair K rStr rBl)) x_builder_registers), ("gates", tv rAddr l_builder_gates), ("known", tv rAddr l_builder_known), ("literals", tv (rDic kStr rInt) x_builder_literals)])]), some (tv (rLst rStr) x_names), some (tv rInt x_number), some (tv rInt s2.1), none, none, none] [(l_builder_gates, tcL (rPair K rInt rInt) s2.2.1), (l_builder_known, tcDT kPair rInt s2.2.2)] _
      refine nxq ?_
      replace hm := Option.some.inj hm
      subst hm
      exact sv_ret (P := tv rInt s2.1) (c1 := [(l_builder_gates, tcL (rPair K rInt rInt) s2.2.1), (l_builder_known, tcDT kPair rInt s2.2.2)]) (ev_var (i := 3) rfl) (RT.sub (List.Sublist.refl _) (fun v G' H' ap pp => hq _ _ v G' H' ⟨rfl, rfl⟩ ap pp))
def m_Making_one_of (x_signs : (List Nat)) (x_builder_inputs : (List (List Nat))) (x_builder_registers : (List ((List Nat) × Bool))) (x_builder_literals : (List ((List Nat) × Int))) (w_builder_gates : (List (Int × Int))) (w_builder_known : (List ((Int × Int) × Int))) (x_literals : (List Int)) : Option (Int × (List (Int × Int)) × (List ((Int × Int) × Int))) :=
  (some (0 : Int)).bind fun x_found_1 => (foldO (fun (s1 : Int × (List (Int × Int)) × (List ((Int × Int) × Int))) (x1 : Int) => (m_Builder_disj x_builder_inputs x_builder_registers x_builder_literals s1.2.1 s1.2.2 s1.1 x1).bind fun v1 => some (v1.1, v1.2.1, v1.2.2)) (x_found_1, w_builder_gates, w_builder_known) x_literals).bind fun (s2 : Int × (List (Int × Int)) × (List ((Int × Int) × Int))) => some (s2.1, s2.2.1, s2.2.2)
def R_Making_one_of (K : PySem.W.Frag) (a : Ad) : Hp → List V → Cells → (Cells → TV → Prop) → Prop := fun G vs c W => ∃ (x_signs : (List Nat)) (x_builder_inputs : (List (List Nat))) (x_builder_registers : (List ((List Nat) × Bool))) (l_builder_gates : Addr) (l_builder_known : Addr) (x_builder_literals : (List ((List Nat) × Int))) (x_literals : (List Int)) (w_builder_gates : (List (Int × Int))) (w_builder_known : (List ((Int × Int) × Int))) (y : Int × (List (Int × Int)) × (List ((Int × Int) × Int))), VsOk G [tvObj a.c_Making [("signs", tv rStr x_signs), ("builder", tvObj a.c_Builder [("inputs", tv (rTup K rStr) x_builder_inputs), ("registers", tv (rTup K (rPair K rStr rBl)) x_builder_registers), ("gates", tv rAddr l_builder_gates), ("known", tv rAddr l_builder_known), ("literals", tv (rDic kStr rInt) x_builder_literals)])], tv (rLst rInt) x_literals] vs ∧ c = [(l_builder_gates, tcL (rPair K rInt rInt) w_builder_gates), (l_builder_known, tcDT kPair rInt w_builder_known)] ∧ m_Making_one_of x_signs x_builder_inputs x_builder_registers x_builder_literals w_builder_gates w_builder_known x_literals = some y ∧ W = W1 [(l_builder_gates, tcL (rPair K rInt rInt) y.2.1), (l_builder_known, tcDT kPair rInt y.2.2)] (tv rInt y.1)
abbrev n_Making_one_of : List Str := ["self", "literals", "found", "literal"]
theorem sc_Making_one_of : FnScope ["self", "literals", "found", "literal"] ["self", "literals"] (defScope s_Making_one_of) := ⟨rfl, rfl, rfl, by decide +kernel, rfl, by decide +kernel, by decide +kernel⟩
theorem ok_Making_one_of (T : Tx K mg a) : FnOk P w K mg base CX0 4 a.f_Making_one_of a.d_Making_one_of ["self", "literals"] (spOf (R_Making_one_of K a)) := by
  refine T.F_Making_one_of.ok sc_Making_one_of (fun vs H Q E h => ?_) (fun cdv A outer s H vs Q E hr h => ?_)
  · obtain ⟨G, c, W, hd, ⟨x_signs, x_builder_inputs, x_builder_registers, l_builder_gates, l_builder_known, x_builder_literals, x_literals, w_builder_gates, w_builder_known, y, hv, _⟩, hq⟩ := h
    exact hv.len
  · obtain ⟨G, c, W, hd, ⟨x_signs, x_builder_inputs, x_builder_registers, l_builder_gates, l_builder_known, x_builder_literals, x_literals, w_builder_gates, w_builder_known, y, hv, rfl, hm, rfl⟩, hq⟩ := h
    have hu := hu_of hr
    have hu64 := hr.units
    have hu65 := units65 hr
    refine ⟨_, (pss_cons (ps_set (i := 2) sc_Making_one_of.nd (by rfl) (by first | exact Or.inl rfl | exact Or.inr rfl) pe_int)
      (pss_cons (ps_for PassesOwn.never rfl (pi_list (pv 1)) (pg_name (i := 3) sc_Making_one_of.nd (by rfl) (by first | exact Or.inl rfl | exact Or.inr rfl) (by first | exact Or.inr rfl | exact Or.inl rfl)) (pss_one (ps_set (i := 2) sc_Making_one_of.nd (by rfl) (by first | exact Or.inl rfl | exact Or.inr rfl) (pe_meth (pe_fld (pv 0) rfl) T.cl_Builder T.m_Builder_disj (ok_Builder_disj T) (hr.mono (by decide)) T.d_Builder_disj .nil pass0 (pa_cons (pv 2) (pa_cons (pv 3) pa_nil))))))
      (pss_one (ps_ret (pv 2))))), ?_⟩
    refine (?_ : Sv _ _ ⟨G, [(l_builder_gates, tcL (rPair K rInt rInt) w_builder_gates), (l_builder_known, tcDT kPair rInt w_builder_known)], H⟩ [some (tvObj a.c_Making [("signs", tv rStr x_signs), ("builder", tvObj a.c_Builder [("inputs", tv (rTup K rStr) x_builder_inputs), ("registers", tv (rTup K (rPair K rStr rBl)) x_builder_registers), ("gates", tv rAddr l_builder_gates), ("known", tv rAddr l_builder_known), ("literals", tv (rDic kStr rInt) x_builder_literals)])]), some (tv (rLst rInt) x_literals), none, none] [(l_builder_gates, tcL (rPair K rInt rInt) w_builder_gates), (l_builder_known, tcDT kPair rInt w_builder_known)]) _ _ (Post.refl hd (env_start (N := n_Making_one_of) hv))
    unfold m_Making_one_of at hm
    obtain ⟨x_found_1, h_x_found_1, hm⟩ := bindS hm
    refine sv_seq (sv_asg (P := tv rInt x_found_1) (c1 := [(l_builder_gates, tcL (rPair K rInt rInt) w_builder_gates), (l_builder_known, tcDT kPair rInt w_builder_known)]) (Ev.to (ev_int (i := 0)) (Option.some.inj h_x_found_1)) ?_)
    show Im _ [some (tvObj a.c_Making [("signs", tv rStr x_signs), ("builder", tvObj a.c_Builder [("inputs", tv (rTup K rStr) x_builder_inputs), ("registers", tv (rTup K (rPair K rStr rBl)) x_builder_registers), ("gates", tv rAddr l_builder_gates), ("known", tv rAddr l_builder_known), ("literals", tv (rDic kStr rInt) x_builder_literals)])]), some (tv (rLst rInt) x_literals), some (tv rInt x_found_1), none] [(l_builder_gates, tcL (rPair K rInt rInt) w_builder_gates), (l_builder_known, tcDT kPair rInt w_builder_known)] _
    refine nxq ?_
    obtain ⟨s2, h_s2, hm⟩ := bindS hm
    refine sv_seq (sv_forO (vs := [3]) (r := rInt) _ (fun (s1 : Int × (List (Int × Int)) × (List ((Int × Int) × Int))) => [some (tvObj a.c_Making [("signs", tv rStr x_signs), ("builder", tvObj a.c_Builder [("inputs", tv (rTup K rStr) x_builder_inputs), ("registers", tv (rTup K (rPair K rStr rBl)) x_builder_registers), ("gates", tv rAddr l_builder_gates), ("known", tv rAddr l_builder_known), ("literals", tv (rDic kStr rInt) x_builder_literals)])]), some (tv (rLst rInt) x_literals), some (tv rInt s1.1), none]) (fun (s1 : Int × (List (Int × Int)) × (List ((Int × Int) × Int))) => [(l_builder_gates, tcL (rPair K rInt rInt) s1.2.1), (l_builder_known, tcDT kPair rInt s1.2.2)]) (fun (s1 : Int × (List (Int × Int)) × (List ((Int × Int) × Int))) x1 => [some (tvObj a.c_Making [("signs", tv rStr x_signs), ("builder", tvObj a.c_Builder [("inputs", tv (rTup K rStr) x_builder_inputs), ("registers", tv (rTup K (rPair K rStr rBl)) x_builder_registers), ("gates", tv rAddr l_builder_gates), ("known", tv rAddr l_builder_known), ("literals", tv (rDic kStr rInt) x_builder_literals)])]), some (tv (rLst rInt) x_literals), some (tv rInt s1.1), some (tv rInt x1)]) (ei_lst (ev_var (i := 1) rfl)) (x_found_1, w_builder_gates, w_builder_known) (.same (.same (.same (.lose .nil)))) (List.Sublist.refl _) (fun s1 x1 => (pt_name (by decide))) (fun s1 x1 st hb1 D' B' K1 K1' => ?_) s2 h_s2 ?_)
    · show Im _ [some (tvObj a.c_Making [("signs", tv rStr x_signs), ("builder", tvObj a.c_Builder [("inputs", tv (rTup K rStr) x_builder_inputs), ("registers", tv (rTup K (rPair K rStr rBl)) x_builder_registers), ("gates", tv rAddr l_builder_gates), ("known", tv rAddr l_builder_known), ("literals", tv (rDic kStr rInt) x_builder_literals)])]), some (tv (rLst rInt) x_literals), some (tv rInt s1.1), some (tv rInt x1)] [(l_builder_gates, tcL (rPair K rInt rInt) s1.2.1), (l_builder_known, tcDT kPair rInt s1.2.2)] _
      obtain ⟨v1, h_v1, hb1⟩ := bindS hb1
      refine (sv_asg (P := tv rInt v1.1) (c1 := [(l_builder_gates, tcL (rPair K rInt rInt) v1.2.1), (l_builder_known, tcDT kPair rInt v1.2.2)]) (ev_meth (c2 := [(l_builder_gates, tcL (rPair K rInt rInt) s1.2.1), (l_builder_known, tcDT kPair rInt s1.2.2)]) (c3 := []) (c4 := [(l_builder_gates, tcL (rPair K rInt rInt) v1.2.1), (l_builder_known, tcDT kPair rInt v1.2.2)]) (R := R_Builder_disj K a) (ev_fld (ev_var (i := 0) rfl) T.cl_Making T.n_Making_builder (fg_Making_2_builder _ _)) (fn_Builder_5_disj _ _ _ _ _) (ea_cons (ev_var (i := 2) rfl) (ea_cons (ev_var (i := 3) rfl) ea_nil)) (fun G v vs hv hvs => ⟨x_builder_inputs, x_builder_registers, l_builder_gates, l_builder_known, x_builder_literals, s1.1, x1, s1.2.1, s1.2.2, v1, ⟨hv, hvs⟩, rfl, h_v1, rfl⟩)) ?_)
      show Im _ [some (tvObj a.c_Making [("signs", tv rStr x_signs), ("builder", tvObj a.c_Builder [("inputs", tv (rTup K rStr) x_builder_inputs), ("registers", tv (rTup K (rPair K rStr rBl)) x_builder_registers), ("gates", tv rAddr l_builder_gates), ("known", tv rAddr l_builder_known), ("literals", tv (rDic kStr rInt) x_builder_literals)])]), some (tv (rLst rInt) x_literals), some (tv rInt v1.1), some (tv rInt x1)] [(l_builder_gates, tcL (rPair K rInt rInt) v1.2.1), (l_builder_known, tcDT kPair rInt v1.2.2)] _
      replace hb1 := Option.some.inj hb1
      subst hb1
      exact im_le (.same (.same (.same (.lose .nil)))) (im_sub (List.Sublist.refl _) K1)
    · show Im _ [some (tvObj a.c_Making [("signs", tv rStr x_signs), ("builder", tvObj a.c_Builder [("inputs", tv (rTup K rStr) x_builder_inputs), ("registers", tv (rTup K (rPair K rStr rBl)) x_builder_registers), ("gates", tv rAddr l_builder_gates), ("known", tv rAddr l_builder_known), ("literals", tv (rDic kStr rInt) x_builder_literals)])]), some (tv (rLst rInt) x_literals), some (tv rInt s2.1), none] [(l_builder_gates, tcL (rPair K rInt rInt) s2.2.1), (l_builder_known, tcDT kPair rInt s2.2.2)] _
      refine nxq ?_
      replace hm := Option.some.inj hm
      subst hm
      exact sv_ret (P := tv rInt s2.1) (c1 := [(l_builder_gates, tcL (rPair K rInt rInt) s2.2.1), (l_builder_known, tcDT kPair rInt s2.2.2)]) (ev_var (i := 2) rfl) (RT.sub (List.Sublist.refl _) (fun v G' H' ap pp => hq _ _ v G' H' ⟨rfl, rfl⟩ ap pp))
def m_Making_machine (x_signs : (List Nat)) (x_builder_inputs : (List (List Nat))) (x_builder_registers : (List ((List Nat) × Bool))) (x_builder_literals : (List ((List Nat) × Int))) (w_builder_gates : (List (Int × Int))) (w_builder_known : (List ((Int × Int) × Int))) (x_machine : (List (Bool × (List Int)))) (x_name : (List Nat)) : Option ((Int × (List Int)) × (List (Int × Int)) × (List ((Int × Int) × Int))) :=
  (m_line_names x_machine x_name).bind fun v1 => (rng1O (x_machine.length : Int)).bind fun v2 => (mapS (fun (s1 : (List (Int × Int)) × (List ((Int × Int) × Int))) (x1 : Int) => (m_Making_coded x_signs x_builder_inputs x_builder_registers x_builder_literals s1.1 s1.2 v1 x1).bind fun v3 => some (v3.1, (v3.2.1, v3.2.2))) (w_builder_gates, w_builder_known) v2).bind fun v4 => (rng1O (x_signs.length : Int)).bind fun v5 => (mapS (fun (s2 : (List (Int × Int)) × (List ((Int × Int) × Int))) (x2 : Int) => (m_sign_names x_signs).bind fun v6 => (m_Making_coded x_signs x_builder_inputs x_builder_registers x_builder_literals s2.1 s2.2 v6 x2).bind fun v7 => some (v7.1, (v7.2.1, v7.2.2))) (v4.2.1, v4.2.2) v5).bind fun v8 => (m_Making_one_of x_signs x_builder_inputs x_builder_registers x_builder_literals v8.2.1 v8.2.2 v8.1).bind fun v9 => (m_turned v9.1).bind fun v10 => (filtO (fun x3 : (Int × (Bool × (List Int))) => some x3.2.1) (fun x3 : (Int × (Bool × (List Int))) => (atI v4.1 x3.1).bind fun v11 => some v11) (enL x_machine)).bind fun v12 => (m_Making_one_of x_signs x_builder_inputs x_builder_registers x_builder_literals v9.2.1 v9.2.2 v12).bind fun v13 => (rng1O (x_machine.length : Int)).bind fun v14 => (mapS (fun (s3 : (List (Int × Int)) × (List ((Int × Int) × Int))) (x4 : Int) => (atI v4.1 x4).bind fun v15 => (m_Builder_conj x_builder_inputs x_builder_registers x_builder_literals s3.1 s3.2 v15 v10).bind fun v16 => some (([v16.1] : List Int), (v16.2.1, v16.2.2))) (v13.2.1, v13.2.2) v14).bind fun v17 => (foldO (fun (s4 : (List (Int × Int)) × (List ((Int × Int) × Int)) × (List (List Int))) (x5 : (Int × (Bool × (List Int)))) => (foldO (fun (s5 : (List (Int × Int)) × (List ((Int × Int) × Int)) × (List (List Int))) (x6 : (Int × Int)) => (atI v4.1 x5.1).bind fun v18 => (m_Builder_conj x_builder_inputs x_builder_registers x_builder_literals s5.1 s5.2.1 v18 x6.1).bind fun v19 => (pushAt s5.2.2 x6.2 v19.1).bind fun v20 => some (v19.2.1, v19.2.2, v20)) (s4.1, s4.2.1, s4.2.2) (v8.1.zip x5.2.2)).bind fun (s6 : (List (Int × Int)) × (List ((Int × Int) × Int)) × (List (List Int))) => some (s6.1, s6.2.1, s6.2.2)) (v17.2.1, v17.2.2, v17.1) (enL x_machine)).bind fun (s7 : (List (Int × Int)) × (List ((Int × Int) × Int)) × (List (List Int))) => (rng1O (v1.length : Int)).bind fun v21 => (foldO (fun (s8 : (List (Int × Int)) × (List ((Int × Int) × Int)) × (List Int)) (x7 : Int) => (foldO (fun (s9 : (List Int)) (x8 : (Int × (List Int))) => (m_bit_of x8.1 x7).bind fun v22 => (appO s9 (if (decide (v22 = (1 : Int))) = true then x8.2 else ([] : List Int))).bind fun v23 => some v23) ([] : List Int) (enL s7.2.2)).bind fun (s10 : (List Int)) => (m_Making_one_of x_signs x_builder_inputs x_builder_registers x_builder_literals s8.1 s8.2.1 s10).bind fun v24 => (pushO s8.2.2 v24.1).bind fun v25 => some (v24.2.1, v24.2.2, v25)) (s7.1, s7.2.1, ([] : List Int)) v21).bind fun (s11 : (List (Int × Int)) × (List ((Int × Int) × Int)) × (List Int)) => some ((v13.1, s11.2.2), s11.1, s11.2.1)
def R_Making_machine (K : PySem.W.Frag) (a : Ad) : Hp → List V → Cells → (Cells → TV → Prop) → Prop := fun G vs c W => ∃ (x_signs : (List Nat)) (x_builder_inputs : (List (List Nat))) (x_builder_registers : (List ((List Nat) × Bool))) (l_builder_gates : Addr) (l_builder_known : Addr) (x_builder_literals : (List ((List Nat) × Int))) (x_machine : (List (Bool × (List Int)))) (x_name : (List Nat)) (w_builder_gates : (List (Int × Int))) (w_builder_known : (List ((Int × Int) × Int))) (y : (Int × (List Int)) × (List (Int × Int)) × (List ((Int × Int) × Int))), VsOk G [tvObj a.c_Making [("signs", tv rStr x_signs), ("builder", tvObj a.c_Builder [("inputs", tv (rTup K rStr) x_builder_inputs), ("registers", tv (rTup K (rPair K rStr rBl)) x_builder_registers), ("gates", tv rAddr l_builder_gates), ("known", tv rAddr l_builder_known), ("literals", tv (rDic kStr rInt) x_builder_literals)])], tv (rTup K (rPair K rBl (rTup K rInt))) x_machine, tv rStr x_name] vs ∧ c = [(l_builder_gates, tcL (rPair K rInt rInt) w_builder_gates), (l_builder_known, tcDT kPair rInt w_builder_known)] ∧ m_Making_machine x_signs x_builder_inputs x_builder_registers x_builder_literals w_builder_gates w_builder_known x_machine x_name = some y ∧ W = W1 [(l_builder_gates, tcL (rPair K rInt rInt) y.2.1), (l_builder_known, tcDT kPair rInt y.2.2)] (tv (rPair K rInt (rLst rInt)) y.1)
abbrev n_Making_machine : List Str := ["self", "machine", "name", "names", "lines", "signs", "stays", "passes", "comes", "line", "_", "nexts", "bit", "sign", "other", "literals", "led", "number", "passing"]
theorem sc_Making_machine : FnScope ["self", "machine", "name", "names", "lines", "signs", "stays", "passes", "comes", "line", "_", "nexts", "bit", "sign", "other", "literals", "led", "number", "passing"] ["self", "machine", "name"] (defScope s_Making_machine) := ⟨rfl, rfl, rfl, by decide +kernel, rfl, by decide +kernel, by decide +kernel⟩
theorem ok_Making_machine (T : Tx K mg a) : FnOk P w K mg base CX0 5 a.f_Making_machine a.d_Making_machine ["self", "machine", "name"] (spOf (R_Making_machine K a)) := by
  refine T.F_Making_machine.ok sc_Making_machine (fun vs H Q E h => ?_) (fun cdv A outer s H vs Q E hr h => ?_)
  · obtain ⟨G, c, W, hd, ⟨x_signs, x_builder_inputs, x_builder_registers, l_builder_gates, l_builder_known, x_builder_literals, x_machine, x_name, w_builder_gates, w_builder_known, y, hv, _⟩, hq⟩ := h
    exact hv.len
  · obtain ⟨G, c, W, hd, ⟨x_signs, x_builder_inputs, x_builder_registers, l_builder_gates, l_builder_known, x_builder_literals, x_machine, x_name, w_builder_gates, w_builder_known, y, hv, rfl, hm, rfl⟩, hq⟩ := h
    have hu := hu_of hr
    have hu64 := hr.units
    have hu65 := units65 hr
    refine ⟨_, (pss_cons (ps_set (i := 3) sc_Making_machine.nd (by rfl) (by first | exact Or.inl rfl | exact Or.inr rfl) (pe_call (ok_line_names T) (hr.mono (by decide)) (by rfl) T.g_line_names T.F_line_names.kp T.d_line_names .nil pass0 (pa_cons (pv 1) (pa_cons (pv 2) pa_nil))))
      (pss_cons (ps_set (i := 4) sc_Making_machine.nd (by rfl) (by first | exact Or.inl rfl | exact Or.inr rfl) (pe_lc (own := [("line", 9)]) (wi := (iRng1 (tCons (tCB (TW.rLen K) (tCons (tVar 1) tNil)) tNil))) (g := (gName 9)) (tt := tYes) (te := (tMeth a.c_Making "coded" (spOf (R_Making_coded K a)) [] E0 (tVar 0) (tCons (tVar 3) (tCons (tVar 9) tNil)))) rfl sc_Making_machine.nd (pi_range1 (by rfl) T.b_range (pa_cons (pe_callB (id := "len") k_len (by rfl) T.b_len (by decide +kernel) (pa_cons (pv 1) pa_nil)) pa_nil)) (blkOk_by (by kernel_rfl)) (fun _ _ _ _ _ => (pg_name (i := 9) sc_Making_machine.nd (by rfl) (by first | exact Or.inl rfl | exact Or.inr rfl) (by first | exact Or.inr rfl | exact Or.inl rfl))) (fun _ _ _ _ _ => pts_nil) (fun _ _ _ _ _ => (pe_meth (pv 0) T.cl_Making T.m_Making_coded (ok_Making_coded T) (hr.mono (by decide)) T.d_Making_coded .nil pass0 (pa_cons (pv 3) (pa_cons (pv 9) pa_nil))))))
      (pss_cons (ps_setLc (i := 5) (own := [("number", 17)]) (wi := (iRng1 (tCons (tCB (TW.rLen K) (tCons (tFld K (tVar 0) "signs") tNil)) tNil))) (g := (gName 17)) (tt := tYes) (te := (tMeth a.c_Making "coded" (spOf (R_Making_coded K a)) [] E0 (tVar 0) (tCons (tCall (spOf (R_sign_names K)) [] E0 (tCons (tFld K (tVar 0) "signs") tNil)) (tCons (tVar 17) tNil)))) rfl sc_Making_machine.nd (by rfl) (by rfl) (sw_true rfl (by rfl) (by rfl) (by decide +kernel)) (pi_range1 (by rfl) T.b_range (pa_cons (pe_callB (id := "len") k_len (by rfl) T.b_len (by decide +kernel) (pa_cons (pe_fld (pv 0) rfl) pa_nil)) pa_nil)) (blkOk_by (by kernel_rfl)) (fun _ _ _ _ _ => (pg_name (i := 17) sc_Making_machine.nd (by rfl) (by first | exact Or.inl rfl | exact Or.inr rfl) (by first | exact Or.inr rfl | exact Or.inl rfl))) (fun _ _ _ _ _ => pts_nil) (fun _ _ _ _ _ => (pe_meth (pv 0) T.cl_Making T.m_Making_coded (ok_Making_coded T) (hr.mono (by decide)) T.d_Making_coded .nil pass0 (pa_cons (pe_call (ok_sign_names T) (hr.mono (by decide)) (by rfl) T.g_sign_names T.F_sign_names.kp T.d_sign_names .nil pass0 (pa_cons (pe_fld (pv 0) rfl) pa_nil)) (pa_cons (pv 17) pa_nil)))))
      (pss_cons (ps_set (i := 6) sc_Making_machine.nd (by rfl) (by first | exact Or.inl rfl | exact Or.inr rfl) (pe_call (ok_turned T) (hr.mono (by decide)) (by rfl) T.g_turned T.F_turned.kp T.d_turned .nil pass0 (pa_cons (pe_meth (pv 0) T.cl_Making T.m_Making_one_of (ok_Making_one_of T) (hr.mono (by decide)) T.d_Making_one_of .nil pass0 (pa_cons (pv 5) pa_nil)) pa_nil)))
      (pss_cons (ps_set (i := 7) sc_Making_machine.nd (by rfl) (by first | exact Or.inl rfl | exact Or.inr rfl) (pe_meth (pv 0) T.cl_Making T.m_Making_one_of (ok_Making_one_of T) (hr.mono (by decide)) T.d_Making_one_of .nil pass0 (pa_cons (pe_lc (own := [("line", 9), ("passing", 18), ("_", 10)]) (wi := (iEnumS K (tCons (tVar 1) tNil))) (g := (gTup K 2 (gCons (gName 9) (gCons (gTup K 2 (gCons (gName 18) (gCons (gName 10) gNil))) gNil)))) (tt := (tB (tVar 18))) (te := (tOp (rIxL K) (tVar 4) (tVar 9))) rfl sc_Making_machine.nd (pi_enumS (by rfl) T.b_enumerate (pa_cons (pv 1) pa_nil)) (blkOk_by (by kernel_rfl)) (fun _ _ _ _ _ => (pg_tup rfl (pgs_cons (pg_name (i := 9) sc_Making_machine.nd (by rfl) (by first | exact Or.inl rfl | exact Or.inr rfl) (by first | exact Or.inr rfl | exact Or.inl rfl)) (pgs_cons (pg_tup rfl (pgs_cons (pg_name (i := 18) sc_Making_machine.nd (by rfl) (by first | exact Or.inl rfl | exact Or.inr rfl) (by first | exact Or.inr rfl | exact Or.inl rfl)) (pgs_cons (pg_name (i := 10) sc_Making_machine.nd (by rfl) (by first | exact Or.inl rfl | exact Or.inr rfl) (by first | exact Or.inr rfl | exact Or.inl rfl)) pgs_nil))) pgs_nil)))) (fun _ _ _ _ _ => (pts_one (pt_val (pv 18)))) (fun _ _ _ _ _ => (pe_ix ix_list (pv 4) (pv 9) (fun _ _ => rfl)))) pa_nil)))
      (pss_cons (ps_setLc (i := 8) (own := [("line", 9)]) (wi := (iRng1 (tCons (tCB (TW.rLen K) (tCons (tVar 1) tNil)) tNil))) (g := (gName 9)) (tt := tYes) (te := (tLst (tCons (tMeth a.c_Builder "conj" (spOf (R_Builder_conj K a)) [] E0 (tFld K (tVar 0) "builder") (tCons (tOp (rIxL K) (tVar 4) (tVar 9)) (tCons (tVar 6) tNil))) tNil))) rfl sc_Making_machine.nd (by rfl) (by rfl) (sw_true rfl (by rfl) (by rfl) (by decide +kernel)) (pi_range1 (by rfl) T.b_range (pa_cons (pe_callB (id := "len") k_len (by rfl) T.b_len (by decide +kernel) (pa_cons (pv 1) pa_nil)) pa_nil)) (blkOk_by (by kernel_rfl)) (fun _ _ _ _ _ => (pg_name (i := 9) sc_Making_machine.nd (by rfl) (by first | exact Or.inl rfl | exact Or.inr rfl) (by first | exact Or.inr rfl | exact Or.inl rfl))) (fun _ _ _ _ _ => pts_nil) (fun _ _ _ _ _ => (pe_lst (pa_cons (pe_meth (pe_fld (pv 0) rfl) T.cl_Builder T.m_Builder_conj (ok_Builder_conj T) (hr.mono (by decide)) T.d_Builder_conj .nil pass0 (pa_cons (pe_ix ix_list (pv 4) (pv 9) (fun _ _ => rfl)) (pa_cons (pv 6) pa_nil))) pa_nil))))
      (pss_cons (ps_for PassesOwn.never rfl (pi_enumS (by rfl) T.b_enumerate (pa_cons (pv 1) pa_nil)) (pg_tup rfl (pgs_cons (pg_name (i := 9) sc_Making_machine.nd (by rfl) (by first | exact Or.inl rfl | exact Or.inr rfl) (by first | exact Or.inr rfl | exact Or.inl rfl)) (pgs_cons (pg_tup rfl (pgs_cons (pg_name (i := 10) sc_Making_machine.nd (by rfl) (by first | exact Or.inl rfl | exact Or.inr rfl) (by first | exact Or.inr rfl | exact Or.inl rfl)) (pgs_cons (pg_name (i := 11) sc_Making_machine.nd (by rfl) (by first | exact Or.inl rfl | exact Or.inr rfl) (by first | exact Or.inr rfl | exact Or.inl rfl)) pgs_nil))) pgs_nil))) (pss_one (ps_for PassesOwn.never rfl (pi_zipS (by rfl) T.b_zip (pa_cons (pv 5) (pa_cons (pv 11) pa_nil))) (pg_tup rfl (pgs_cons (pg_name (i := 13) sc_Making_machine.nd (by rfl) (by first | exact Or.inl rfl | exact Or.inr rfl) (by first | exact Or.inr rfl | exact Or.inl rfl)) (pgs_cons (pg_name (i := 14) sc_Making_machine.nd (by rfl) (by first | exact Or.inl rfl | exact Or.inr rfl) (by first | exact Or.inr rfl | exact Or.inl rfl)) pgs_nil))) (pss_one (ps_expr (pe_bm PySem.F.plainAttrs_list PySem.F.slot_list_append PySem.F.type_list_append mt_append (pe_ix ix_list (pv 8) (pv 14) (fun _ _ => rfl)) (pa_cons (pe_meth (pe_fld (pv 0) rfl) T.cl_Builder T.m_Builder_conj (ok_Builder_conj T) (hr.mono (by decide)) T.d_Builder_conj .nil pass0 (pa_cons (pe_ix ix_list (pv 4) (pv 9) (fun _ _ => rfl)) (pa_cons (pv 13) pa_nil))) pa_nil)))))))
      (pss_cons (ps_set (i := 11) sc_Making_machine.nd (by rfl) (by first | exact Or.inl rfl | exact Or.inr rfl) (pe_lst pa_nil))
      (pss_cons (ps_for PassesOwn.never rfl (pi_range1 (by rfl) T.b_range (pa_cons (pe_callB (id := "len") k_len (by rfl) T.b_len (by decide +kernel) (pa_cons (pv 3) pa_nil)) pa_nil)) (pg_name (i := 12) sc_Making_machine.nd (by rfl) (by first | exact Or.inl rfl | exact Or.inr rfl) (by first | exact Or.inr rfl | exact Or.inl rfl)) (pss_cons (ps_set (i := 15) sc_Making_machine.nd (by rfl) (by first | exact Or.inl rfl | exact Or.inr rfl) (pe_lst pa_nil))
      (pss_cons (ps_for PassesOwn.never rfl (pi_enumS (by rfl) T.b_enumerate (pa_cons (pv 8) pa_nil)) (pg_tup rfl (pgs_cons (pg_name (i := 9) sc_Making_machine.nd (by rfl) (by first | exact Or.inl rfl | exact Or.inr rfl) (by first | exact Or.inr rfl | exact Or.inl rfl)) (pgs_cons (pg_name (i := 16) sc_Making_machine.nd (by rfl) (by first | exact Or.inl rfl | exact Or.inr rfl) (by first | exact Or.inr rfl | exact Or.inl rfl)) pgs_nil))) (pss_one (ps_expr (pe_bm PySem.F.plainAttrs_list PySem.F.slot_list_extend PySem.F.type_list_extend mt_extend (pv 15) (pa_cons (pe_ifExp (pt_cmpR op_eq (pe_call (ok_bit_of T) (hr.mono (by decide)) (by rfl) T.g_bit_of T.F_bit_of.kp T.d_bit_of .nil pass0 (pa_cons (pv 9) (pa_cons (pv 12) pa_nil))) pe_int (nomark _)) (pv 16) (pe_lst pa_nil)) pa_nil)))))
      (pss_one (ps_expr (pe_bm PySem.F.plainAttrs_list PySem.F.slot_list_append PySem.F.type_list_append mt_append (pv 11) (pa_cons (pe_meth (pv 0) T.cl_Making T.m_Making_one_of (ok_Making_one_of T) (hr.mono (by decide)) T.d_Making_one_of .nil pass0 (pa_cons (pv 15) pa_nil)) pa_nil)))))))
      (pss_one (ps_ret (pe_tup (pa_cons (pv 7) (pa_cons (pv 11) pa_nil)))))))))))))), ?_⟩
    refine (?_ : Sv _ _ ⟨G, [(l_builder_gates, tcL (rPair K rInt rInt) w_builder_gates), (l_builder_known, tcDT kPair rInt w_builder_known)], H⟩ [some (tvObj a.c_Making [("signs", tv rStr x_signs), ("builder", tvObj a.c_Builder [("inputs", tv (rTup K rStr) x_builder_inputs), ("registers", tv (rTup K (rPair K rStr rBl)) x_builder_registers), ("gates", tv rAddr l_builder_gates), ("known", tv rAddr l_builder_known), ("literals", tv (rDic kStr rInt) x_builder_literals)])]), some (tv (rTup K (rPair K rBl (rTup K rInt))) x_machine), some (tv rStr x_name), none, none, none, none, none, none, none, none, none, none, none, none, none, none, none, none] [(l_builder_gates, tcL (rPair K rInt rInt) w_builder_gates), (l_builder_known, tcDT kPair rInt w_builder_known)]) _ _ (Post.refl hd (env_start (N := n_Making_machine) hv))
    unfold m_Making_machine at hm
    obtain ⟨v1, h_v1, hm⟩ := bindS hm
    refine sv_seq (sv_asg (P := tv (rLst rStr) v1) (c1 := [(l_builder_gates, tcL (rPair K rInt rInt) w_builder_gates), (l_builder_known, tcDT kPair rInt w_builder_known)]) (ev_callP (R := R_line_names K) (ea_cons (ev_var (i := 1) rfl) (ea_cons (ev_var (i := 2) rfl) ea_nil)) (fun G vs hvs => ⟨x_machine, x_name, v1, hvs, rfl, h_v1, rfl⟩)) ?_)
    show Im _ [some (tvObj a.c_Making [("signs", tv rStr x_signs), ("builder", tvObj a.c_Builder [("inputs", tv (rTup K rStr) x_builder_inputs), ("registers", tv (rTup K (rPair K rStr rBl)) x_builder_registers), ("gates", tv rAddr l_builder_gates), ("known", tv rAddr l_builder_known), ("literals", tv (rDic kStr rInt) x_builder_literals)])]), some (tv (rTup K (rPair K rBl (rTup K rInt))) x_machine), some (tv rStr x_name), some (tv (rLst rStr) v1), none, none, none, none, none, none, none, none, none, none, none, none, none, none, none] [(l_builder_gates, tcL (rPair K rInt rInt) w_builder_gates), (l_builder_known, tcDT kPair rInt w_builder_known)] _
    refine nxq ?_
    obtain ⟨v2, h_v2, hm⟩ := bindS hm
    obtain ⟨v4, h_v4, hm⟩ := bindS hm
    refine sv_seq (sv_asg (P := tv (rLst rInt) v4.1) (c1 := [(l_builder_gates, tcL (rPair K rInt rInt) v4.2.1), (l_builder_known, tcDT kPair rInt v4.2.2)]) (ev_frz (en_lcM (rβ := rInt) _ (fun s1 => [(l_builder_gates, tcL (rPair K rInt rInt) s1.1), (l_builder_known, tcDT kPair rInt s1.2)]) (fun x1 => [some (tvObj a.c_Making [("signs", tv rStr x_signs), ("builder", tvObj a.c_Builder [("inputs", tv (rTup K rStr) x_builder_inputs), ("registers", tv (rTup K (rPair K rStr rBl)) x_builder_registers), ("gates", tv rAddr l_builder_gates), ("known", tv rAddr l_builder_known), ("literals", tv (rDic kStr rInt) x_builder_literals)])]), some (tv (rTup K (rPair K rBl (rTup K rInt))) x_machine), some (tv rStr x_name), some (tv (rLst rStr) v1), none, none, none, none, none, some (tv rInt x1), none, none, none, none, none, none, none, none, none]) (ei_rng1 (ev_lenT (ev_var (i := 1) rfl)) h_v2) (w_builder_gates, w_builder_known) rfl (fun x1 => (pt_name (by decide))) (fun s1 x1 z1 hh_z1 => by obtain ⟨v3, h_v3, hh_z1⟩ := bindS hh_z1; replace hh_z1 := Option.some.inj hh_z1; subst hh_z1; exact (ev_meth (c2 := [(l_builder_gates, tcL (rPair K rInt rInt) s1.1), (l_builder_known, tcDT kPair rInt s1.2)]) (c3 := []) (c4 := [(l_builder_gates, tcL (rPair K rInt rInt) v3.2.1), (l_builder_known, tcDT kPair rInt v3.2.2)]) (R := R_Making_coded K a) (ev_var (i := 0) rfl) (fn_Making_2_coded _ _) (ea_cons (ev_var (i := 3) rfl) (ea_cons (ev_var (i := 9) rfl) ea_nil)) (fun G v vs hv hvs => ⟨x_signs, x_builder_inputs, x_builder_registers, l_builder_gates, l_builder_known, x_builder_literals, v1, x1, s1.1, s1.2, v3, ⟨hv, hvs⟩, rfl, h_v3, rfl⟩))) _ h_v4)) ?_)
    show Im _ [some (tvObj a.c_Making [("signs", tv rStr x_signs), ("builder", tvObj a.c_Builder [("inputs", tv (rTup K rStr) x_builder_inputs), ("registers", tv (rTup K (rPair K rStr rBl)) x_builder_registers), ("gates", tv rAddr l_builder_gates), ("known", tv rAddr l_builder_known), ("literals", tv (rDic kStr rInt) x_builder_literals)])]), some (tv (rTup K (rPair K rBl (rTup K rInt))) x_machine), some (tv rStr x_name), some (tv (rLst rStr) v1), some (tv (rLst rInt) v4.1), none, none, none, none, none, none, none, none, none, none, none, none, none, none] [(l_builder_gates, tcL (rPair K rInt rInt) v4.2.1), (l_builder_known, tcDT kPair rInt v4.2.2)] _
    refine nxq ?_
    obtain ⟨v5, h_v5, hm⟩ := bindS hm
    obtain ⟨v8, h_v8, hm⟩ := bindS hm
    refine sv_seq (sv_asg (P := tv (rLst rInt) v8.1) (c1 := [(l_builder_gates, tcL (rPair K rInt rInt) v8.2.1), (l_builder_known, tcDT kPair rInt v8.2.2)]) (ev_frz (en_lcM (rβ := rInt) _ (fun s2 => [(l_builder_gates, tcL (rPair K rInt rInt) s2.1), (l_builder_known, tcDT kPair rInt s2.2)]) (fun x2 => [some (tvObj a.c_Making [("signs", tv rStr x_signs), ("builder", tvObj a.c_Builder [("inputs", tv (rTup K rStr) x_builder_inputs), ("registers", tv (rTup K (rPair K rStr rBl)) x_builder_registers), ("gates", tv rAddr l_builder_gates), ("known", tv rAddr l_builder_known), ("literals", tv (rDic kStr rInt) x_builder_literals)])]), some (tv (rTup K (rPair K rBl (rTup K rInt))) x_machine), some (tv rStr x_name), some (tv (rLst rStr) v1), some (tv (rLst rInt) v4.1), none, none, none, none, none, none, none, none, none, none, none, none, some (tv rInt x2), none]) (ei_rng1 (ev_lenS (ev_fld (ev_var (i := 0) rfl) T.cl_Making T.n_Making_signs (fg_Making_2_signs _ _))) h_v5) (v4.2.1, v4.2.2) rfl (fun x2 => (pt_name (by decide))) (fun s2 x2 z2 hh_z2 => by obtain ⟨v6, h_v6, hh_z2⟩ := bindS hh_z2; obtain ⟨v7, h_v7, hh_z2⟩ := bindS hh_z2; replace hh_z2 := Option.some.inj hh_z2; subst hh_z2; exact (ev_meth (c2 := [(l_builder_gates, tcL (rPair K rInt rInt) s2.1), (l_builder_known, tcDT kPair rInt s2.2)]) (c3 := []) (c4 := [(l_builder_gates, tcL (rPair K rInt rInt) v7.2.1), (l_builder_known, tcDT kPair rInt v7.2.2)]) (R := R_Making_coded K a) (ev_var (i := 0) rfl) (fn_Making_2_coded _ _) (ea_cons (ev_callP (R := R_sign_names K) (ea_cons (ev_fld (ev_var (i := 0) rfl) T.cl_Making T.n_Making_signs (fg_Making_2_signs _ _)) ea_nil) (fun G vs hvs => ⟨x_signs, v6, hvs, rfl, h_v6, rfl⟩)) (ea_cons (ev_var (i := 17) rfl) ea_nil)) (fun G v vs hv hvs => ⟨x_signs, x_builder_inputs, x_builder_registers, l_builder_gates, l_builder_known, x_builder_literals, v6, x2, s2.1, s2.2, v7, ⟨hv, hvs⟩, rfl, h_v7, rfl⟩))) _ h_v8)) ?_)
    show Im _ [some (tvObj a.c_Making [("signs", tv rStr x_signs), ("builder", tvObj a.c_Builder [("inputs", tv (rTup K rStr) x_builder_inputs), ("registers", tv (rTup K (rPair K rStr rBl)) x_builder_registers), ("gates", tv rAddr l_builder_gates), ("known", tv rAddr l_builder_known), ("literals", tv (rDic kStr rInt) x_builder_literals)])]), some (tv (rTup K (rPair K rBl (rTup K rInt))) x_machine), some (tv rStr x_name), some (tv (rLst rStr) v1), some (tv (rLst rInt) v4.1), some (tv (rLst rInt) v8.1), none, none, none, none, none, none, none, none, none, none, none, none, none] [(l_builder_gates, tcL (rPair K rInt rInt) v8.2.1), (l_builder_known, tcDT kPair rInt v8.2.2)] _
    refine nxq ?_
    obtain ⟨v9, h_v9, hm⟩ := bindS hm
    obtain ⟨v10, h_v10, hm⟩ := bindS hm
    refine sv_seq (sv_asg (P := tv rInt v10) (c1 := [(l_builder_gates, tcL (rPair K rInt rInt) v9.2.1), (l_builder_known, tcDT kPair rInt v9.2.2)]) (ev_callP (R := R_turned K) (ea_cons (ev_meth (c2 := [(l_builder_gates, tcL (rPair K rInt rInt) v8.2.1), (l_builder_known, tcDT kPair rInt v8.2.2)]) (c3 := []) (c4 := [(l_builder_gates, tcL (rPair K rInt rInt) v9.2.1), (l_builder_known, tcDT kPair rInt v9.2.2)]) (R := R_Making_one_of K a) (ev_var (i := 0) rfl) (fn_Making_2_one_of _ _) (ea_cons (ev_var (i := 5) rfl) ea_nil) (fun G v vs hv hvs => ⟨x_signs, x_builder_inputs, x_builder_registers, l_builder_gates, l_builder_known, x_builder_literals, v8.1, v8.2.1, v8.2.2, v9, ⟨hv, hvs⟩, rfl, h_v9, rfl⟩)) ea_nil) (fun G vs hvs => ⟨v9.1, v10, hvs, rfl, h_v10, rfl⟩)) ?_)
    show Im _ [some (tvObj a.c_Making [("signs", tv rStr x_signs), ("builder", tvObj a.c_Builder [("inputs", tv (rTup K rStr) x_builder_inputs), ("registers", tv (rTup K (rPair K rStr rBl)) x_builder_registers), ("gates", tv rAddr l_builder_gates), ("known", tv rAddr l_builder_known), ("literals", tv (rDic kStr rInt) x_builder_literals)])]), some (tv (rTup K (rPair K rBl (rTup K rInt))) x_machine), some (tv rStr x_name), some (tv (rLst rStr) v1), some (tv (rLst rInt) v4.1), some (tv (rLst rInt) v8.1), some (tv rInt v10), none, none, none, none, none, none, none, none, none, none, none, none] [(l_builder_gates, tcL (rPair K rInt rInt) v9.2.1), (l_builder_known, tcDT kPair rInt v9.2.2)] _
    refine nxq ?_
    obtain ⟨v12, h_v12, hm⟩ := bindS hm
    obtain ⟨v13, h_v13, hm⟩ := bindS hm
    refine sv_seq (sv_asg (P := tv rInt v13.1) (c1 := [(l_builder_gates, tcL (rPair K rInt rInt) v13.2.1), (l_builder_known, tcDT kPair rInt v13.2.2)]) (ev_meth (c2 := [(l_builder_gates, tcL (rPair K rInt rInt) v9.2.1), (l_builder_known, tcDT kPair rInt v9.2.2)]) (c3 := []) (c4 := [(l_builder_gates, tcL (rPair K rInt rInt) v13.2.1), (l_builder_known, tcDT kPair rInt v13.2.2)]) (R := R_Making_one_of K a) (ev_var (i := 0) rfl) (fn_Making_2_one_of _ _) (ea_cons (ev_frz (en_lcF (rβ := rInt) _ _ (fun x3 => [some (tvObj a.c_Making [("signs", tv rStr x_signs), ("builder", tvObj a.c_Builder [("inputs", tv (rTup K rStr) x_builder_inputs), ("registers", tv (rTup K (rPair K rStr rBl)) x_builder_registers), ("gates", tv rAddr l_builder_gates), ("known", tv rAddr l_builder_known), ("literals", tv (rDic kStr rInt) x_builder_literals)])]), some (tv (rTup K (rPair K rBl (rTup K rInt))) x_machine), some (tv rStr x_name), some (tv (rLst rStr) v1), some (tv (rLst rInt) v4.1), some (tv (rLst rInt) v8.1), some (tv rInt v10), none, none, some (tv rInt x3.1), some (tv (rTup K rInt) x3.2.2), none, none, none, none, none, none, none, some (tv rBl x3.2.1)]) (ei_enum (ev_var (i := 1) rfl) src_tup) (fun x3 => (pt_pair (pt_name (by decide)) (pt_pair (pt_name (by decide)) (pt_name (by decide))))) (fun x3 z3 hh_z3 => by replace hh_z3 := Option.some.inj hh_z3; subst hh_z3; exact (et_B (ev_var (i := 18) rfl))) (fun x3 z4 hh_z4 => by obtain ⟨v11, h_v11, hh_z4⟩ := bindS hh_z4; replace hh_z4 := Option.some.inj hh_z4; subst hh_z4; exact (ev_ixL (ev_var (i := 4) rfl) (ev_var (i := 9) rfl) h_v11)) _ h_v12)) ea_nil) (fun G v vs hv hvs => ⟨x_signs, x_builder_inputs, x_builder_registers, l_builder_gates, l_builder_known, x_builder_literals, v12, v9.2.1, v9.2.2, v13, ⟨hv, hvs⟩, rfl, h_v13, rfl⟩)) ?_)
    show Im _ [some (tvObj a.c_Making [("signs", tv rStr x_signs), ("builder", tvObj a.c_Builder [("inputs", tv (rTup K rStr) x_builder_inputs), ("registers", tv (rTup K (rPair K rStr rBl)) x_builder_registers), ("gates", tv rAddr l_builder_gates), ("known", tv rAddr l_builder_known), ("literals", tv (rDic kStr rInt) x_builder_literals)])]), some (tv (rTup K (rPair K rBl (rTup K rInt))) x_machine), some (tv rStr x_name), some (tv (rLst rStr) v1), some (tv (rLst rInt) v4.1), some (tv (rLst rInt) v8.1), some (tv rInt v10), some (tv rInt v13.1), none, none, none, none, none, none, none, none, none, none, none] [(l_builder_gates, tcL (rPair K rInt rInt) v13.2.1), (l_builder_known, tcDT kPair rInt v13.2.2)] _
    refine nxq ?_
    obtain ⟨v14, h_v14, hm⟩ := bindS hm
    obtain ⟨v17, h_v17, hm⟩ := bindS hm
    refine sv_seq (sv_asgX (en_lcO (rβ := rInt) _ (fun s3 => [(l_builder_gates, tcL (rPair K rInt rInt) s3.1), (l_builder_known, tcDT kPair rInt s3.2)]) (fun x4 => [some (tvObj a.c_Making [("signs", tv rStr x_signs), ("builder", tvObj a.c_Builder [("inputs", tv (rTup K rStr) x_builder_inputs), ("registers", tv (rTup K (rPair K rStr rBl)) x_builder_registers), ("gates", tv rAddr l_builder_gates), ("known", tv rAddr l_builder_known), ("literals", tv (rDic kStr rInt) x_builder_literals)])]), some (tv (rTup K (rPair K rBl (rTup K rInt))) x_machine), some (tv rStr x_name), some (tv (rLst rStr) v1), some (tv (rLst rInt) v4.1), some (tv (rLst rInt) v8.1), some (tv rInt v10), some (tv rInt v13.1), none, some (tv rInt x4), none, none, none, none, none, none, none, none, none]) (ei_rng1 (ev_lenT (ev_var (i := 1) rfl)) h_v14) (v13.2.1, v13.2.2) rfl (fun x4 => (pt_name (by decide))) (fun s3 x4 z5 hh_z5 => by obtain ⟨v15, h_v15, hh_z5⟩ := bindS hh_z5; obtain ⟨v16, h_v16, hh_z5⟩ := bindS hh_z5; replace hh_z5 := Option.some.inj hh_z5; subst hh_z5; exact (en_lst (rα := rInt) (xs := [v16.1]) (ea_cons (ev_meth (c2 := [(l_builder_gates, tcL (rPair K rInt rInt) s3.1), (l_builder_known, tcDT kPair rInt s3.2)]) (c3 := []) (c4 := [(l_builder_gates, tcL (rPair K rInt rInt) v16.2.1), (l_builder_known, tcDT kPair rInt v16.2.2)]) (R := R_Builder_conj K a) (ev_fld (ev_var (i := 0) rfl) T.cl_Making T.n_Making_builder (fg_Making_2_builder _ _)) (fn_Builder_5_conj _ _ _ _ _) (ea_cons (ev_ixL (ev_var (i := 4) rfl) (ev_var (i := 9) rfl) h_v15) (ea_cons (ev_var (i := 6) rfl) ea_nil)) (fun G v vs hv hvs => ⟨x_builder_inputs, x_builder_registers, l_builder_gates, l_builder_known, x_builder_literals, v15, v10, s3.1, s3.2, v16, ⟨hv, hvs⟩, rfl, h_v16, rfl⟩)) ea_nil) (by show 1 ≤ sizeLine; decide))) _ h_v17) ?_)
    rintro _ _ ⟨l_comes1, rfl, rfl⟩
    show Im _ [some (tvObj a.c_Making [("signs", tv rStr x_signs), ("builder", tvObj a.c_Builder [("inputs", tv (rTup K rStr) x_builder_inputs), ("registers", tv (rTup K (rPair K rStr rBl)) x_builder_registers), ("gates", tv rAddr l_builder_gates), ("known", tv rAddr l_builder_known), ("literals", tv (rDic kStr rInt) x_builder_literals)])]), some (tv (rTup K (rPair K rBl (rTup K rInt))) x_machine), some (tv rStr x_name), some (tv (rLst rStr) v1), some (tv (rLst rInt) v4.1), some (tv (rLst rInt) v8.1), some (tv rInt v10), some (tv rInt v13.1), some (tv (rLst rAddr) l_comes1), none, none, none, none, none, none, none, none, none, none] ([(l_builder_gates, tcL (rPair K rInt rInt) v17.2.1), (l_builder_known, tcDT kPair rInt v17.2.2)] ++ mkD rInt l_comes1 v17.1) _
    refine nxq ?_
    obtain ⟨s7, h_s7, hm⟩ := bindS hm
    refine sv_seq (sv_forO (vs := [9, 10, 11]) (r := (rPair K rInt (rPair K rBl (rTup K rInt)))) _ (fun (s4 : (List (Int × Int)) × (List ((Int × Int) × Int)) × (List (List Int))) => [some (tvObj a.c_Making [("signs", tv rStr x_signs), ("builder", tvObj a.c_Builder [("inputs", tv (rTup K rStr) x_builder_inputs), ("registers", tv (rTup K (rPair K rStr rBl)) x_builder_registers), ("gates", tv rAddr l_builder_gates), ("known", tv rAddr l_builder_known), ("literals", tv (rDic kStr rInt) x_builder_literals)])]), some (tv (rTup K (rPair K rBl (rTup K rInt))) x_machine), some (tv rStr x_name), some (tv (rLst rStr) v1), some (tv (rLst rInt) v4.1), some (tv (rLst rInt) v8.1), some (tv rInt v10), some (tv rInt v13.1), some (tv (rLst rAddr) l_comes1), none, none, none, none, none, none, none, none, none, none]) (fun (s4 : (List (Int × Int)) × (List ((Int × Int) × Int)) × (List (List Int))) => ([(l_builder_gates, tcL (rPair K rInt rInt) s4.1), (l_builder_known, tcDT kPair rInt s4.2.1)] ++ mkD rInt l_comes1 s4.2.2)) (fun (s4 : (List (Int × Int)) × (List ((Int × Int) × Int)) × (List (List Int))) x5 => [some (tvObj a.c_Making [("signs", tv rStr x_signs), ("builder", tvObj a.c_Builder [("inputs", tv (rTup K rStr) x_builder_inputs), ("registers", tv (rTup K (rPair K rStr rBl)) x_builder_registers), ("gates", tv rAddr l_builder_gates), ("known", tv rAddr l_builder_known), ("literals", tv (rDic kStr rInt) x_builder_literals)])]), some (tv (rTup K (rPair K rBl (rTup K rInt))) x_machine), some (tv rStr x_name), some (tv (rLst rStr) v1), some (tv (rLst rInt) v4.1), some (tv (rLst rInt) v8.1), some (tv rInt v10), some (tv rInt v13.1), some (tv (rLst rAddr) l_comes1), some (tv rInt x5.1), some (tv rBl x5.2.1), some (tv (rTup K rInt) x5.2.2), none, none, none, none, none, none, none]) (ei_enum (ev_var (i := 1) rfl) src_tup) (v17.2.1, v17.2.2, v17.1) (.same (.same (.same (.same (.same (.same (.same (.same (.same (.lose (.lose (.lose (.lose (.lose (.lose (.lose (.lose (.lose (.lose .nil))))))))))))))))))) (List.Sublist.refl _) (fun s4 x5 => (pt_pair (pt_name (by decide)) (pt_pair (pt_name (by decide)) (pt_name (by decide))))) (fun s4 x5 st hb1 D' B' K1 K1' => ?_) s7 h_s7 ?_)
    · show Im _ [some (tvObj a.c_Making [("signs", tv rStr x_signs), ("builder", tvObj a.c_Builder [("inputs", tv (rTup K rStr) x_builder_inputs), ("registers", tv (rTup K (rPair K rStr rBl)) x_builder_registers), ("gates", tv rAddr l_builder_gates), ("known", tv rAddr l_builder_known), ("literals", tv (rDic kStr rInt) x_builder_literals)])]), some (tv (rTup K (rPair K rBl (rTup K rInt))) x_machine), some (tv rStr x_name), some (tv (rLst rStr) v1), some (tv (rLst rInt) v4.1), some (tv (rLst rInt) v8.1), some (tv rInt v10), some (tv rInt v13.1), some (tv (rLst rAddr) l_comes1), some (tv rInt x5.1), some (tv rBl x5.2.1), some (tv (rTup K rInt) x5.2.2), none, none, none, none, none, none, none] ([(l_builder_gates, tcL (rPair K rInt rInt) s4.1), (l_builder_known, tcDT kPair rInt s4.2.1)] ++ mkD rInt l_comes1 s4.2.2) _
      obtain ⟨s6, h_s6, hb1⟩ := bindS hb1
      refine (sv_forO (vs := [13, 14]) (r := (rPair K rInt rInt)) _ (fun (s5 : (List (Int × Int)) × (List ((Int × Int) × Int)) × (List (List Int))) => [some (tvObj a.c_Making [("signs", tv rStr x_signs), ("builder", tvObj a.c_Builder [("inputs", tv (rTup K rStr) x_builder_inputs), ("registers", tv (rTup K (rPair K rStr rBl)) x_builder_registers), ("gates", tv rAddr l_builder_gates), ("known", tv rAddr l_builder_known), ("literals", tv (rDic kStr rInt) x_builder_literals)])]), some (tv (rTup K (rPair K rBl (rTup K rInt))) x_machine), some (tv rStr x_name), some (tv (rLst rStr) v1), some (tv (rLst rInt) v4.1), some (tv (rLst rInt) v8.1), some (tv rInt v10), some (tv rInt v13.1), some (tv (rLst rAddr) l_comes1), some (tv rInt x5.1), some (tv rBl x5.2.1), some (tv (rTup K rInt) x5.2.2), none, none, none, none, none, none, none]) (fun (s5 : (List (Int × Int)) × (List ((Int × Int) × Int)) × (List (List Int))) => ([(l_builder_gates, tcL (rPair K rInt rInt) s5.1), (l_builder_known, tcDT kPair rInt s5.2.1)] ++ mkD rInt l_comes1 s5.2.2)) (fun (s5 : (List (Int × Int)) × (List ((Int × Int) × Int)) × (List (List Int))) x6 => [some (tvObj a.c_Making [("signs", tv rStr x_signs), ("builder", tvObj a.c_Builder [("inputs", tv (rTup K rStr) x_builder_inputs), ("registers", tv (rTup K (rPair K rStr rBl)) x_builder_registers), ("gates", tv rAddr l_builder_gates), ("known", tv rAddr l_builder_known), ("literals", tv (rDic kStr rInt) x_builder_literals)])]), some (tv (rTup K (rPair K rBl (rTup K rInt))) x_machine), some (tv rStr x_name), some (tv (rLst rStr) v1), some (tv (rLst rInt) v4.1), some (tv (rLst rInt) v8.1), some (tv rInt v10), some (tv rInt v13.1), some (tv (rLst rAddr) l_comes1), some (tv rInt x5.1), some (tv rBl x5.2.1), some (tv (rTup K rInt) x5.2.2), none, some (tv rInt x6.1), some (tv rInt x6.2), none, none, none, none]) (ei_zip (ev_var (i := 5) rfl) (ev_var (i := 11) rfl) src_lst src_tup) (s4.1, s4.2.1, s4.2.2) (.same (.same (.same (.same (.same (.same (.same (.same (.same (.same (.same (.same (.lose (.lose (.lose (.lose (.lose (.lose (.lose .nil))))))))))))))))))) (List.Sublist.refl _) (fun s5 x6 => (pt_pair (pt_name (by decide)) (pt_name (by decide)))) (fun s5 x6 st hb2 D' B' K2 K2' => ?_) s6 h_s6 ?_)
      · show Im _ [some (tvObj a.c_Making [("signs", tv rStr x_signs), ("builder", tvObj a.c_Builder [("inputs", tv (rTup K rStr) x_builder_inputs), ("registers", tv (rTup K (rPair K rStr rBl)) x_builder_registers), ("gates", tv rAddr l_builder_gates), ("known", tv rAddr l_builder_known), ("literals", tv (rDic kStr rInt) x_builder_literals)])]), some (tv (rTup K (rPair K rBl (rTup K rInt))) x_machine), some (tv rStr x_name), some (tv (rLst rStr) v1), some (tv (rLst rInt) v4.1), some (tv (rLst rInt) v8.1), some (tv rInt v10), some (tv rInt v13.1), some (tv (rLst rAddr) l_comes1), some (tv rInt x5.1), some (tv rBl x5.2.1), some (tv (rTup K rInt) x5.2.2), none, some (tv rInt x6.1), some (tv rInt x6.2), none, none, none, none] ([(l_builder_gates, tcL (rPair K rInt rInt) s5.1), (l_builder_known, tcDT kPair rInt s5.2.1)] ++ mkD rInt l_comes1 s5.2.2) _
        obtain ⟨v18, h_v18, hb2⟩ := bindS hb2
        obtain ⟨v19, h_v19, hb2⟩ := bindS hb2
        obtain ⟨v20, h_v20, hb2⟩ := bindS hb2
        refine (sv_drop (P := tv rNon ()) (c1 := ([(l_builder_gates, tcL (rPair K rInt rInt) v19.2.1), (l_builder_known, tcDT kPair rInt v19.2.2)] ++ mkD rInt l_comes1 v20)) (ev_appAt (c0 := [(l_builder_gates, tcL (rPair K rInt rInt) s5.1), (l_builder_known, tcDT kPair rInt s5.2.1)]) (c1 := [(l_builder_gates, tcL (rPair K rInt rInt) v19.2.1), (l_builder_known, tcDT kPair rInt v19.2.2)]) (rα := rInt) (ev_var (i := 8) rfl) (ev_var (i := 14) rfl) (ev_meth (c2 := [(l_builder_gates, tcL (rPair K rInt rInt) s5.1), (l_builder_known, tcDT kPair rInt s5.2.1)]) (c3 := (mkD rInt l_comes1 s5.2.2)) (c4 := [(l_builder_gates, tcL (rPair K rInt rInt) v19.2.1), (l_builder_known, tcDT kPair rInt v19.2.2)]) (R := R_Builder_conj K a) (ev_fld (ev_var (i := 0) rfl) T.cl_Making T.n_Making_builder (fg_Making_2_builder _ _)) (fn_Builder_5_conj _ _ _ _ _) (ea_cons (ev_ixL (ev_var (i := 4) rfl) (ev_var (i := 9) rfl) h_v18) (ea_cons (ev_var (i := 13) rfl) ea_nil)) (fun G v vs hv hvs => ⟨x_builder_inputs, x_builder_registers, l_builder_gates, l_builder_known, x_builder_literals, v18, x6.1, s5.1, s5.2.1, v19, ⟨hv, hvs⟩, rfl, h_v19, rfl⟩)) h_v20) ?_)
        show Im _ [some (tvObj a.c_Making [("signs", tv rStr x_signs), ("builder", tvObj a.c_Builder [("inputs", tv (rTup K rStr) x_builder_inputs), ("registers", tv (rTup K (rPair K rStr rBl)) x_builder_registers), ("gates", tv rAddr l_builder_gates), ("known", tv rAddr l_builder_known), ("literals", tv (rDic kStr rInt) x_builder_literals)])]), some (tv (rTup K (rPair K rBl (rTup K rInt))) x_machine), some (tv rStr x_name), some (tv (rLst rStr) v1), some (tv (rLst rInt) v4.1), some (tv (rLst rInt) v8.1), some (tv rInt v10), some (tv rInt v13.1), some (tv (rLst rAddr) l_comes1), some (tv rInt x5.1), some (tv rBl x5.2.1), some (tv (rTup K rInt) x5.2.2), none, some (tv rInt x6.1), some (tv rInt x6.2), none, none, none, none] ([(l_builder_gates, tcL (rPair K rInt rInt) v19.2.1), (l_builder_known, tcDT kPair rInt v19.2.2)] ++ mkD rInt l_comes1 v20) _
        replace hb2 := Option.some.inj hb2
        subst hb2
        exact im_le (.same (.same (.same (.same (.same (.same (.same (.same (.same (.same (.same (.same (.lose (.lose (.lose (.lose (.lose (.lose (.lose .nil))))))))))))))))))) (im_sub (List.Sublist.refl _) K2)
      · show Im _ [some (tvObj a.c_Making [("signs", tv rStr x_signs), ("builder", tvObj a.c_Builder [("inputs", tv (rTup K rStr) x_builder_inputs), ("registers", tv (rTup K (rPair K rStr rBl)) x_builder_registers), ("gates", tv rAddr l_builder_gates), ("known", tv rAddr l_builder_known), ("literals", tv (rDic kStr rInt) x_builder_literals)])]), some (tv (rTup K (rPair K rBl (rTup K rInt))) x_machine), some (tv rStr x_name), some (tv (rLst rStr) v1), some (tv (rLst rInt) v4.1), some (tv (rLst rInt) v8.1), some (tv rInt v10), some (tv rInt v13.1), some (tv (rLst rAddr) l_comes1), some (tv rInt x5.1), some (tv rBl x5.2.1), some (tv (rTup K rInt) x5.2.2), none, none, none, none, none, none, none] ([(l_builder_gates, tcL (rPair K rInt rInt) s6.1), (l_builder_known, tcDT kPair rInt s6.2.1)] ++ mkD rInt l_comes1 s6.2.2) _
        replace hb1 := Option.some.inj hb1
        subst hb1
        exact im_le (.same (.same (.same (.same (.same (.same (.same (.same (.same (.lose (.lose (.lose (.lose (.lose (.lose (.lose (.lose (.lose (.lose .nil))))))))))))))))))) (im_sub (List.Sublist.refl _) K1)
    · show Im _ [some (tvObj a.c_Making [("signs", tv rStr x_signs), ("builder", tvObj a.c_Builder [("inputs", tv (rTup K rStr) x_builder_inputs), ("registers", tv (rTup K (rPair K rStr rBl)) x_builder_registers), ("gates", tv rAddr l_builder_gates), ("known", tv rAddr l_builder_known), ("literals", tv (rDic kStr rInt) x_builder_literals)])]), some (tv (rTup K (rPair K rBl (rTup K rInt))) x_machine), some (tv rStr x_name), some (tv (rLst rStr) v1), some (tv (rLst rInt) v4.1), some (tv (rLst rInt) v8.1), some (tv rInt v10), some (tv rInt v13.1), some (tv (rLst rAddr) l_comes1), none, none, none, none, none, none, none, none, none, none] ([(l_builder_gates, tcL (rPair K rInt rInt) s7.1), (l_builder_known, tcDT kPair rInt s7.2.1)] ++ mkD rInt l_comes1 s7.2.2) _
      refine nxq ?_
      refine sv_frzAll (i := 8) rfl ?_
      show Im _ [some (tvObj a.c_Making [("signs", tv rStr x_signs), ("builder", tvObj a.c_Builder [("inputs", tv (rTup K rStr) x_builder_inputs), ("registers", tv (rTup K (rPair K rStr rBl)) x_builder_registers), ("gates", tv rAddr l_builder_gates), ("known", tv rAddr l_builder_known), ("literals", tv (rDic kStr rInt) x_builder_literals)])]), some (tv (rTup K (rPair K rBl (rTup K rInt))) x_machine), some (tv rStr x_name), some (tv (rLst rStr) v1), some (tv (rLst rInt) v4.1), some (tv (rLst rInt) v8.1), some (tv rInt v10), some (tv rInt v13.1), some (tv (rLst (rLst rInt)) s7.2.2), none, none, none, none, none, none, none, none, none, none] [(l_builder_gates, tcL (rPair K rInt rInt) s7.1), (l_builder_known, tcDT kPair rInt s7.2.1)] _
      refine sv_seq (sv_asgN (c1 := [(l_builder_gates, tcL (rPair K rInt rInt) s7.1), (l_builder_known, tcDT kPair rInt s7.2.1)]) (en_nil (rα := rInt)) ?_)
      intro l_nexts1
      show Im _ [some (tvObj a.c_Making [("signs", tv rStr x_signs), ("builder", tvObj a.c_Builder [("inputs", tv (rTup K rStr) x_builder_inputs), ("registers", tv (rTup K (rPair K rStr rBl)) x_builder_registers), ("gates", tv rAddr l_builder_gates), ("known", tv rAddr l_builder_known), ("literals", tv (rDic kStr rInt) x_builder_literals)])]), some (tv (rTup K (rPair K rBl (rTup K rInt))) x_machine), some (tv rStr x_name), some (tv (rLst rStr) v1), some (tv (rLst rInt) v4.1), some (tv (rLst rInt) v8.1), some (tv rInt v10), some (tv rInt v13.1), some (tv (rLst (rLst rInt)) s7.2.2), none, none, some (tv rAddr l_nexts1), none, none, none, none, none, none, none] [(l_builder_gates, tcL (rPair K rInt rInt) s7.1), (l_builder_known, tcDT kPair rInt s7.2.1), (l_nexts1, tcL rInt ([] : List Int))] _
      refine nxq ?_
      obtain ⟨v21, h_v21, hm⟩ := bindS hm
      obtain ⟨s11, h_s11, hm⟩ := bindS hm
      refine sv_seq (sv_forO (vs := [12]) (r := rInt) _ (fun (s8 : (List (Int × Int)) × (List ((Int × Int) × Int)) × (List Int)) => [some (tvObj a.c_Making [("signs", tv rStr x_signs), ("builder", tvObj a.c_Builder [("inputs", tv (rTup K rStr) x_builder_inputs), ("registers", tv (rTup K (rPair K rStr rBl)) x_builder_registers), ("gates", tv rAddr l_builder_gates), ("known", tv rAddr l_builder_known), ("literals", tv (rDic kStr rInt) x_builder_literals)])]), some (tv (rTup K (rPair K rBl (rTup K rInt))) x_machine), some (tv rStr x_name), some (tv (rLst rStr) v1), some (tv (rLst rInt) v4.1), some (tv (rLst rInt) v8.1), some (tv rInt v10), some (tv rInt v13.1), some (tv (rLst (rLst rInt)) s7.2.2), none, none, some (tv rAddr l_nexts1), none, none, none, none, none, none, none]) (fun (s8 : (List (Int × Int)) × (List ((Int × Int) × Int)) × (List Int)) => [(l_builder_gates, tcL (rPair K rInt rInt) s8.1), (l_builder_known, tcDT kPair rInt s8.2.1), (l_nexts1, tcL rInt s8.2.2)]) (fun (s8 : (List (Int × Int)) × (List ((Int × Int) × Int)) × (List Int)) x7 => [some (tvObj a.c_Making [("signs", tv rStr x_signs), ("builder", tvObj a.c_Builder [("inputs", tv (rTup K rStr) x_builder_inputs), ("registers", tv (rTup K (rPair K rStr rBl)) x_builder_registers), ("gates", tv rAddr l_builder_gates), ("known", tv rAddr l_builder_known), ("literals", tv (rDic kStr rInt) x_builder_literals)])]), some (tv (rTup K (rPair K rBl (rTup K rInt))) x_machine), some (tv rStr x_name), some (tv (rLst rStr) v1), some (tv (rLst rInt) v4.1), some (tv (rLst rInt) v8.1), some (tv rInt v10), some (tv rInt v13.1), some (tv (rLst (rLst rInt)) s7.2.2), none, none, some (tv rAddr l_nexts1), some (tv rInt x7), none, none, none, none, none, none]) (ei_rng1 (ev_lenL (ev_var (i := 3) rfl)) h_v21) (s7.1, s7.2.1, ([] : List Int)) (.same (.same (.same (.same (.same (.same (.same (.same (.same (.lose (.lose (.same (.lose (.lose (.lose (.lose (.lose (.lose (.lose .nil))))))))))))))))))) (List.Sublist.refl _) (fun s8 x7 => (pt_name (by decide))) (fun s8 x7 st hb3 D' B' K3 K3' => ?_) s11 h_s11 ?_)
      · show Im _ [some (tvObj a.c_Making [("signs", tv rStr x_signs), ("builder", tvObj a.c_Builder [("inputs", tv (rTup K rStr) x_builder_inputs), ("registers", tv (rTup K (rPair K rStr rBl)) x_builder_registers), ("gates", tv rAddr l_builder_gates), ("known", tv rAddr l_builder_known), ("literals", tv (rDic kStr rInt) x_builder_literals)])]), some (tv (rTup K (rPair K rBl (rTup K rInt))) x_machine), some (tv rStr x_name), some (tv (rLst rStr) v1), some (tv (rLst rInt) v4.1), some (tv (rLst rInt) v8.1), some (tv rInt v10), some (tv rInt v13.1), some (tv (rLst (rLst rInt)) s7.2.2), none, none, some (tv rAddr l_nexts1), some (tv rInt x7), none, none, none, none, none, none] [(l_builder_gates, tcL (rPair K rInt rInt) s8.1), (l_builder_known, tcDT kPair rInt s8.2.1), (l_nexts1, tcL rInt s8.2.2)] _
        refine sv_seq (sv_asgN (c1 := [(l_builder_gates, tcL (rPair K rInt rInt) s8.1), (l_builder_known, tcDT kPair rInt s8.2.1), (l_nexts1, tcL rInt s8.2.2)]) (en_nil (rα := rInt)) ?_)
        intro l_literals1
        show Im _ [some (tvObj a.c_Making [("signs", tv rStr x_signs), ("builder", tvObj a.c_Builder [("inputs", tv (rTup K rStr) x_builder_inputs), ("registers", tv (rTup K (rPair K rStr rBl)) x_builder_registers), ("gates", tv rAddr l_builder_gates), ("known", tv rAddr l_builder_known), ("literals", tv (rDic kStr rInt) x_builder_literals)])]), some (tv (rTup K (rPair K rBl (rTup K rInt))) x_machine), some (tv rStr x_name), some (tv (rLst rStr) v1), some (tv (rLst rInt) v4.1), some (tv (rLst rInt) v8.1), some (tv rInt v10), some (tv rInt v13.1), some (tv (rLst (rLst rInt)) s7.2.2), none, none, some (tv rAddr l_nexts1), some (tv rInt x7), none, none, some (tv rAddr l_literals1), none, none, none] [(l_builder_gates, tcL (rPair K rInt rInt) s8.1), (l_builder_known, tcDT kPair rInt s8.2.1), (l_nexts1, tcL rInt s8.2.2), (l_literals1, tcL rInt ([] : List Int))] _
        refine nxq ?_
        obtain ⟨s10, h_s10, hb3⟩ := bindS hb3
        refine sv_seq (sv_forO (vs := [9, 16]) (r := (rPair K rInt (rLst rInt))) _ (fun (s9 : (List Int)) => [some (tvObj a.c_Making [("signs", tv rStr x_signs), ("builder", tvObj a.c_Builder [("inputs", tv (rTup K rStr) x_builder_inputs), ("registers", tv (rTup K (rPair K rStr rBl)) x_builder_registers), ("gates", tv rAddr l_builder_gates), ("known", tv rAddr l_builder_known), ("literals", tv (rDic kStr rInt) x_builder_literals)])]), some (tv (rTup K (rPair K rBl (rTup K rInt))) x_machine), some (tv rStr x_name), some (tv (rLst rStr) v1), some (tv (rLst rInt) v4.1), some (tv (rLst rInt) v8.1), some (tv rInt v10), some (tv rInt v13.1), some (tv (rLst (rLst rInt)) s7.2.2), none, none, some (tv rAddr l_nexts1), some (tv rInt x7), none, none, some (tv rAddr l_literals1), none, none, none]) (fun (s9 : (List Int)) => [(l_builder_gates, tcL (rPair K rInt rInt) s8.1), (l_builder_known, tcDT kPair rInt s8.2.1), (l_nexts1, tcL rInt s8.2.2), (l_literals1, tcL rInt s9)]) (fun (s9 : (List Int)) x8 => [some (tvObj a.c_Making [("signs", tv rStr x_signs), ("builder", tvObj a.c_Builder [("inputs", tv (rTup K rStr) x_builder_inputs), ("registers", tv (rTup K (rPair K rStr rBl)) x_builder_registers), ("gates", tv rAddr l_builder_gates), ("known", tv rAddr l_builder_known), ("literals", tv (rDic kStr rInt) x_builder_literals)])]), some (tv (rTup K (rPair K rBl (rTup K rInt))) x_machine), some (tv rStr x_name), some (tv (rLst rStr) v1), some (tv (rLst rInt) v4.1), some (tv (rLst rInt) v8.1), some (tv rInt v10), some (tv rInt v13.1), some (tv (rLst (rLst rInt)) s7.2.2), some (tv rInt x8.1), none, some (tv rAddr l_nexts1), some (tv rInt x7), none, none, some (tv rAddr l_literals1), some (tv (rLst rInt) x8.2), none, none]) (ei_enum (ev_var (i := 8) rfl) src_lst) ([] : List Int) (.same (.same (.same (.same (.same (.same (.same (.same (.same (.lose (.lose (.same (.same (.lose (.lose (.same (.lose (.lose (.lose .nil))))))))))))))))))) (List.Sublist.refl _) (fun s9 x8 => (pt_pair (pt_name (by decide)) (pt_name (by decide)))) (fun s9 x8 st hb4 D' B' K4 K4' => ?_) s10 h_s10 ?_)
        · show Im _ [some (tvObj a.c_Making [("signs", tv rStr x_signs), ("builder", tvObj a.c_Builder [("inputs", tv (rTup K rStr) x_builder_inputs), ("registers", tv (rTup K (rPair K rStr rBl)) x_builder_registers), ("gates", tv rAddr l_builder_gates), ("known", tv rAddr l_builder_known), ("literals", tv (rDic kStr rInt) x_builder_literals)])]), some (tv (rTup K (rPair K rBl (rTup K rInt))) x_machine), some (tv rStr x_name), some (tv (rLst rStr) v1), some (tv (rLst rInt) v4.1), some (tv (rLst rInt) v8.1), some (tv rInt v10), some (tv rInt v13.1), some (tv (rLst (rLst rInt)) s7.2.2), some (tv rInt x8.1), none, some (tv rAddr l_nexts1), some (tv rInt x7), none, none, some (tv rAddr l_literals1), some (tv (rLst rInt) x8.2), none, none] [(l_builder_gates, tcL (rPair K rInt rInt) s8.1), (l_builder_known, tcDT kPair rInt s8.2.1), (l_nexts1, tcL rInt s8.2.2), (l_literals1, tcL rInt s9)] _
          obtain ⟨v22, h_v22, hb4⟩ := bindS hb4
          obtain ⟨v23, h_v23, hb4⟩ := bindS hb4
          refine (sv_drop (P := tv rNon ()) (c1 := [(l_builder_gates, tcL (rPair K rInt rInt) s8.1), (l_builder_known, tcDT kPair rInt s8.2.1), (l_nexts1, tcL rInt s8.2.2), (l_literals1, tcL rInt v23)]) (ev_ext (n := 3) (l := l_literals1) (xs1 := s9) (ev_var (i := 15) rfl) (List.mem_of_getElem? (i := 3) rfl) (ev_if (et_test (ev_eqI (ev_callP (R := R_bit_of K) (ea_cons (ev_var (i := 9) rfl) (ea_cons (ev_var (i := 12) rfl) ea_nil)) (fun G vs hvs => ⟨x8.1, x7, v22, hvs, rfl, h_v22, rfl⟩)) (ev_int (i := 1)))) (ev_var (i := 16) rfl) (ev_frz (en_nil (rα := rInt)))) rfl h_v23) ?_)
          show Im _ [some (tvObj a.c_Making [("signs", tv rStr x_signs), ("builder", tvObj a.c_Builder [("inputs", tv (rTup K rStr) x_builder_inputs), ("registers", tv (rTup K (rPair K rStr rBl)) x_builder_registers), ("gates", tv rAddr l_builder_gates), ("known", tv rAddr l_builder_known), ("literals", tv (rDic kStr rInt) x_builder_literals)])]), some (tv (rTup K (rPair K rBl (rTup K rInt))) x_machine), some (tv rStr x_name), some (tv (rLst rStr) v1), some (tv (rLst rInt) v4.1), some (tv (rLst rInt) v8.1), some (tv rInt v10), some (tv rInt v13.1), some (tv (rLst (rLst rInt)) s7.2.2), some (tv rInt x8.1), none, some (tv rAddr l_nexts1), some (tv rInt x7), none, none, some (tv rAddr l_literals1), some (tv (rLst rInt) x8.2), none, none] [(l_builder_gates, tcL (rPair K rInt rInt) s8.1), (l_builder_known, tcDT kPair rInt s8.2.1), (l_nexts1, tcL rInt s8.2.2), (l_literals1, tcL rInt v23)] _
          replace hb4 := Option.some.inj hb4
          subst hb4
          exact im_le (.same (.same (.same (.same (.same (.same (.same (.same (.same (.lose (.lose (.same (.same (.lose (.lose (.same (.lose (.lose (.lose .nil))))))))))))))))))) (im_sub (List.Sublist.refl _) K4)
        · show Im _ [some (tvObj a.c_Making [("signs", tv rStr x_signs), ("builder", tvObj a.c_Builder [("inputs", tv (rTup K rStr) x_builder_inputs), ("registers", tv (rTup K (rPair K rStr rBl)) x_builder_registers), ("gates", tv rAddr l_builder_gates), ("known", tv rAddr l_builder_known), ("literals", tv (rDic kStr rInt) x_builder_literals)])]), some (tv (rTup K (rPair K rBl (rTup K rInt))) x_machine), some (tv rStr x_name), some (tv (rLst rStr) v1), some (tv (rLst rInt) v4.1), some (tv (rLst rInt) v8.1), some (tv rInt v10), some (tv rInt v13.1), some (tv (rLst (rLst rInt)) s7.2.2), none, none, some (tv rAddr l_nexts1), some (tv rInt x7), none, none, some (tv rAddr l_literals1), none, none, none] [(l_builder_gates, tcL (rPair K rInt rInt) s8.1), (l_builder_known, tcDT kPair rInt s8.2.1), (l_nexts1, tcL rInt s8.2.2), (l_literals1, tcL rInt s10)] _
          refine nxq ?_
          obtain ⟨v24, h_v24, hb3⟩ := bindS hb3
          obtain ⟨v25, h_v25, hb3⟩ := bindS hb3
          refine (sv_drop (P := tv rNon ()) (c1 := [(l_builder_gates, tcL (rPair K rInt rInt) v24.2.1), (l_builder_known, tcDT kPair rInt v24.2.2), (l_nexts1, tcL rInt v25)]) (ev_app (n := 2) (l := l_nexts1) (xs1 := s8.2.2) (ev_var (i := 11) rfl) (List.mem_of_getElem? (i := 2) rfl) (ev_meth (c2 := [(l_builder_gates, tcL (rPair K rInt rInt) s8.1), (l_builder_known, tcDT kPair rInt s8.2.1)]) (c3 := [(l_nexts1, tcL rInt s8.2.2)]) (c4 := [(l_builder_gates, tcL (rPair K rInt rInt) v24.2.1), (l_builder_known, tcDT kPair rInt v24.2.2)]) (R := R_Making_one_of K a) (ev_var (i := 0) rfl) (fn_Making_2_one_of _ _) (ea_cons (ev_varF (i := 15) (n := 3) (l := l_literals1) rfl rfl) ea_nil) (fun G v vs hv hvs => ⟨x_signs, x_builder_inputs, x_builder_registers, l_builder_gates, l_builder_known, x_builder_literals, s10, s8.1, s8.2.1, v24, ⟨hv, hvs⟩, rfl, h_v24, rfl⟩)) rfl h_v25) ?_)
          show Im _ [some (tvObj a.c_Making [("signs", tv rStr x_signs), ("builder", tvObj a.c_Builder [("inputs", tv (rTup K rStr) x_builder_inputs), ("registers", tv (rTup K (rPair K rStr rBl)) x_builder_registers), ("gates", tv rAddr l_builder_gates), ("known", tv rAddr l_builder_known), ("literals", tv (rDic kStr rInt) x_builder_literals)])]), some (tv (rTup K (rPair K rBl (rTup K rInt))) x_machine), some (tv rStr x_name), some (tv (rLst rStr) v1), some (tv (rLst rInt) v4.1), some (tv (rLst rInt) v8.1), some (tv rInt v10), some (tv rInt v13.1), some (tv (rLst (rLst rInt)) s7.2.2), none, none, some (tv rAddr l_nexts1), some (tv rInt x7), none, none, some (tv rAddr l_literals1), none, none, none] [(l_builder_gates, tcL (rPair K rInt rInt) v24.2.1), (l_builder_known, tcDT kPair rInt v24.2.2), (l_nexts1, tcL rInt v25)] _
          replace hb3 := Option.some.inj hb3
          subst hb3
          exact im_le (.same (.same (.same (.same (.same (.same (.same (.same (.same (.lose (.lose (.same (.lose (.lose (.lose (.lose (.lose (.lose (.lose .nil))))))))))))))))))) (im_sub (List.Sublist.refl _) K3)
      · show Im _ [some (tvObj a.c_Making [("signs", tv rStr x_signs), ("builder", tvObj a.c_Builder [("inputs", tv (rTup K rStr) x_builder_inputs), ("registers", tv (rTup K (rPair K rStr rBl)) x_builder_registers), ("gates", tv rAddr l_builder_gates), ("known", tv rAddr l_builder_known), ("literals", tv (rDic kStr rInt) x_builder_literals)])]), some (tv (rTup K (rPair K rBl (rTup K rInt))) x_machine), some (tv rStr x_name), some (tv (rLst rStr) v1), some (tv (rLst rInt) v4.1), some (tv (rLst rInt) v8.1), some (tv rInt v10), some (tv rInt v13.1), some (tv (rLst (rLst rInt)) s7.2.2), none, none, some (tv rAddr l_nexts1), none, none, none, none, none, none, none] [(l_builder_gates, tcL (rPair K rInt rInt) s11.1), (l_builder_known, tcDT kPair rInt s11.2.1), (l_nexts1, tcL rInt s11.2.2)] _
        refine nxq ?_
        refine sv_frz (i := 11) (n := 2) (l := l_nexts1) rfl rfl ?_
        show Im _ [some (tvObj a.c_Making [("signs", tv rStr x_signs), ("builder", tvObj a.c_Builder [("inputs", tv (rTup K rStr) x_builder_inputs), ("registers", tv (rTup K (rPair K rStr rBl)) x_builder_registers), ("gates", tv rAddr l_builder_gates), ("known", tv rAddr l_builder_known), ("literals", tv (rDic kStr rInt) x_builder_literals)])]), some (tv (rTup K (rPair K rBl (rTup K rInt))) x_machine), some (tv rStr x_name), some (tv (rLst rStr) v1), some (tv (rLst rInt) v4.1), some (tv (rLst rInt) v8.1), some (tv rInt v10), some (tv rInt v13.1), some (tv (rLst (rLst rInt)) s7.2.2), none, none, some (tv (rLst rInt) s11.2.2), none, none, none, none, none, none, none] [(l_builder_gates, tcL (rPair K rInt rInt) s11.1), (l_builder_known, tcDT kPair rInt s11.2.1)] _
        replace hm := Option.some.inj hm
        subst hm
        exact sv_ret (P := tv (rPair K rInt (rLst rInt)) (v13.1, s11.2.2)) (c1 := [(l_builder_gates, tcL (rPair K rInt rInt) s11.1), (l_builder_known, tcDT kPair rInt s11.2.1)]) (ev_pair (ev_var (i := 7) rfl) (ev_var (i := 11) rfl)) (RT.sub (List.Sublist.refl _) (fun v G' H' ap pp => hq _ _ v G' H' ⟨rfl, rfl⟩ ap pp))
def m_net_of (x_machine : (List (Bool × (List Int)))) (x_signs : (List Nat)) : Option (((List (List Nat)) × (List ((List Nat) × Bool)) × (List (Int × Int)) × (List ((List Nat) × Int)) × (List Int))) :=
  (m_Making___init__ x_machine ([113] : List Nat) x_signs).bind fun v1 => (m_Making_machine v1.1 v1.2.1 v1.2.2.1 v1.2.2.2.2.2 v1.2.2.2.1 v1.2.2.2.2.1 x_machine ([113] : List Nat)).bind fun v2 => (m_Builder_net v1.2.1 v1.2.2.1 v1.2.2.2.2.2 v2.2.1 v2.2.2 ([(([112, 97, 115, 115, 101, 115] : List Nat), v2.1.1)] : List ((List Nat) × Int)) v2.1.2).bind fun v3 => some v3.1
def R_net_of (K : PySem.W.Frag) : Hp → List V → Cells → (Cells → TV → Prop) → Prop := fun G vs c W => ∃ (x_machine : (List (Bool × (List Int)))) (x_signs : (List Nat)) (y : ((List (List Nat)) × (List ((List Nat) × Bool)) × (List (Int × Int)) × (List ((List Nat) × Int)) × (List Int))), VsOk G [tv (rTup K (rPair K rBl (rTup K rInt))) x_machine, tv rStr x_signs] vs ∧ c = [] ∧ m_net_of x_machine x_signs = some y ∧ W = W1 [] (tv (rQui K (rTup K rStr) (rTup K (rPair K rStr rBl)) (rTup K (rPair K rInt rInt)) (rTup K (rPair K rStr rInt)) (rTup K rInt)) y)
abbrev n_net_of : List Str := ["machine", "signs", "making", "passes", "nexts"]
theorem sc_net_of : FnScope ["machine", "signs", "making", "passes", "nexts"] ["machine", "signs"] (defScope s_net_of) := ⟨rfl, rfl, rfl, by decide +kernel, rfl, by decide +kernel, by decide +kernel⟩
theorem ok_net_of (T : Tx K mg a) : FnOk P w K mg base CX0 6 a.f_net_of a.d_net_of ["machine", "signs"] (spOf (R_net_of K)) := by
  refine T.F_net_of.ok sc_net_of (fun vs H Q E h => ?_) (fun cdv A outer s H vs Q E hr h => ?_)
  · obtain ⟨G, c, W, hd, ⟨x_machine, x_signs, y, hv, _⟩, hq⟩ := h
    exact hv.len
  · obtain ⟨G, c, W, hd, ⟨x_machine, x_signs, y, hv, rfl, hm, rfl⟩, hq⟩ := h
    have hu := hu_of hr
    have hu64 := hr.units
    have hu65 := units65 hr
    refine ⟨_, (pss_cons (ps_set (i := 2) sc_net_of.nd (by rfl) (by first | exact Or.inl rfl | exact Or.inr rfl) (pe_make T.mk_Making (ok_Making___init__ T) (hr.mono (by decide)) (by rfl) T.gc_Making T.d_Making___init__ .nil pass0 (pa_cons (pe_disp (pps_cons pe_str (pv 0) pps_nil) rfl rfl (by simp) (by decide)) (pa_cons (pe_disp (pps_cons pe_str pe_str pps_nil) rfl rfl (by simp) (by decide)) (pa_cons (pv 1) pa_nil)))))
      (pss_cons (ps_asg (pe_meth (pv 2) T.cl_Making T.m_Making_machine (ok_Making_machine T) (hr.mono (by decide)) T.d_Making_machine .nil pass0 (pa_cons (pv 0) (pa_cons pe_str pa_nil))) (pg_tup rfl (pgs_cons (pg_name (i := 3) sc_net_of.nd (by rfl) (by first | exact Or.inl rfl | exact Or.inr rfl) (by first | exact Or.inr rfl | exact Or.inl rfl)) (pgs_cons (pg_name (i := 4) sc_net_of.nd (by rfl) (by first | exact Or.inl rfl | exact Or.inr rfl) (by first | exact Or.inr rfl | exact Or.inl rfl)) pgs_nil))))
      (pss_one (ps_ret (pe_meth (pe_fld (pv 2) rfl) T.cl_Builder T.m_Builder_net (ok_Builder_net T) (hr.mono (by decide)) T.d_Builder_net .nil pass0 (pa_cons (pe_lst (pa_cons (pe_tup (pa_cons pe_str (pa_cons (pv 3) pa_nil))) pa_nil)) (pa_cons (pv 4) pa_nil))))))), ?_⟩
    refine (?_ : Sv _ _ ⟨G, [], H⟩ [some (tv (rTup K (rPair K rBl (rTup K rInt))) x_machine), some (tv rStr x_signs), none, none, none] []) _ _ (Post.refl hd (env_start (N := n_net_of) hv))
    unfold m_net_of at hm
    obtain ⟨v1, h_v1, hm⟩ := bindS hm
    refine sv_seq (sv_asgX (evx_make (W := fun _ => WB_Making K a v1) (R := R_Making___init__ K a) (ea_cons (en_disp1 (kf := kStr) (rk := rStr) keyS.rep (ev_str (x := []) (by decide +kernel) (by decide +kernel)) (ev_var (i := 0) rfl)) (ea_cons (en_disp1 (kf := kStr) (rk := rStr) keyS.rep (ev_str (x := []) (by decide +kernel) (by decide +kernel)) (ev_str (x := [113]) (by decide +kernel) (by decide +kernel))) (ea_cons (ev_var (i := 1) rfl) ea_nil))) (fun x G vs hvs => ⟨x, x_machine, ([113] : List Nat), x_signs, v1, ⟨rfl, hvs⟩, rfl, h_v1, rfl⟩)) ?_)
    rintro _ _ ⟨x_new, _, ⟨l_gates1, l_known1, rfl, rfl⟩, e2⟩
    subst e2
    show Im _ [some (tv (rTup K (rPair K rBl (rTup K rInt))) x_machine), some (tv rStr x_signs), some (tvObj a.c_Making [("signs", tv rStr v1.1), ("builder", tvObj a.c_Builder [("inputs", tv (rTup K rStr) v1.2.1), ("registers", tv (rTup K (rPair K rStr rBl)) v1.2.2.1), ("gates", tv rAddr l_gates1), ("known", tv rAddr l_known1), ("literals", tv (rDic kStr rInt) v1.2.2.2.2.2)])]), none, none] [(l_gates1, tcL (rPair K rInt rInt) v1.2.2.2.1), (l_known1, tcDT kPair rInt v1.2.2.2.2.1)] _
    refine nxq ?_
    obtain ⟨v2, h_v2, hm⟩ := bindS hm
    refine sv_seq (sv_asgP (P := tv (rPair K rInt (rLst rInt)) v2.1) (c1 := [(l_gates1, tcL (rPair K rInt rInt) v2.2.1), (l_known1, tcDT kPair rInt v2.2.2)]) (vs := [3, 4]) (ev_meth (c2 := [(l_gates1, tcL (rPair K rInt rInt) v1.2.2.2.1), (l_known1, tcDT kPair rInt v1.2.2.2.2.1)]) (c3 := []) (c4 := [(l_gates1, tcL (rPair K rInt rInt) v2.2.1), (l_known1, tcDT kPair rInt v2.2.2)]) (R := R_Making_machine K a) (ev_var (i := 2) rfl) (fn_Making_2_machine _ _) (ea_cons (ev_var (i := 0) rfl) (ea_cons (ev_str (x := [113]) (by decide +kernel) (by decide +kernel)) ea_nil)) (fun G v vs hv hvs => ⟨v1.1, v1.2.1, v1.2.2.1, l_gates1, l_known1, v1.2.2.2.2.2, x_machine, ([113] : List Nat), v1.2.2.2.1, v1.2.2.2.2.1, v2, ⟨hv, hvs⟩, rfl, h_v2, rfl⟩)) (pt_pair (pt_name (by decide)) (pt_name (by decide))) ?_)
    show Im _ [some (tv (rTup K (rPair K rBl (rTup K rInt))) x_machine), some (tv rStr x_signs), some (tvObj a.c_Making [("signs", tv rStr v1.1), ("builder", tvObj a.c_Builder [("inputs", tv (rTup K rStr) v1.2.1), ("registers", tv (rTup K (rPair K rStr rBl)) v1.2.2.1), ("gates", tv rAddr l_gates1), ("known", tv rAddr l_known1), ("literals", tv (rDic kStr rInt) v1.2.2.2.2.2)])]), some (tv rInt v2.1.1), some (tv (rLst rInt) v2.1.2)] [(l_gates1, tcL (rPair K rInt rInt) v2.2.1), (l_known1, tcDT kPair rInt v2.2.2)] _
    refine nxq ?_
    obtain ⟨v3, h_v3, hm⟩ := bindS hm
    replace hm := Option.some.inj hm
    subst hm
    exact sv_ret (P := tv (rQui K (rTup K rStr) (rTup K (rPair K rStr rBl)) (rTup K (rPair K rInt rInt)) (rTup K (rPair K rStr rInt)) (rTup K rInt)) v3.1) (c1 := [(l_gates1, tcL (rPair K rInt rInt) v3.2.1), (l_known1, tcDT kPair rInt v3.2.2)]) (ev_meth (c2 := [(l_gates1, tcL (rPair K rInt rInt) v2.2.1), (l_known1, tcDT kPair rInt v2.2.2)]) (c3 := []) (c4 := [(l_gates1, tcL (rPair K rInt rInt) v3.2.1), (l_known1, tcDT kPair rInt v3.2.2)]) (R := R_Builder_net K a) (ev_fld (ev_var (i := 2) rfl) T.cl_Making T.n_Making_builder (fg_Making_2_builder _ _)) (fn_Builder_5_net _ _ _ _ _) (ea_cons (ev_frz (en_lst (rα := (rPair K rStr rInt)) (xs := [(([112, 97, 115, 115, 101, 115] : List Nat), v2.1.1)]) (ea_cons (ev_pair (ev_str (x := [112, 97, 115, 115, 101, 115]) (by decide +kernel) (by decide +kernel)) (ev_var (i := 3) rfl)) ea_nil) (by show 1 ≤ sizeLine; decide))) (ea_cons (ev_var (i := 4) rfl) ea_nil)) (fun G v vs hv hvs => ⟨v1.2.1, v1.2.2.1, l_gates1, l_known1, v1.2.2.2.2.2, ([(([112, 97, 115, 115, 101, 115] : List Nat), v2.1.1)] : List ((List Nat) × Int)), v2.1.2, v2.2.1, v2.2.2, v3, ⟨hv, hvs⟩, rfl, h_v3, rfl⟩)) (RT.sub (List.Sublist.cons _ (List.Sublist.cons _ List.Sublist.slnil)) (fun v G' H' ap pp => hq _ _ v G' H' ⟨rfl, rfl⟩ ap pp))
def m__law_flat (x_rows : (List (List (List Nat)))) : Option ((List (List Nat))) :=
  (some ([] : List (List Nat))).bind fun x_found_1 => (foldO (fun (s1 : (List (List Nat))) (x1 : (List (List Nat))) => (appO s1 x1).bind fun v1 => some v1) x_found_1 x_rows).bind fun (s2 : (List (List Nat))) => some s2
def R__law_flat (K : PySem.W.Frag) : Hp → List V → Cells → (Cells → TV → Prop) → Prop := fun G vs c W => ∃ (x_rows : (List (List (List Nat)))) (y : (List (List Nat))), VsOk G [tv (rLst (rLst rStr)) x_rows] vs ∧ c = [] ∧ m__law_flat x_rows = some y ∧ W = W1 [] (tv (rLst rStr) y)
abbrev n__law_flat : List Str := ["rows", "found", "row"]
theorem sc__law_flat : FnScope ["rows", "found", "row"] ["rows"] (defScope s__law_flat) := ⟨rfl, rfl, rfl, by decide +kernel, rfl, by decide +kernel, by decide +kernel⟩
theorem ok__law_flat (T : Tx K mg a) : FnOk P w K mg base CX0 1 a.f__law_flat a.d__law_flat ["rows"] (spOf (R__law_flat K)) := by
  refine T.F__law_flat.ok sc__law_flat (fun vs H Q E h => ?_) (fun cdv A outer s H vs Q E hr h => ?_)
  · obtain ⟨G, c, W, hd, ⟨x_rows, y, hv, _⟩, hq⟩ := h
    exact hv.len
  · obtain ⟨G, c, W, hd, ⟨x_rows, y, hv, rfl, hm, rfl⟩, hq⟩ := h
    have hu := hu_of hr
    have hu64 := hr.units
    have hu65 := units65 hr
    refine ⟨_, (pss_cons (ps_set (i := 1) sc__law_flat.nd (by rfl) (by first | exact Or.inl rfl | exact Or.inr rfl) (pe_lst pa_nil))
      (pss_cons (ps_for PassesOwn.never rfl (pi_list (pv 0)) (pg_name (i := 2) sc__law_flat.nd (by rfl) (by first | exact Or.inl rfl | exact Or.inr rfl) (by first | exact Or.inr rfl | exact Or.inl rfl)) (pss_one (ps_set (i := 1) sc__law_flat.nd (by rfl) (by first | exact Or.inl rfl | exact Or.inr rfl) (pe_op op_cat (pv 1) (pe_callTy (T := "list") call_list_of (by rfl) T.b_list (by decide +kernel) (pa_cons (pv 2) pa_nil))))))
      (pss_one (ps_ret (pv 1))))), ?_⟩
    refine (?_ : Sv _ _ ⟨G, [], H⟩ [some (tv (rLst (rLst rStr)) x_rows), none, none] []) _ _ (Post.refl hd (env_start (N := n__law_flat) hv))
    unfold m__law_flat at hm
    obtain ⟨x_found_1, h_x_found_1, hm⟩ := bindS hm
    refine sv_seq (sv_asg (P := tv (rLst rStr) x_found_1) (c1 := []) (Ev.to (ev_frz (en_nil (rα := rStr))) (Option.some.inj h_x_found_1)) ?_)
    show Im _ [some (tv (rLst (rLst rStr)) x_rows), some (tv (rLst rStr) x_found_1), none] [] _
    refine nxq ?_
    obtain ⟨s2, h_s2, hm⟩ := bindS hm
    refine sv_seq (sv_forO (vs := [2]) (r := (rLst rStr)) _ (fun (s1 : (List (List Nat))) => [some (tv (rLst (rLst rStr)) x_rows), some (tv (rLst rStr) s1), none]) (fun (s1 : (List (List Nat))) => []) (fun (s1 : (List (List Nat))) x1 => [some (tv (rLst (rLst rStr)) x_rows), some (tv (rLst rStr) s1), some (tv (rLst rStr) x1)]) (ei_lst (ev_var (i := 0) rfl)) x_found_1 (.same (.same (.lose .nil))) (List.Sublist.refl _) (fun s1 x1 => (pt_name (by decide))) (fun s1 x1 st hb1 D' B' K1 K1' => ?_) s2 h_s2 ?_)
    · show Im _ [some (tv (rLst (rLst rStr)) x_rows), some (tv (rLst rStr) s1), some (tv (rLst rStr) x1)] [] _
      obtain ⟨v1, h_v1, hb1⟩ := bindS hb1
      refine (sv_asg (P := tv (rLst rStr) v1) (c1 := []) (ev_catL (ev_var (i := 1) rfl) (ev_frz (en_listL (ev_var (i := 2) rfl))) h_v1) ?_)
      show Im _ [some (tv (rLst (rLst rStr)) x_rows), some (tv (rLst rStr) v1), some (tv (rLst rStr) x1)] [] _
      replace hb1 := Option.some.inj hb1
      subst hb1
      exact im_le (.same (.same (.lose .nil))) (im_sub (List.Sublist.refl _) K1)
    · show Im _ [some (tv (rLst (rLst rStr)) x_rows), some (tv (rLst rStr) s2), none] [] _
      refine nxq ?_
      replace hm := Option.some.inj hm
      subst hm
      exact sv_ret (P := tv (rLst rStr) s2) (c1 := []) (ev_var (i := 1) rfl) (RT.sub (List.Sublist.refl _) (fun v G' H' ap pp => hq _ _ v G' H' ⟨rfl, rfl⟩ ap pp))
def m__law_next (w_state : LSt) (x_limit : Int) : Option (Int × LSt) :=
  (if ((decide (w_state.2.2.1 = (0 : Int))) && (decide (w_state.2.1 < (w_state.1.length : Int)))) = true then (atI w_state.1 w_state.2.1).bind fun v1 => (powO (10 : Int) (18 : Int)).bind fun v2 => if (decide (v2 ≤ v1)) = true then some (w_state.1, (w_state.2.1 + (1 : Int)), v1, w_state.2.2.2) else (mulO w_state.2.2.2 (48271 : Int)).bind fun v3 => (modO v1 (2147483647 : Int)).bind fun v4 => (modO ((v3 + v4) + (7 : Int)) (2147483647 : Int)).bind fun v5 => some (w_state.1, (w_state.2.1 + (1 : Int)), w_state.2.2.1, v5) else some w_state).bind fun (s1 : LSt) => if (decide ((0 : Int) < s1.2.2.1)) = true then (modO s1.2.2.1 x_limit).bind fun v6 => (fdivO s1.2.2.1 x_limit).bind fun v7 => some (v6, (s1.1, s1.2.1, v7, s1.2.2.2)) else (mulO s1.2.2.2 (69621 : Int)).bind fun v8 => (modO (v8 + (12345 : Int)) (2147483647 : Int)).bind fun v9 => (fdivO v9 (7 : Int)).bind fun v10 => (modO v10 x_limit).bind fun v11 => some (v11, (s1.1, s1.2.1, s1.2.2.1, v9))
def R__law_next (K : PySem.W.Frag) : Hp → List V → Cells → (Cells → TV → Prop) → Prop := fun G vs c W => ∃ (l_state : Addr) (x_limit : Int) (w_state : LSt) (y : Int × LSt), VsOk G [tv rAddr l_state, tv rInt x_limit] vs ∧ c = [(l_state, tcRec (tv (rLst rInt) w_state.1) w_state.2.1 w_state.2.2.1 w_state.2.2.2)] ∧ m__law_next w_state x_limit = some y ∧ W = W1 [(l_state, tcRec (tv (rLst rInt) y.2.1) y.2.2.1 y.2.2.2.1 y.2.2.2.2)] (tv rInt y.1)
abbrev n__law_next : List Str := ["state", "limit", "cell", "value"]
theorem sc__law_next : FnScope ["state", "limit", "cell", "value"] ["state", "limit"] (defScope s__law_next) := ⟨rfl, rfl, rfl, by decide +kernel, rfl, by decide +kernel, by decide +kernel⟩
theorem ok__law_next (T : Tx K mg a) : FnOk P w K mg base CX0 1 a.f__law_next a.d__law_next ["state", "limit"] (spOf (R__law_next K)) := by
  refine T.F__law_next.ok sc__law_next (fun vs H Q E h => ?_) (fun cdv A outer s H vs Q E hr h => ?_)
  · obtain ⟨G, c, W, hd, ⟨l_state, x_limit, w_state, y, hv, _⟩, hq⟩ := h
    exact hv.len
  · obtain ⟨G, c, W, hd, ⟨l_state, x_limit, w_state, y, hv, rfl, hm, rfl⟩, hq⟩ := h
    have hu := hu_of hr
    have hu64 := hr.units
    have hu65 := units65 hr
    refine ⟨_, (pss_cons (ps_if (PW.pt (pw_and (pt_cmpR op_eq (pe_ix ix_list (pv 0) pe_int (fun _ _ => rfl)) pe_int (nomark _)) (pw_and1 (pt_cmpR op_lt (pe_ix ix_list (pv 0) pe_int (fun _ _ => rfl)) (pe_callB (id := "len") k_len (by rfl) T.b_len (by decide +kernel) (pa_cons (pe_ix ix_list (pv 0) pe_int (fun _ _ => rfl)) pa_nil)) (nomark _))))) (pss_cons (ps_set (i := 2) sc__law_next.nd (by rfl) (by first | exact Or.inl rfl | exact Or.inr rfl) (pe_ix ix_list (pe_ix ix_list (pv 0) pe_int (fun _ _ => rfl)) (pe_ix ix_list (pv 0) pe_int (fun _ _ => rfl)) (fun _ _ => rfl)))
      (pss_cons (ps_augS (pv 0) pe_int k_get pe_int ip_add set_list)
      (pss_one (ps_if (pt_cmpR op_ge (pv 2) (pe_op op_pow pe_int pe_int) (nomark _)) (pss_one (ps_asg (pv 2) (pg_sub (pv 0) pe_int set_list))) (pss_one (ps_asg (pe_op op_mod (pe_callTy (T := "int") call_int1 (by rfl) T.b_int (by decide +kernel) (pa_cons (pe_op op_add (pe_op op_add (pe_op op_mul (pe_ix ix_list (pv 0) pe_int (fun _ _ => rfl)) pe_int) (pe_op op_mod (pe_callTy (T := "int") call_int1 (by rfl) T.b_int (by decide +kernel) (pa_cons (pv 2) pa_nil)) pe_int)) pe_int) pa_nil)) pe_int) (pg_sub (pv 0) pe_int set_list))))))) pss_nil)
      (pss_cons (ps_if (pt_cmpR op_gt (pe_ix ix_list (pv 0) pe_int (fun _ _ => rfl)) pe_int (nomark _)) (pss_cons (ps_set (i := 3) sc__law_next.nd (by rfl) (by first | exact Or.inl rfl | exact Or.inr rfl) (pe_op op_mod (pe_callTy (T := "int") call_int1 (by rfl) T.b_int (by decide +kernel) (pa_cons (pe_ix ix_list (pv 0) pe_int (fun _ _ => rfl)) pa_nil)) (pv 1)))
      (pss_cons (ps_asg (pe_op op_fdiv (pe_ix ix_list (pv 0) pe_int (fun _ _ => rfl)) (pv 1)) (pg_sub (pv 0) pe_int set_list))
      (pss_one (ps_ret (pv 3))))) pss_nil)
      (pss_cons (ps_asg (pe_op op_mod (pe_callTy (T := "int") call_int1 (by rfl) T.b_int (by decide +kernel) (pa_cons (pe_op op_add (pe_op op_mul (pe_ix ix_list (pv 0) pe_int (fun _ _ => rfl)) pe_int) pe_int) pa_nil)) pe_int) (pg_sub (pv 0) pe_int set_list))
      (pss_one (ps_ret (pe_op op_mod (pe_callTy (T := "int") call_int1 (by rfl) T.b_int (by decide +kernel) (pa_cons (pe_op op_fdiv (pe_ix ix_list (pv 0) pe_int (fun _ _ => rfl)) pe_int) pa_nil)) (pv 1))))))), ?_⟩
    refine (?_ : Sv _ _ ⟨G, [(l_state, tcRec (tv (rLst rInt) w_state.1) w_state.2.1 w_state.2.2.1 w_state.2.2.2)], H⟩ [some (tv rAddr l_state), some (tv rInt x_limit), none, none] [(l_state, tcRec (tv (rLst rInt) w_state.1) w_state.2.1 w_state.2.2.1 w_state.2.2.2)]) _ _ (Post.refl hd (env_start (N := n__law_next) hv))
    unfold m__law_next at hm
    obtain ⟨s1, h_s1, hm⟩ := bindS hm
    refine sv_seq (sv_join (Γ' := [some (tv rAddr l_state), some (tv rInt x_limit), none, none]) (c' := [(l_state, tcRec (tv (rLst rInt) s1.1) s1.2.1 s1.2.2.1 s1.2.2.2)]) ?_ (fun K_s1 => ?_))
    · show Im _ [some (tv rAddr l_state), some (tv rInt x_limit), none, none] [(l_state, tcRec (tv (rLst rInt) s1.1) s1.2.1 s1.2.2.1 s1.2.2.2)] _
      refine nxq ?_
      refine sv_seq (sv_if (et_test (ev_gt (ev_rec 1 (ev_var (i := 0) rfl) (List.mem_of_getElem? (i := 0) rfl) rfl) (ev_int (i := 0)))) (fun hb => ?_) (fun hb => ?_))
      · rw [if_pos hb] at hm
        obtain ⟨v6, h_v6, hm⟩ := bindS hm
        refine sv_seq (sv_asg (P := tv rInt v6) (c1 := [(l_state, tcRec (tv (rLst rInt) s1.1) s1.2.1 s1.2.2.1 s1.2.2.2)]) (ev_mod (ev_intI (ev_rec 1 (ev_var (i := 0) rfl) (List.mem_of_getElem? (i := 0) rfl) rfl)) (ev_var (i := 1) rfl) h_v6) ?_)
        show Im _ [some (tv rAddr l_state), some (tv rInt x_limit), none, some (tv rInt v6)] [(l_state, tcRec (tv (rLst rInt) s1.1) s1.2.1 s1.2.2.1 s1.2.2.2)] _
        refine nxq ?_
        obtain ⟨v7, h_v7, hm⟩ := bindS hm
        refine sv_seq (sv_rec (n := 0) 1 (ev_fdiv (ev_rec 1 (ev_var (i := 0) rfl) (List.mem_of_getElem? (i := 0) rfl) rfl) (ev_var (i := 1) rfl) h_v7) (ev_var (i := 0) rfl) rfl (by decide) rfl ?_)
        show Im _ [some (tv rAddr l_state), some (tv rInt x_limit), none, some (tv rInt v6)] [(l_state, tcRec (tv (rLst rInt) s1.1) s1.2.1 v7 s1.2.2.2)] _
        refine nxq ?_
        replace hm := Option.some.inj hm
        subst hm
        exact sv_ret (P := tv rInt v6) (c1 := [(l_state, tcRec (tv (rLst rInt) s1.1) s1.2.1 v7 s1.2.2.2)]) (ev_var (i := 3) rfl) (RT.sub (List.Sublist.refl _) (fun v G' H' ap pp => hq _ _ v G' H' ⟨rfl, rfl⟩ ap pp))
      · rw [if_neg (nt hb)] at hm
        refine sv_next ?_
        refine nxq ?_
        obtain ⟨v8, h_v8, hm⟩ := bindS hm
        obtain ⟨v9, h_v9, hm⟩ := bindS hm
        refine sv_seq (sv_rec (n := 0) 2 (ev_mod (ev_intI (ev_add (ev_mul (ev_rec 2 (ev_var (i := 0) rfl) (List.mem_of_getElem? (i := 0) rfl) rfl) (ev_int (i := 69621)) h_v8) (ev_int (i := 12345)))) (ev_int (i := 2147483647)) h_v9) (ev_var (i := 0) rfl) rfl (by decide) rfl ?_)
        show Im _ [some (tv rAddr l_state), some (tv rInt x_limit), none, none] [(l_state, tcRec (tv (rLst rInt) s1.1) s1.2.1 s1.2.2.1 v9)] _
        refine nxq ?_
        obtain ⟨v10, h_v10, hm⟩ := bindS hm
        obtain ⟨v11, h_v11, hm⟩ := bindS hm
        replace hm := Option.some.inj hm
        subst hm
        exact sv_ret (P := tv rInt v11) (c1 := [(l_state, tcRec (tv (rLst rInt) s1.1) s1.2.1 s1.2.2.1 v9)]) (ev_mod (ev_intI (ev_fdiv (ev_rec 2 (ev_var (i := 0) rfl) (List.mem_of_getElem? (i := 0) rfl) rfl) (ev_int (i := 7)) h_v10)) (ev_var (i := 1) rfl) h_v11) (RT.sub (List.Sublist.refl _) (fun v G' H' ap pp => hq _ _ v G' H' ⟨rfl, rfl⟩ ap pp))
    · refine sv_if (et_and (et_test (ev_eqI (ev_rec 1 (ev_var (i := 0) rfl) (List.mem_of_getElem? (i := 0) rfl) rfl) (ev_int (i := 0)))) (et_test (ev_lt (ev_rec 0 (ev_var (i := 0) rfl) (List.mem_of_getElem? (i := 0) rfl) rfl) (ev_lenL (ev_rec0 (ev_var (i := 0) rfl) (List.mem_of_getElem? (i := 0) rfl)))))) (fun hb => ?_) (fun hb => ?_)
      · rw [if_pos hb] at h_s1
        obtain ⟨v1, h_v1, h_s1⟩ := bindS h_s1
        refine sv_seq (sv_asg (P := tv rInt v1) (c1 := [(l_state, tcRec (tv (rLst rInt) w_state.1) w_state.2.1 w_state.2.2.1 w_state.2.2.2)]) (ev_ixL (ev_rec0 (ev_var (i := 0) rfl) (List.mem_of_getElem? (i := 0) rfl)) (ev_rec 0 (ev_var (i := 0) rfl) (List.mem_of_getElem? (i := 0) rfl) rfl) h_v1) ?_)
        show Im _ [some (tv rAddr l_state), some (tv rInt x_limit), some (tv rInt v1), none] [(l_state, tcRec (tv (rLst rInt) w_state.1) w_state.2.1 w_state.2.2.1 w_state.2.2.2)] _
        refine nxq ?_
        refine sv_seq (sv_recA (K := K) (n := 0) 0 (ev_var (i := 0) rfl) rfl rfl (ev_int (i := 1)) (by decide) rfl ?_)
        show Im _ [some (tv rAddr l_state), some (tv rInt x_limit), some (tv rInt v1), none] [(l_state, tcRec (tv (rLst rInt) w_state.1) (w_state.2.1 + (1 : Int)) w_state.2.2.1 w_state.2.2.2)] _
        refine nxq ?_
        obtain ⟨v2, h_v2, h_s1⟩ := bindS h_s1
        refine (sv_if (et_test (ev_ge (ev_var (i := 2) rfl) (ev_pow (ev_int (i := 10)) (ev_int (i := 18)) h_v2))) (fun hb => ?_) (fun hb => ?_))
        · rw [if_pos hb] at h_s1
          refine (sv_rec (n := 0) 1 (ev_var (i := 2) rfl) (ev_var (i := 0) rfl) rfl (by decide) rfl ?_)
          show Im _ [some (tv rAddr l_state), some (tv rInt x_limit), some (tv rInt v1), none] [(l_state, tcRec (tv (rLst rInt) w_state.1) (w_state.2.1 + (1 : Int)) v1 w_state.2.2.2)] _
          replace h_s1 := Option.some.inj h_s1
          subst h_s1
          exact im_le (.same (.same (.lose (.lose .nil)))) (im_sub (List.Sublist.refl _) K_s1)
        · rw [if_neg (nt hb)] at h_s1
          obtain ⟨v3, h_v3, h_s1⟩ := bindS h_s1
          obtain ⟨v4, h_v4, h_s1⟩ := bindS h_s1
          obtain ⟨v5, h_v5, h_s1⟩ := bindS h_s1
          refine (sv_rec (n := 0) 2 (ev_mod (ev_intI (ev_add (ev_add (ev_mul (ev_rec 2 (ev_var (i := 0) rfl) (List.mem_of_getElem? (i := 0) rfl) rfl) (ev_int (i := 48271)) h_v3) (ev_mod (ev_intI (ev_var (i := 2) rfl)) (ev_int (i := 2147483647)) h_v4)) (ev_int (i := 7)))) (ev_int (i := 2147483647)) h_v5) (ev_var (i := 0) rfl) rfl (by decide) rfl ?_)
          show Im _ [some (tv rAddr l_state), some (tv rInt x_limit), some (tv rInt v1), none] [(l_state, tcRec (tv (rLst rInt) w_state.1) (w_state.2.1 + (1 : Int)) w_state.2.2.1 v5)] _
          replace h_s1 := Option.some.inj h_s1
          subst h_s1
          exact im_le (.same (.same (.lose (.lose .nil)))) (im_sub (List.Sublist.refl _) K_s1)
      · rw [if_neg (nt hb)] at h_s1
        refine sv_next ?_
        replace h_s1 := Option.some.inj h_s1
        subst h_s1
        exact im_le (.same (.same (.lose (.lose .nil)))) (im_sub (List.Sublist.refl _) K_s1)
def m__law_same_I (x_actual : Int) (x_expected : Int) : Option (Bool) :=
  some (true && ((!false) && (decide (x_actual = x_expected))))
def R__law_same_I (K : PySem.W.Frag) : Hp → List V → Cells → (Cells → TV → Prop) → Prop := fun G vs c W => ∃ (x_actual : Int) (x_expected : Int) (y : Bool), VsOk G [tv rInt x_actual, tv rInt x_expected] vs ∧ c = [] ∧ m__law_same_I x_actual x_expected = some y ∧ W = W1 [] (tv rBl y)
abbrev n__law_same_I : List Str := ["actual", "expected", "k"]
theorem sc__law_same_I : FnScope ["actual", "expected", "k"] ["actual", "expected"] (defScope s__law_same) := ⟨rfl, rfl, rfl, by decide +kernel, rfl, by decide +kernel, by decide +kernel⟩
theorem ok__law_same_I (T : Tx K mg a) : FnOk P w K mg base CX0 1 a.f__law_same a.d__law_same ["actual", "expected"] (spOf (R__law_same_I K)) := by
  refine T.F__law_same.ok sc__law_same_I (fun vs H Q E h => ?_) (fun cdv A outer s H vs Q E hr h => ?_)
  · obtain ⟨G, c, W, hd, ⟨x_actual, x_expected, y, hv, _⟩, hq⟩ := h
    exact hv.len
  · obtain ⟨G, c, W, hd, ⟨x_actual, x_expected, y, hv, rfl, hm, rfl⟩, hq⟩ := h
    have hu := hu_of hr
    have hu64 := hr.units
    have hu65 := units65 hr
    refine ⟨_, (pss_cons (ps_if (pt_cmpR k_isN (pv 1) pe_non (nomark _)) pss_never pss_nil)
      (pss_cons (ps_if (pt_val (pe_callB (id := "isinstance") call_isi (by rfl) T.b_isinstance (by decide +kernel) (pa_cons (pv 1) (pa_cons (pe_bltn (v := .ty "bool") (by rfl) T.b_bool (by decide +kernel) rfl) pa_nil)))) pss_never pss_nil)
      (pss_cons (ps_if (pt_val (pe_callB (id := "isinstance") call_isi (by rfl) T.b_isinstance (by decide +kernel) (pa_cons (pv 1) (pa_cons (pe_bltn (v := .ty "int") (by rfl) T.b_int (by decide +kernel) rfl) pa_nil)))) (pss_one (ps_ret (pe_and (pe_callB (id := "isinstance") call_isi (by rfl) T.b_isinstance (by decide +kernel) (pa_cons (pv 0) (pa_cons (pe_bltn (v := .ty "int") (by rfl) T.b_int (by decide +kernel) rfl) pa_nil))) (pe_and (pe_not (pe_callB (id := "isinstance") call_isi (by rfl) T.b_isinstance (by decide +kernel) (pa_cons (pv 0) (pa_cons (pe_bltn (v := .ty "bool") (by rfl) T.b_bool (by decide +kernel) rfl) pa_nil)))) (pe_one (pe_cmpR op_eq (pv 0) (pv 1) (nomark _))))))) pss_never) pss_never))), ?_⟩
    refine (?_ : Sv _ _ ⟨G, [], H⟩ [some (tv rInt x_actual), some (tv rInt x_expected), none] []) _ _ (Post.refl hd (env_start (N := n__law_same_I) hv))
    unfold m__law_same_I at hm
    refine sv_seq (sv_if (et_test (ev_isN nn_int (ev_some (ev_var (i := 1) rfl)))) (fun hb => ?_) (fun hb => ?_))
    · cases hb
    · refine sv_next ?_
      refine nxq ?_
      refine sv_seq (sv_if (et_B (ev_isi (r := false) ty_int (by decide +kernel) (ev_var (i := 1) rfl))) (fun hb => ?_) (fun hb => ?_))
      · cases hb
      · refine sv_next ?_
        refine nxq ?_
        refine sv_seq (sv_if (et_B (ev_isi (r := true) ty_int (by decide +kernel) (ev_var (i := 1) rfl))) (fun hb => ?_) (fun hb => ?_))
        · replace hm := Option.some.inj hm
          subst hm
          exact sv_ret (P := tv rBl (true && ((!false) && (decide (x_actual = x_expected))))) (c1 := []) (ev_andV (ev_isi (r := true) ty_int (by decide +kernel) (ev_var (i := 0) rfl)) (ev_andV (ev_notV (ev_isi (r := false) ty_int (by decide +kernel) (ev_var (i := 0) rfl))) (ev_eqI (ev_var (i := 0) rfl) (ev_var (i := 1) rfl)))) (RT.sub (List.Sublist.refl _) (fun v G' H' ap pp => hq _ _ v G' H' ⟨rfl, rfl⟩ ap pp))
        · cases hb
def m__law_same_S (x_actual : (List Nat)) (x_expected : (List Nat)) : Option (Bool) :=
  some (true && (decide (x_actual = x_expected)))
def R__law_same_S (K : PySem.W.Frag) : Hp → List V → Cells → (Cells → TV → Prop) → Prop := fun G vs c W => ∃ (x_actual : (List Nat)) (x_expected : (List Nat)) (y : Bool), VsOk G [tv rStr x_actual, tv rStr x_expected] vs ∧ c = [] ∧ m__law_same_S x_actual x_expected = some y ∧ W = W1 [] (tv rBl y)
abbrev n__law_same_S : List Str := ["actual", "expected", "k"]
theorem sc__law_same_S : FnScope ["actual", "expected", "k"] ["actual", "expected"] (defScope s__law_same) := ⟨rfl, rfl, rfl, by decide +kernel, rfl, by decide +kernel, by decide +kernel⟩
theorem ok__law_same_S (T : Tx K mg a) : FnOk P w K mg base CX0 1 a.f__law_same a.d__law_same ["actual", "expected"] (spOf (R__law_same_S K)) := by
  refine T.F__law_same.ok sc__law_same_S (fun vs H Q E h => ?_) (fun cdv A outer s H vs Q E hr h => ?_)
  · obtain ⟨G, c, W, hd, ⟨x_actual, x_expected, y, hv, _⟩, hq⟩ := h
    exact hv.len
  · obtain ⟨G, c, W, hd, ⟨x_actual, x_expected, y, hv, rfl, hm, rfl⟩, hq⟩ := h
    have hu := hu_of hr
    have hu64 := hr.units
    have hu65 := units65 hr
    refine ⟨_, (pss_cons (ps_if (pt_cmpR k_isN (pv 1) pe_non (nomark _)) pss_never pss_nil)
      (pss_cons (ps_if (pt_val (pe_callB (id := "isinstance") call_isi (by rfl) T.b_isinstance (by decide +kernel) (pa_cons (pv 1) (pa_cons (pe_bltn (v := .ty "bool") (by rfl) T.b_bool (by decide +kernel) rfl) pa_nil)))) pss_never pss_nil)
      (pss_cons (ps_if (pt_val (pe_callB (id := "isinstance") call_isi (by rfl) T.b_isinstance (by decide +kernel) (pa_cons (pv 1) (pa_cons (pe_bltn (v := .ty "int") (by rfl) T.b_int (by decide +kernel) rfl) pa_nil)))) pss_never pss_nil)
      (pss_cons (ps_if (pt_val (pe_callB (id := "isinstance") call_isi (by rfl) T.b_isinstance (by decide +kernel) (pa_cons (pv 1) (pa_cons (pe_bltn (v := .ty "str") (by rfl) T.b_str (by decide +kernel) rfl) pa_nil)))) (pss_one (ps_ret (pe_and (pe_callB (id := "isinstance") call_isi (by rfl) T.b_isinstance (by decide +kernel) (pa_cons (pv 0) (pa_cons (pe_bltn (v := .ty "str") (by rfl) T.b_str (by decide +kernel) rfl) pa_nil))) (pe_one (pe_cmpR op_eq (pv 0) (pv 1) (nomark _)))))) pss_never) pss_never)))), ?_⟩
    refine (?_ : Sv _ _ ⟨G, [], H⟩ [some (tv rStr x_actual), some (tv rStr x_expected), none] []) _ _ (Post.refl hd (env_start (N := n__law_same_S) hv))
    unfold m__law_same_S at hm
    refine sv_seq (sv_if (et_test (ev_isN nn_str (ev_some (ev_var (i := 1) rfl)))) (fun hb => ?_) (fun hb => ?_))
    · cases hb
    · refine sv_next ?_
      refine nxq ?_
      refine sv_seq (sv_if (et_B (ev_isi (r := false) ty_str (by decide +kernel) (ev_var (i := 1) rfl))) (fun hb => ?_) (fun hb => ?_))
      · cases hb
      · refine sv_next ?_
        refine nxq ?_
        refine sv_seq (sv_if (et_B (ev_isi (r := false) ty_str (by decide +kernel) (ev_var (i := 1) rfl))) (fun hb => ?_) (fun hb => ?_))
        · cases hb
        · refine sv_next ?_
          refine nxq ?_
          refine sv_seq (sv_if (et_B (ev_isi (r := true) ty_str (by decide +kernel) (ev_var (i := 1) rfl))) (fun hb => ?_) (fun hb => ?_))
          · replace hm := Option.some.inj hm
            subst hm
            exact sv_ret (P := tv rBl (true && (decide (x_actual = x_expected)))) (c1 := []) (ev_andV (ev_isi (r := true) ty_str (by decide +kernel) (ev_var (i := 0) rfl)) (ev_eqS (ev_var (i := 0) rfl) (ev_var (i := 1) rfl))) (RT.sub (List.Sublist.refl _) (fun v G' H' ap pp => hq _ _ v G' H' ⟨rfl, rfl⟩ ap pp))
          · cases hb
def m__law_least (x_machine : (List (Bool × (List Int)))) : Option ((List (Bool × (List Int)))) :=
  (mapO (fun x1 : (Bool × (List Int)) => some (b2i' x1.1)) x_machine).bind fun v1 => (rng1O (x_machine.length : Int)).bind fun v2 => (foldO (fun (s1 : (List Int)) (x2 : Int) => (rng1O (x_machine.length : Int)).bind fun v3 => (mapO (fun x3 : Int => (atI s1 x3).bind fun v4 => (atI x_machine x3).bind fun v5 => (mapO (fun x4 : Int => (atI s1 x4).bind fun v6 => some v6) v5.2).bind fun v7 => some (v4, v7)) v3).bind fun v8 => (sortSetO v8).bind fun v9 => (mapO (fun x5 : (Int × (List Int)) => (idxO v9 x5).bind fun v10 => some v10) v8).bind fun v11 => some v11) v1 v2).bind fun (s2 : (List Int)) => (some (0 : Int)).bind fun x_place_1 => (whileO (fun (s3 : Int × (List Int)) => some (decide (s3.1 < (s3.2.length : Int)))) (fun (s3 : Int × (List Int)) => (atI s3.2 s3.1).bind fun v12 => (atI x_machine v12).bind fun v13 => (foldO (fun (s4 : (List Int)) (x7 : Int) => (atI s2 x7).bind fun v14 => (mapO (fun x8 : Int => (atI s2 x8).bind fun v15 => some v15) s4).bind fun v16 => if (!(decide (v14 ∈ v16))) = true then (pushO s4 x7).bind fun v17 => some v17 else some s4) s3.2 v13.2).bind fun (s5 : (List Int)) => (some (s3.1 + (1 : Int))).bind fun x_place_2 => some (x_place_2, s5)) 4096 (x_place_1, ([(0 : Int)] : List Int))).bind fun (s6 : Int × (List Int)) => (mapO (fun x9 : Int => (atI s2 x9).bind fun v18 => some v18) s6.2).bind fun v19 => (mapO (fun x10 : Int => (atI x_machine x10).bind fun v20 => (atI x_machine x10).bind fun v21 => (mapO (fun x11 : Int => (atI s2 x11).bind fun v22 => (idxO v19 v22).bind fun v23 => some v23) v21.2).bind fun v24 => some (v20.1, v24)) s6.2).bind fun v25 => some v25
def R__law_least (K : PySem.W.Frag) : Hp → List V → Cells → (Cells → TV → Prop) → Prop := fun G vs c W => ∃ (x_machine : (List (Bool × (List Int)))) (y : (List (Bool × (List Int)))), VsOk G [tv (rTup K (rPair K rBl (rTup K rInt))) x_machine] vs ∧ c = [] ∧ m__law_least x_machine = some y ∧ W = W1 [] (tv (rTup K (rPair K rBl (rTup K rInt))) y)
abbrev n__law_least : List Str := ["machine", "marks", "k", "met", "place", "numbers", "keys", "order", "other", "passing", "nexts", "line", "j", "key"]
theorem sc__law_least : FnScope ["machine", "marks", "k", "met", "place", "numbers", "keys", "order", "other", "passing", "nexts", "line", "j", "key"] ["machine"] (defScope s__law_least) := ⟨rfl, rfl, rfl, by decide +kernel, rfl, by decide +kernel, by decide +kernel⟩
theorem ok__law_least (T : Tx K mg a) : FnOk P w K mg base CX0 1 a.f__law_least a.d__law_least ["machine"] (spOf (R__law_least K)) := by
  refine T.F__law_least.ok sc__law_least (fun vs H Q E h => ?_) (fun cdv A outer s H vs Q E hr h => ?_)
  · obtain ⟨G, c, W, hd, ⟨x_machine, y, hv, _⟩, hq⟩ := h
    exact hv.len
  · obtain ⟨G, c, W, hd, ⟨x_machine, y, hv, rfl, hm, rfl⟩, hq⟩ := h
    have hu := hu_of hr
    have hu64 := hr.units
    have hu65 := units65 hr
    refine ⟨_, (pss_cons (ps_set (i := 1) sc__law_least.nd (by rfl) (by first | exact Or.inl rfl | exact Or.inr rfl) (pe_lc (own := [("passing", 9), ("nexts", 10)]) (wi := (iTup K (tVar 0))) (g := (gTup K 2 (gCons (gName 9) (gCons (gName 10) gNil)))) (tt := tYes) (te := (tCB rIntC (tCons (tVar 9) tNil))) rfl sc__law_least.nd (pi_tup (pv 0)) (blkOk_by (by kernel_rfl)) (fun _ _ _ _ _ => (pg_tup rfl (pgs_cons (pg_name (i := 9) sc__law_least.nd (by rfl) (by first | exact Or.inl rfl | exact Or.inr rfl) (by first | exact Or.inr rfl | exact Or.inl rfl)) (pgs_cons (pg_name (i := 10) sc__law_least.nd (by rfl) (by first | exact Or.inl rfl | exact Or.inr rfl) (by first | exact Or.inr rfl | exact Or.inl rfl)) pgs_nil)))) (fun _ _ _ _ _ => pts_nil) (fun _ _ _ _ _ => (pe_callTy (T := "int") call_int1 (by rfl) T.b_int (by decide +kernel) (pa_cons (pv 9) pa_nil)))))
      (pss_cons (ps_for PassesOwn.never rfl (pi_range1 (by rfl) T.b_range (pa_cons (pe_callB (id := "len") k_len (by rfl) T.b_len (by decide +kernel) (pa_cons (pv 0) pa_nil)) pa_nil)) (pg_name (i := 2) sc__law_least.nd (by rfl) (by first | exact Or.inl rfl | exact Or.inr rfl) (by first | exact Or.inr rfl | exact Or.inl rfl)) (pss_cons (ps_setLc (i := 6) (own := [("j", 12)]) (wi := (iRng1 (tCons (tCB (TW.rLen K) (tCons (tVar 0) tNil)) tNil))) (g := (gName 12)) (tt := tYes) (te := (tTup (tCons (tOp (rIxL K) (tVar 1) (tVar 12)) (tCons (tCB (rTupleC K) (tCons (tLc (iTup K (tOp (rIxT K) (tOp (rIxT K) (tVar 0) (tVar 12)) (tC (.int 1)))) (gName 8) tYes (tOp (rIxL K) (tVar 1) (tVar 8)) [8]) tNil)) tNil)))) rfl sc__law_least.nd (by rfl) (by rfl) (sw_true rfl (by rfl) (by rfl) (by decide +kernel)) (pi_range1 (by rfl) T.b_range (pa_cons (pe_callB (id := "len") k_len (by rfl) T.b_len (by decide +kernel) (pa_cons (pv 0) pa_nil)) pa_nil)) (blkOk_by (by kernel_rfl)) (fun _ _ _ _ _ => (pg_name (i := 12) sc__law_least.nd (by rfl) (by first | exact Or.inl rfl | exact Or.inr rfl) (by first | exact Or.inr rfl | exact Or.inl rfl))) (fun _ _ _ _ _ => pts_nil) (fun _ _ _ _ _ => (pe_tup (pa_cons (pe_ix ix_list (pv 1) (pv 12) (fun _ _ => rfl)) (pa_cons (pe_callTy (T := "tuple") call_tuple_of (by rfl) T.b_tuple (by decide +kernel) (pa_cons (pe_lc (own := [("other", 8)]) (wi := (iTup K (tOp (rIxT K) (tOp (rIxT K) (tVar 0) (tVar 12)) (tC (.int 1))))) (g := (gName 8)) (tt := tYes) (te := (tOp (rIxL K) (tVar 1) (tVar 8))) rfl sc__law_least.nd (pi_tup (pe_ix ix_tup (pe_ix ix_tup (pv 0) (pv 12) (fun _ _ => rfl)) pe_int (fun _ _ => rfl))) (blkOk_by (by kernel_rfl)) (fun _ _ _ _ _ => (pg_name (i := 8) sc__law_least.nd (by rfl) (by first | exact Or.inl rfl | exact Or.inr rfl) (by first | exact Or.inr rfl | exact Or.inl rfl))) (fun _ _ _ _ _ => pts_nil) (fun _ _ _ _ _ => (pe_ix ix_list (pv 1) (pv 8) (fun _ _ => rfl)))) pa_nil)) pa_nil)))))
      (pss_cons (ps_set (i := 7) sc__law_least.nd (by rfl) (by first | exact Or.inl rfl | exact Or.inr rfl) (pe_callB (id := "sorted") (SetN.cr_sortedN rfl hu64) (by rfl) T.b_sorted (by decide +kernel) (pa_cons (pe_callTy (T := "set") (SetN.cr_setN rfl hu64) (by rfl) T.b_set (by decide +kernel) (pa_cons (pv 6) pa_nil)) pa_nil)))
      (pss_one (ps_set (i := 1) sc__law_least.nd (by rfl) (by first | exact Or.inl rfl | exact Or.inr rfl) (pe_lc (own := [("key", 13)]) (wi := (iList K (tVar 6))) (g := (gName 13)) (tt := tYes) (te := (tBM K "list" (rIndexD K) (tVar 7) (tCons (tVar 13) tNil))) rfl sc__law_least.nd (pi_list (pv 6)) (blkOk_by (by kernel_rfl)) (fun _ _ _ _ _ => (pg_name (i := 13) sc__law_least.nd (by rfl) (by first | exact Or.inl rfl | exact Or.inr rfl) (by first | exact Or.inr rfl | exact Or.inl rfl))) (fun _ _ _ _ _ => pts_nil) (fun _ _ _ _ _ => (pe_bm PySem.F.plainAttrs_list PySem.F.slot_list_index PySem.F.type_list_index (mt_indexD hu65) (pv 7) (pa_cons (pv 13) pa_nil)))))))))
      (pss_cons (ps_set (i := 3) sc__law_least.nd (by rfl) (by first | exact Or.inl rfl | exact Or.inr rfl) (pe_lst (pa_cons pe_int pa_nil)))
      (pss_cons (ps_set (i := 4) sc__law_least.nd (by rfl) (by first | exact Or.inl rfl | exact Or.inr rfl) pe_int)
      (pss_cons (ps_while PassesOwn.never (pt_cmpR op_lt (pv 4) (pe_callB (id := "len") k_len (by rfl) T.b_len (by decide +kernel) (pa_cons (pv 3) pa_nil)) (nomark _)) (pss_cons (ps_for PassesOwn.never rfl (pi_tup (pe_ix ix_tup (pe_ix ix_tup (pv 0) (pe_ix ix_list (pv 3) (pv 4) (fun _ _ => rfl)) (fun _ _ => rfl)) pe_int (fun _ _ => rfl))) (pg_name (i := 8) sc__law_least.nd (by rfl) (by first | exact Or.inl rfl | exact Or.inr rfl) (by first | exact Or.inr rfl | exact Or.inl rfl)) (pss_one (ps_if (pt_cmpR op_notIn_seq (pe_ix ix_list (pv 1) (pv 8) (fun _ _ => rfl)) (pe_lc (own := [("line", 11)]) (wi := (iList K (tVar 3))) (g := (gName 11)) (tt := tYes) (te := (tOp (rIxL K) (tVar 1) (tVar 11))) rfl sc__law_least.nd (pi_list (pv 3)) (blkOk_by (by kernel_rfl)) (fun _ _ _ _ _ => (pg_name (i := 11) sc__law_least.nd (by rfl) (by first | exact Or.inl rfl | exact Or.inr rfl) (by first | exact Or.inr rfl | exact Or.inl rfl))) (fun _ _ _ _ _ => pts_nil) (fun _ _ _ _ _ => (pe_ix ix_list (pv 1) (pv 11) (fun _ _ => rfl)))) (by with_unfolding_all rfl)) (pss_one (ps_expr (pe_bm PySem.F.plainAttrs_list PySem.F.slot_list_append PySem.F.type_list_append mt_append (pv 3) (pa_cons (pv 8) pa_nil)))) pss_nil)))
      (pss_one (ps_aug (i := 4) sc__law_least.nd (by rfl) (by first | exact Or.inl rfl | exact Or.inr rfl) pe_int ip_add))))
      (pss_cons (ps_set (i := 5) sc__law_least.nd (by rfl) (by first | exact Or.inl rfl | exact Or.inr rfl) (pe_lc (own := [("line", 11)]) (wi := (iList K (tVar 3))) (g := (gName 11)) (tt := tYes) (te := (tOp (rIxL K) (tVar 1) (tVar 11))) rfl sc__law_least.nd (pi_list (pv 3)) (blkOk_by (by kernel_rfl)) (fun _ _ _ _ _ => (pg_name (i := 11) sc__law_least.nd (by rfl) (by first | exact Or.inl rfl | exact Or.inr rfl) (by first | exact Or.inr rfl | exact Or.inl rfl))) (fun _ _ _ _ _ => pts_nil) (fun _ _ _ _ _ => (pe_ix ix_list (pv 1) (pv 11) (fun _ _ => rfl)))))
      (pss_one (ps_ret (pe_callTy (T := "tuple") call_tuple_of (by rfl) T.b_tuple (by decide +kernel) (pa_cons (pe_lc (own := [("line", 11)]) (wi := (iList K (tVar 3))) (g := (gName 11)) (tt := tYes) (te := (tTup (tCons (tOp (rIxT K) (tOp (rIxT K) (tVar 0) (tVar 11)) (tC (.int 0))) (tCons (tCB (rTupleC K) (tCons (tLc (iTup K (tOp (rIxT K) (tOp (rIxT K) (tVar 0) (tVar 11)) (tC (.int 1)))) (gName 8) tYes (tBM K "list" (rIndexD K) (tVar 5) (tCons (tOp (rIxL K) (tVar 1) (tVar 8)) tNil)) [8]) tNil)) tNil)))) rfl sc__law_least.nd (pi_list (pv 3)) (blkOk_by (by kernel_rfl)) (fun _ _ _ _ _ => (pg_name (i := 11) sc__law_least.nd (by rfl) (by first | exact Or.inl rfl | exact Or.inr rfl) (by first | exact Or.inr rfl | exact Or.inl rfl))) (fun _ _ _ _ _ => pts_nil) (fun _ _ _ _ _ => (pe_tup (pa_cons (pe_ix ix_tup (pe_ix ix_tup (pv 0) (pv 11) (fun _ _ => rfl)) pe_int (fun _ _ => rfl)) (pa_cons (pe_callTy (T := "tuple") call_tuple_of (by rfl) T.b_tuple (by decide +kernel) (pa_cons (pe_lc (own := [("other", 8)]) (wi := (iTup K (tOp (rIxT K) (tOp (rIxT K) (tVar 0) (tVar 11)) (tC (.int 1))))) (g := (gName 8)) (tt := tYes) (te := (tBM K "list" (rIndexD K) (tVar 5) (tCons (tOp (rIxL K) (tVar 1) (tVar 8)) tNil))) rfl sc__law_least.nd (pi_tup (pe_ix ix_tup (pe_ix ix_tup (pv 0) (pv 11) (fun _ _ => rfl)) pe_int (fun _ _ => rfl))) (blkOk_by (by kernel_rfl)) (fun _ _ _ _ _ => (pg_name (i := 8) sc__law_least.nd (by rfl) (by first | exact Or.inl rfl | exact Or.inr rfl) (by first | exact Or.inr rfl | exact Or.inl rfl))) (fun _ _ _ _ _ => pts_nil) (fun _ _ _ _ _ => (pe_bm PySem.F.plainAttrs_list PySem.F.slot_list_index PySem.F.type_list_index (mt_indexD hu65) (pv 5) (pa_cons (pe_ix ix_list (pv 1) (pv 8) (fun _ _ => rfl)) pa_nil)))) pa_nil)) pa_nil))))) pa_nil)))))))))), ?_⟩
    refine (?_ : Sv _ _ ⟨G, [], H⟩ [some (tv (rTup K (rPair K rBl (rTup K rInt))) x_machine), none, none, none, none, none, none, none, none, none, none, none, none, none] []) _ _ (Post.refl hd (env_start (N := n__law_least) hv))
    unfold m__law_least at hm
    obtain ⟨v1, h_v1, hm⟩ := bindS hm
    refine sv_seq (sv_asg (P := tv (rLst rInt) v1) (c1 := []) (ev_frz (en_lc (rβ := rInt) _ (fun x1 => [some (tv (rTup K (rPair K rBl (rTup K rInt))) x_machine), none, none, none, none, none, none, none, none, some (tv rBl x1.1), some (tv (rTup K rInt) x1.2), none, none, none]) (ei_tup (ev_var (i := 0) rfl)) (fun x1 => (pt_pair (pt_name (by decide)) (pt_name (by decide)))) (fun x1 z1 hh_z1 => by replace hh_z1 := Option.some.inj hh_z1; subst hh_z1; exact (ev_intB (ev_var (i := 9) rfl))) _ h_v1)) ?_)
    show Im _ [some (tv (rTup K (rPair K rBl (rTup K rInt))) x_machine), some (tv (rLst rInt) v1), none, none, none, none, none, none, none, none, none, none, none, none] [] _
    refine nxq ?_
    obtain ⟨v2, h_v2, hm⟩ := bindS hm
    obtain ⟨s2, h_s2, hm⟩ := bindS hm
    refine sv_seq (sv_forO (vs := [2]) (r := rInt) _ (fun (s1 : (List Int)) => [some (tv (rTup K (rPair K rBl (rTup K rInt))) x_machine), some (tv (rLst rInt) s1), none, none, none, none, none, none, none, none, none, none, none, none]) (fun (s1 : (List Int)) => []) (fun (s1 : (List Int)) x2 => [some (tv (rTup K (rPair K rBl (rTup K rInt))) x_machine), some (tv (rLst rInt) s1), some (tv rInt x2), none, none, none, none, none, none, none, none, none, none, none]) (ei_rng1 (ev_lenT (ev_var (i := 0) rfl)) h_v2) v1 (.same (.same (.lose (.lose (.lose (.lose (.lose (.lose (.lose (.lose (.lose (.lose (.lose (.lose .nil)))))))))))))) (List.Sublist.refl _) (fun s1 x2 => (pt_name (by decide))) (fun s1 x2 st hb1 D' B' K1 K1' => ?_) s2 h_s2 ?_)
    · show Im _ [some (tv (rTup K (rPair K rBl (rTup K rInt))) x_machine), some (tv (rLst rInt) s1), some (tv rInt x2), none, none, none, none, none, none, none, none, none, none, none] [] _
      obtain ⟨v3, h_v3, hb1⟩ := bindS hb1
      obtain ⟨v8, h_v8, hb1⟩ := bindS hb1
      refine sv_seq (sv_asg (P := tv (rLst (rPair K rInt (rTup K rInt))) v8) (c1 := []) (ev_frz (en_lc (rβ := (rPair K rInt (rTup K rInt))) _ (fun x3 => [some (tv (rTup K (rPair K rBl (rTup K rInt))) x_machine), some (tv (rLst rInt) s1), some (tv rInt x2), none, none, none, none, none, none, none, none, none, some (tv rInt x3), none]) (ei_rng1 (ev_lenT (ev_var (i := 0) rfl)) h_v3) (fun x3 => (pt_name (by decide))) (fun x3 z3 hh_z3 => by obtain ⟨v4, h_v4, hh_z3⟩ := bindS hh_z3; obtain ⟨v5, h_v5, hh_z3⟩ := bindS hh_z3; obtain ⟨v7, h_v7, hh_z3⟩ := bindS hh_z3; replace hh_z3 := Option.some.inj hh_z3; subst hh_z3; exact (ev_pair (ev_ixL (ev_var (i := 1) rfl) (ev_var (i := 12) rfl) h_v4) (ev_tupL (ev_frz (en_lc (rβ := rInt) _ (fun x4 => [some (tv (rTup K (rPair K rBl (rTup K rInt))) x_machine), some (tv (rLst rInt) s1), some (tv rInt x2), none, none, none, none, none, some (tv rInt x4), none, none, none, some (tv rInt x3), none]) (ei_tup (ev_snd (ev_ixT (ev_var (i := 0) rfl) (ev_var (i := 12) rfl) h_v5) (ev_int (i := 1)))) (fun x4 => (pt_name (by decide))) (fun x4 z2 hh_z2 => by obtain ⟨v6, h_v6, hh_z2⟩ := bindS hh_z2; replace hh_z2 := Option.some.inj hh_z2; subst hh_z2; exact (ev_ixL (ev_var (i := 1) rfl) (ev_var (i := 8) rfl) h_v6)) _ h_v7))))) _ h_v8)) ?_)
      show Im _ [some (tv (rTup K (rPair K rBl (rTup K rInt))) x_machine), some (tv (rLst rInt) s1), some (tv rInt x2), none, none, none, some (tv (rLst (rPair K rInt (rTup K rInt))) v8), none, none, none, none, none, none, none] [] _
      refine nxq ?_
      obtain ⟨v9, h_v9, hb1⟩ := bindS hb1
      refine sv_seq (sv_asg (P := tv (rLst (rPair K rInt (rTup K rInt))) v9) (c1 := []) (ev_frz (en_sortedSet (ev_var (i := 6) rfl) h_v9)) ?_)
      show Im _ [some (tv (rTup K (rPair K rBl (rTup K rInt))) x_machine), some (tv (rLst rInt) s1), some (tv rInt x2), none, none, none, some (tv (rLst (rPair K rInt (rTup K rInt))) v8), some (tv (rLst (rPair K rInt (rTup K rInt))) v9), none, none, none, none, none, none] [] _
      refine nxq ?_
      obtain ⟨v11, h_v11, hb1⟩ := bindS hb1
      refine (sv_asg (P := tv (rLst rInt) v11) (c1 := []) (ev_frz (en_lc (rβ := rInt) _ (fun x5 => [some (tv (rTup K (rPair K rBl (rTup K rInt))) x_machine), some (tv (rLst rInt) s1), some (tv rInt x2), none, none, none, some (tv (rLst (rPair K rInt (rTup K rInt))) v8), some (tv (rLst (rPair K rInt (rTup K rInt))) v9), none, none, none, none, none, some (tv (rPair K rInt (rTup K rInt)) x5)]) (ei_lst (ev_var (i := 6) rfl)) (fun x5 => (pt_name (by decide))) (fun x5 z4 hh_z4 => by obtain ⟨v10, h_v10, hh_z4⟩ := bindS hh_z4; replace hh_z4 := Option.some.inj hh_z4; subst hh_z4; exact (ev_idxD (dPair dInt (dTup dInt)) (Nat.le_of_ble_eq_true rfl) (ev_var (i := 7) rfl) (ev_var (i := 13) rfl) h_v10)) _ h_v11)) ?_)
      show Im _ [some (tv (rTup K (rPair K rBl (rTup K rInt))) x_machine), some (tv (rLst rInt) v11), some (tv rInt x2), none, none, none, some (tv (rLst (rPair K rInt (rTup K rInt))) v8), some (tv (rLst (rPair K rInt (rTup K rInt))) v9), none, none, none, none, none, none] [] _
      replace hb1 := Option.some.inj hb1
      subst hb1
      exact im_le (.same (.same (.lose (.lose (.lose (.lose (.lose (.lose (.lose (.lose (.lose (.lose (.lose (.lose .nil)))))))))))))) (im_sub (List.Sublist.refl _) K1)
    · show Im _ [some (tv (rTup K (rPair K rBl (rTup K rInt))) x_machine), some (tv (rLst rInt) s2), none, none, none, none, none, none, none, none, none, none, none, none] [] _
      refine nxq ?_
      refine sv_seq (sv_asgN (c1 := []) (en_lst (rα := rInt) (xs := [(0 : Int)]) (ea_cons (ev_int (i := 0)) ea_nil) (by show 1 ≤ sizeLine; decide)) ?_)
      intro l_met1
      show Im _ [some (tv (rTup K (rPair K rBl (rTup K rInt))) x_machine), some (tv (rLst rInt) s2), none, some (tv rAddr l_met1), none, none, none, none, none, none, none, none, none, none] [(l_met1, tcL rInt ([(0 : Int)] : List Int))] _
      refine nxq ?_
      obtain ⟨x_place_1, h_x_place_1, hm⟩ := bindS hm
      refine sv_seq (sv_asg (P := tv rInt x_place_1) (c1 := [(l_met1, tcL rInt ([(0 : Int)] : List Int))]) (Ev.to (ev_int (i := 0)) (Option.some.inj h_x_place_1)) ?_)
      show Im _ [some (tv (rTup K (rPair K rBl (rTup K rInt))) x_machine), some (tv (rLst rInt) s2), none, some (tv rAddr l_met1), some (tv rInt x_place_1), none, none, none, none, none, none, none, none, none] [(l_met1, tcL rInt ([(0 : Int)] : List Int))] _
      refine nxq ?_
      obtain ⟨s6, h_s6, hm⟩ := bindS hm
      refine sv_seq (sv_whileO _ _ (fun (s3 : Int × (List Int)) => [some (tv (rTup K (rPair K rBl (rTup K rInt))) x_machine), some (tv (rLst rInt) s2), none, some (tv rAddr l_met1), some (tv rInt s3.1), none, none, none, none, none, none, none, none, none]) (fun (s3 : Int × (List Int)) => [(l_met1, tcL rInt s3.2)]) (x_place_1, ([(0 : Int)] : List Int)) (.same (.same (.lose (.same (.same (.lose (.lose (.lose (.lose (.lose (.lose (.lose (.lose (.lose .nil)))))))))))))) (List.Sublist.refl _) (fun s3 z9 hh_z9 => by replace hh_z9 := Option.some.inj hh_z9; subst hh_z9; exact (et_test (ev_lt (ev_var (i := 4) rfl) (ev_lenO (ev_var (i := 3) rfl) (List.mem_of_getElem? (i := 0) rfl))))) (fun s3 st hx_s3 hb2 D' B' K2 K2' => ?_) 4096 s6 h_s6 ?_)
      · show Im _ [some (tv (rTup K (rPair K rBl (rTup K rInt))) x_machine), some (tv (rLst rInt) s2), none, some (tv rAddr l_met1), some (tv rInt s3.1), none, none, none, none, none, none, none, none, none] [(l_met1, tcL rInt s3.2)] _
        obtain ⟨v12, h_v12, hb2⟩ := bindS hb2
        obtain ⟨v13, h_v13, hb2⟩ := bindS hb2
        obtain ⟨s5, h_s5, hb2⟩ := bindS hb2
        refine sv_seq (sv_forO (vs := [8]) (r := rInt) _ (fun (s4 : (List Int)) => [some (tv (rTup K (rPair K rBl (rTup K rInt))) x_machine), some (tv (rLst rInt) s2), none, some (tv rAddr l_met1), some (tv rInt s3.1), none, none, none, none, none, none, none, none, none]) (fun (s4 : (List Int)) => [(l_met1, tcL rInt s4)]) (fun (s4 : (List Int)) x7 => [some (tv (rTup K (rPair K rBl (rTup K rInt))) x_machine), some (tv (rLst rInt) s2), none, some (tv rAddr l_met1), some (tv rInt s3.1), none, none, none, some (tv rInt x7), none, none, none, none, none]) (ei_tup (ev_snd (ev_ixT (ev_var (i := 0) rfl) (ev_ixO (ev_var (i := 3) rfl) (ev_var (i := 4) rfl) (List.mem_of_getElem? (i := 0) rfl) h_v12) h_v13) (ev_int (i := 1)))) s3.2 (.same (.same (.lose (.same (.same (.lose (.lose (.lose (.lose (.lose (.lose (.lose (.lose (.lose .nil)))))))))))))) (List.Sublist.refl _) (fun s4 x7 => (pt_name (by decide))) (fun s4 x7 st hb3 D' B' K3 K3' => ?_) s5 h_s5 ?_)
        · show Im _ [some (tv (rTup K (rPair K rBl (rTup K rInt))) x_machine), some (tv (rLst rInt) s2), none, some (tv rAddr l_met1), some (tv rInt s3.1), none, none, none, some (tv rInt x7), none, none, none, none, none] [(l_met1, tcL rInt s4)] _
          obtain ⟨v14, h_v14, hb3⟩ := bindS hb3
          obtain ⟨v16, h_v16, hb3⟩ := bindS hb3
          refine (sv_if (et_lend (i := 3) (n := 0) (l := l_met1) rfl rfl (et_test (ev_niL fInt (ev_ixL (ev_var (i := 1) rfl) (ev_var (i := 8) rfl) h_v14) (ev_frz (en_lc (rβ := rInt) _ (fun x8 => [some (tv (rTup K (rPair K rBl (rTup K rInt))) x_machine), some (tv (rLst rInt) s2), none, some (tv (rLst rInt) s4), some (tv rInt s3.1), none, none, none, some (tv rInt x7), none, none, some (tv rInt x8), none, none]) (ei_lst (ev_var (i := 3) rfl)) (fun x8 => (pt_name (by decide))) (fun x8 z5 hh_z5 => by obtain ⟨v15, h_v15, hh_z5⟩ := bindS hh_z5; replace hh_z5 := Option.some.inj hh_z5; subst hh_z5; exact (ev_ixL (ev_var (i := 1) rfl) (ev_var (i := 11) rfl) h_v15)) _ h_v16))))) (fun hb => ?_) (fun hb => ?_))
          · rw [if_pos hb] at hb3
            obtain ⟨v17, h_v17, hb3⟩ := bindS hb3
            refine (sv_drop (P := tv rNon ()) (c1 := [(l_met1, tcL rInt v17)]) (ev_app (n := 0) (l := l_met1) (xs1 := s4) (ev_var (i := 3) rfl) (List.mem_of_getElem? (i := 0) rfl) (ev_var (i := 8) rfl) rfl h_v17) ?_)
            show Im _ [some (tv (rTup K (rPair K rBl (rTup K rInt))) x_machine), some (tv (rLst rInt) s2), none, some (tv rAddr l_met1), some (tv rInt s3.1), none, none, none, some (tv rInt x7), none, none, none, none, none] [(l_met1, tcL rInt v17)] _
            replace hb3 := Option.some.inj hb3
            subst hb3
            exact im_le (.same (.same (.lose (.same (.same (.lose (.lose (.lose (.lose (.lose (.lose (.lose (.lose (.lose .nil)))))))))))))) (im_sub (List.Sublist.refl _) K3)
          · rw [if_neg (nt hb)] at hb3
            refine sv_next ?_
            replace hb3 := Option.some.inj hb3
            subst hb3
            exact im_le (.same (.same (.lose (.same (.same (.lose (.lose (.lose (.lose (.lose (.lose (.lose (.lose (.lose .nil)))))))))))))) (im_sub (List.Sublist.refl _) K3)
        · show Im _ [some (tv (rTup K (rPair K rBl (rTup K rInt))) x_machine), some (tv (rLst rInt) s2), none, some (tv rAddr l_met1), some (tv rInt s3.1), none, none, none, none, none, none, none, none, none] [(l_met1, tcL rInt s5)] _
          refine nxq ?_
          obtain ⟨x_place_2, h_x_place_2, hb2⟩ := bindS hb2
          refine (sv_augI2 (f := fun i j => i + j) (x := s3.1) (y := (1 : Int)) rfl (ev_int (i := 1)) (Option.some.inj h_x_place_2) ?_)
          show Im _ [some (tv (rTup K (rPair K rBl (rTup K rInt))) x_machine), some (tv (rLst rInt) s2), none, some (tv rAddr l_met1), some (tv rInt x_place_2), none, none, none, none, none, none, none, none, none] [(l_met1, tcL rInt s5)] _
          replace hb2 := Option.some.inj hb2
          subst hb2
          exact im_le (.same (.same (.lose (.same (.same (.lose (.lose (.lose (.lose (.lose (.lose (.lose (.lose (.lose .nil)))))))))))))) (im_sub (List.Sublist.refl _) K2)
      · show Im _ [some (tv (rTup K (rPair K rBl (rTup K rInt))) x_machine), some (tv (rLst rInt) s2), none, some (tv rAddr l_met1), some (tv rInt s6.1), none, none, none, none, none, none, none, none, none] [(l_met1, tcL rInt s6.2)] _
        refine nxq ?_
        refine sv_frz (i := 3) (n := 0) (l := l_met1) rfl rfl ?_
        show Im _ [some (tv (rTup K (rPair K rBl (rTup K rInt))) x_machine), some (tv (rLst rInt) s2), none, some (tv (rLst rInt) s6.2), some (tv rInt s6.1), none, none, none, none, none, none, none, none, none] [] _
        obtain ⟨v19, h_v19, hm⟩ := bindS hm
        refine sv_seq (sv_asg (P := tv (rLst rInt) v19) (c1 := []) (ev_frz (en_lc (rβ := rInt) _ (fun x9 => [some (tv (rTup K (rPair K rBl (rTup K rInt))) x_machine), some (tv (rLst rInt) s2), none, some (tv (rLst rInt) s6.2), some (tv rInt s6.1), none, none, none, none, none, none, some (tv rInt x9), none, none]) (ei_lst (ev_var (i := 3) rfl)) (fun x9 => (pt_name (by decide))) (fun x9 z6 hh_z6 => by obtain ⟨v18, h_v18, hh_z6⟩ := bindS hh_z6; replace hh_z6 := Option.some.inj hh_z6; subst hh_z6; exact (ev_ixL (ev_var (i := 1) rfl) (ev_var (i := 11) rfl) h_v18)) _ h_v19)) ?_)
        show Im _ [some (tv (rTup K (rPair K rBl (rTup K rInt))) x_machine), some (tv (rLst rInt) s2), none, some (tv (rLst rInt) s6.2), some (tv rInt s6.1), some (tv (rLst rInt) v19), none, none, none, none, none, none, none, none] [] _
        refine nxq ?_
        obtain ⟨v25, h_v25, hm⟩ := bindS hm
        replace hm := Option.some.inj hm
        subst hm
        exact sv_ret (P := tv (rTup K (rPair K rBl (rTup K rInt))) v25) (c1 := []) (ev_tupL (ev_frz (en_lc (rβ := (rPair K rBl (rTup K rInt))) _ (fun x10 => [some (tv (rTup K (rPair K rBl (rTup K rInt))) x_machine), some (tv (rLst rInt) s2), none, some (tv (rLst rInt) s6.2), some (tv rInt s6.1), some (tv (rLst rInt) v19), none, none, none, none, none, some (tv rInt x10), none, none]) (ei_lst (ev_var (i := 3) rfl)) (fun x10 => (pt_name (by decide))) (fun x10 z8 hh_z8 => by obtain ⟨v20, h_v20, hh_z8⟩ := bindS hh_z8; obtain ⟨v21, h_v21, hh_z8⟩ := bindS hh_z8; obtain ⟨v24, h_v24, hh_z8⟩ := bindS hh_z8; replace hh_z8 := Option.some.inj hh_z8; subst hh_z8; exact (ev_pair (ev_fst (ev_ixT (ev_var (i := 0) rfl) (ev_var (i := 11) rfl) h_v20) (ev_int (i := 0))) (ev_tupL (ev_frz (en_lc (rβ := rInt) _ (fun x11 => [some (tv (rTup K (rPair K rBl (rTup K rInt))) x_machine), some (tv (rLst rInt) s2), none, some (tv (rLst rInt) s6.2), some (tv rInt s6.1), some (tv (rLst rInt) v19), none, none, some (tv rInt x11), none, none, some (tv rInt x10), none, none]) (ei_tup (ev_snd (ev_ixT (ev_var (i := 0) rfl) (ev_var (i := 11) rfl) h_v21) (ev_int (i := 1)))) (fun x11 => (pt_name (by decide))) (fun x11 z7 hh_z7 => by obtain ⟨v22, h_v22, hh_z7⟩ := bindS hh_z7; obtain ⟨v23, h_v23, hh_z7⟩ := bindS hh_z7; replace hh_z7 := Option.some.inj hh_z7; subst hh_z7; exact (ev_idxD dInt (Nat.le_of_ble_eq_true rfl) (ev_var (i := 5) rfl) (ev_ixL (ev_var (i := 1) rfl) (ev_var (i := 8) rfl) h_v22) h_v23)) _ h_v24))))) _ h_v25))) (RT.sub (List.Sublist.refl _) (fun v G' H' ap pp => hq _ _ v G' H' ⟨rfl, rfl⟩ ap pp))
def m__law_machine (w_state : LSt) (x_signs : (List Nat)) (x_most : Int) : Option ((List (Bool × (List Int))) × LSt) :=
  (m__law_next w_state x_most).bind fun v1 => (some ((1 : Int) + v1.1)).bind fun x_size_1 => (rng1O x_size_1).bind fun v2 => (mapS (fun (s1 : LSt) (x1 : Int) => (m__law_next s1 (2 : Int)).bind fun v3 => (mapS (fun (s2 : LSt) (x2 : (List Nat)) => (m__law_next s2 x_size_1).bind fun v4 => some (v4.1, v4.2)) v3.2 (x_signs.map fun k => [k])).bind fun v5 => some (((decide (v3.1 = (0 : Int))), v5.1), v5.2)) v1.2 v2).bind fun v6 => (m__law_least v6.1).bind fun v7 => some (v7, v6.2)
def R__law_machine (K : PySem.W.Frag) : Hp → List V → Cells → (Cells → TV → Prop) → Prop := fun G vs c W => ∃ (l_state : Addr) (x_signs : (List Nat)) (x_most : Int) (w_state : LSt) (y : (List (Bool × (List Int))) × LSt), VsOk G [tv rAddr l_state, tv rStr x_signs, tv rInt x_most] vs ∧ c = [(l_state, tcRec (tv (rLst rInt) w_state.1) w_state.2.1 w_state.2.2.1 w_state.2.2.2)] ∧ m__law_machine w_state x_signs x_most = some y ∧ W = W1 [(l_state, tcRec (tv (rLst rInt) y.2.1) y.2.2.1 y.2.2.2.1 y.2.2.2.2)] (tv (rTup K (rPair K rBl (rTup K rInt))) y.1)
abbrev n__law_machine : List Str := ["state", "signs", "most", "size", "line", "sign"]
theorem sc__law_machine : FnScope ["state", "signs", "most", "size", "line", "sign"] ["state", "signs", "most"] (defScope s__law_machine) := ⟨rfl, rfl, rfl, by decide +kernel, rfl, by decide +kernel, by decide +kernel⟩
theorem ok__law_machine (T : Tx K mg a) : FnOk P w K mg base CX0 2 a.f__law_machine a.d__law_machine ["state", "signs", "most"] (spOf (R__law_machine K)) := by
  refine T.F__law_machine.ok sc__law_machine (fun vs H Q E h => ?_) (fun cdv A outer s H vs Q E hr h => ?_)
  · obtain ⟨G, c, W, hd, ⟨l_state, x_signs, x_most, w_state, y, hv, _⟩, hq⟩ := h
    exact hv.len
  · obtain ⟨G, c, W, hd, ⟨l_state, x_signs, x_most, w_state, y, hv, rfl, hm, rfl⟩, hq⟩ := h
    have hu := hu_of hr
    have hu64 := hr.units
    have hu65 := units65 hr
    refine ⟨_, (pss_cons (ps_set (i := 3) sc__law_machine.nd (by rfl) (by first | exact Or.inl rfl | exact Or.inr rfl) (pe_op op_add pe_int (pe_call (ok__law_next T) (hr.mono (by decide)) (by rfl) T.g__law_next T.F__law_next.kp T.d__law_next .nil pass0 (pa_cons (pv 0) (pa_cons (pv 2) pa_nil)))))
      (pss_one (ps_ret (pe_call (ok__law_least T) (hr.mono (by decide)) (by rfl) T.g__law_least T.F__law_least.kp T.d__law_least .nil pass0 (pa_cons (pe_callTy (T := "tuple") call_tuple_of (by rfl) T.b_tuple (by decide +kernel) (pa_cons (pe_lc (own := [("line", 4)]) (wi := (iRng1 (tCons (tVar 3) tNil))) (g := (gName 4)) (tt := tYes) (te := (tTup (tCons (tOp rEq (tCall (spOf (R__law_next K)) [] E0 (tCons (tVar 0) (tCons (tC (.int 2)) tNil))) (tC (.int 0))) (tCons (tCB (rTupleC K) (tCons (tLc (iStr (tVar 1)) (gName 5) tYes (tCall (spOf (R__law_next K)) [] E0 (tCons (tVar 0) (tCons (tVar 3) tNil))) [5]) tNil)) tNil)))) rfl sc__law_machine.nd (pi_range1 (by rfl) T.b_range (pa_cons (pv 3) pa_nil)) (blkOk_by (by kernel_rfl)) (fun _ _ _ _ _ => (pg_name (i := 4) sc__law_machine.nd (by rfl) (by first | exact Or.inl rfl | exact Or.inr rfl) (by first | exact Or.inr rfl | exact Or.inl rfl))) (fun _ _ _ _ _ => pts_nil) (fun _ _ _ _ _ => (pe_tup (pa_cons (pe_cmpR op_eq (pe_call (ok__law_next T) (hr.mono (by decide)) (by rfl) T.g__law_next T.F__law_next.kp T.d__law_next .nil pass0 (pa_cons (pv 0) (pa_cons pe_int pa_nil))) pe_int (nomark _)) (pa_cons (pe_callTy (T := "tuple") call_tuple_of (by rfl) T.b_tuple (by decide +kernel) (pa_cons (pe_lc (own := [("sign", 5)]) (wi := (iStr (tVar 1))) (g := (gName 5)) (tt := tYes) (te := (tCall (spOf (R__law_next K)) [] E0 (tCons (tVar 0) (tCons (tVar 3) tNil)))) rfl sc__law_machine.nd (pi_str (pv 1)) (blkOk_by (by kernel_rfl)) (fun _ _ _ _ _ => (pg_name (i := 5) sc__law_machine.nd (by rfl) (by first | exact Or.inl rfl | exact Or.inr rfl) (by first | exact Or.inr rfl | exact Or.inl rfl))) (fun _ _ _ _ _ => pts_nil) (fun _ _ _ _ _ => (pe_call (ok__law_next T) (hr.mono (by decide)) (by rfl) T.g__law_next T.F__law_next.kp T.d__law_next .nil pass0 (pa_cons (pv 0) (pa_cons (pv 3) pa_nil))))) pa_nil)) pa_nil))))) pa_nil)) pa_nil))))), ?_⟩
    refine (?_ : Sv _ _ ⟨G, [(l_state, tcRec (tv (rLst rInt) w_state.1) w_state.2.1 w_state.2.2.1 w_state.2.2.2)], H⟩ [some (tv rAddr l_state), some (tv rStr x_signs), some (tv rInt x_most), none, none, none] [(l_state, tcRec (tv (rLst rInt) w_state.1) w_state.2.1 w_state.2.2.1 w_state.2.2.2)]) _ _ (Post.refl hd (env_start (N := n__law_machine) hv))
    unfold m__law_machine at hm
    obtain ⟨v1, h_v1, hm⟩ := bindS hm
    obtain ⟨x_size_1, h_x_size_1, hm⟩ := bindS hm
    refine sv_seq (sv_asg (P := tv rInt x_size_1) (c1 := [(l_state, tcRec (tv (rLst rInt) v1.2.1) v1.2.2.1 v1.2.2.2.1 v1.2.2.2.2)]) (Ev.to (ev_add (ev_int (i := 1)) (ev_call (c1 := [(l_state, tcRec (tv (rLst rInt) w_state.1) w_state.2.1 w_state.2.2.1 w_state.2.2.2)]) (c2 := []) (c3 := [(l_state, tcRec (tv (rLst rInt) v1.2.1) v1.2.2.1 v1.2.2.2.1 v1.2.2.2.2)]) (R := R__law_next K) (ea_cons (ev_var (i := 0) rfl) (ea_cons (ev_var (i := 2) rfl) ea_nil)) (fun G vs hvs => ⟨l_state, x_most, w_state, v1, hvs, rfl, h_v1, rfl⟩))) (Option.some.inj h_x_size_1)) ?_)
    show Im _ [some (tv rAddr l_state), some (tv rStr x_signs), some (tv rInt x_most), some (tv rInt x_size_1), none, none] [(l_state, tcRec (tv (rLst rInt) v1.2.1) v1.2.2.1 v1.2.2.2.1 v1.2.2.2.2)] _
    refine nxq ?_
    obtain ⟨v2, h_v2, hm⟩ := bindS hm
    obtain ⟨v6, h_v6, hm⟩ := bindS hm
    obtain ⟨v7, h_v7, hm⟩ := bindS hm
    replace hm := Option.some.inj hm
    subst hm
    exact sv_ret (P := tv (rTup K (rPair K rBl (rTup K rInt))) v7) (c1 := [(l_state, tcRec (tv (rLst rInt) v6.2.1) v6.2.2.1 v6.2.2.2.1 v6.2.2.2.2)]) (ev_callP (R := R__law_least K) (ea_cons (ev_tupL (ev_frz (en_lcM (rβ := (rPair K rBl (rTup K rInt))) _ (fun s1 => [(l_state, tcRec (tv (rLst rInt) s1.1) s1.2.1 s1.2.2.1 s1.2.2.2)]) (fun x1 => [some (tv rAddr l_state), some (tv rStr x_signs), some (tv rInt x_most), some (tv rInt x_size_1), some (tv rInt x1), none]) (ei_rng1 (ev_var (i := 3) rfl) h_v2) v1.2 rfl (fun x1 => (pt_name (by decide))) (fun s1 x1 z2 hh_z2 => by obtain ⟨v3, h_v3, hh_z2⟩ := bindS hh_z2; obtain ⟨v5, h_v5, hh_z2⟩ := bindS hh_z2; replace hh_z2 := Option.some.inj hh_z2; subst hh_z2; exact (ev_pair (ev_eqI (ev_call (c1 := [(l_state, tcRec (tv (rLst rInt) s1.1) s1.2.1 s1.2.2.1 s1.2.2.2)]) (c2 := []) (c3 := [(l_state, tcRec (tv (rLst rInt) v3.2.1) v3.2.2.1 v3.2.2.2.1 v3.2.2.2.2)]) (R := R__law_next K) (ea_cons (ev_var (i := 0) rfl) (ea_cons (ev_int (i := 2)) ea_nil)) (fun G vs hvs => ⟨l_state, (2 : Int), s1, v3, hvs, rfl, h_v3, rfl⟩)) (ev_int (i := 0))) (ev_tupL (ev_frz (en_lcM (rβ := rInt) _ (fun s2 => [(l_state, tcRec (tv (rLst rInt) s2.1) s2.2.1 s2.2.2.1 s2.2.2.2)]) (fun x2 => [some (tv rAddr l_state), some (tv rStr x_signs), some (tv rInt x_most), some (tv rInt x_size_1), some (tv rInt x1), some (tv rStr x2)]) (ei_str (ev_var (i := 1) rfl)) v3.2 rfl (fun x2 => (pt_name (by decide))) (fun s2 x2 z1 hh_z1 => by obtain ⟨v4, h_v4, hh_z1⟩ := bindS hh_z1; replace hh_z1 := Option.some.inj hh_z1; subst hh_z1; exact (ev_call (c1 := [(l_state, tcRec (tv (rLst rInt) s2.1) s2.2.1 s2.2.2.1 s2.2.2.2)]) (c2 := []) (c3 := [(l_state, tcRec (tv (rLst rInt) v4.2.1) v4.2.2.1 v4.2.2.2.1 v4.2.2.2.2)]) (R := R__law_next K) (ea_cons (ev_var (i := 0) rfl) (ea_cons (ev_var (i := 3) rfl) ea_nil)) (fun G vs hvs => ⟨l_state, x_size_1, s2, v4, hvs, rfl, h_v4, rfl⟩))) _ h_v5))))) _ h_v6))) ea_nil) (fun G vs hvs => ⟨v6.1, v7, hvs, rfl, h_v7, rfl⟩)) (RT.sub (List.Sublist.refl _) (fun v G' H' ap pp => hq _ _ v G' H' ⟨rfl, rfl⟩ ap pp))
def m__law_behind (x_machine : (List (Bool × (List Int)))) (x_signs : (List Nat)) (x_line : Int) (x_row : (List Nat)) : Option (Int) :=
  (foldO (fun (s1 : Int) (x1 : (List Nat)) => (atI x_machine s1).bind fun v1 => (sidxO x_signs x1).bind fun v2 => (atI v1.2 v2).bind fun v3 => some v3) x_line (x_row.map fun k => [k])).bind fun (s2 : Int) => some s2
def R__law_behind (K : PySem.W.Frag) : Hp → List V → Cells → (Cells → TV → Prop) → Prop := fun G vs c W => ∃ (x_machine : (List (Bool × (List Int)))) (x_signs : (List Nat)) (x_line : Int) (x_row : (List Nat)) (y : Int), VsOk G [tv (rTup K (rPair K rBl (rTup K rInt))) x_machine, tv rStr x_signs, tv rInt x_line, tv rStr x_row] vs ∧ c = [] ∧ m__law_behind x_machine x_signs x_line x_row = some y ∧ W = W1 [] (tv rInt y)
abbrev n__law_behind : List Str := ["machine", "signs", "line", "row", "sign"]
theorem sc__law_behind : FnScope ["machine", "signs", "line", "row", "sign"] ["machine", "signs", "line", "row"] (defScope s__law_behind) := ⟨rfl, rfl, rfl, by decide +kernel, rfl, by decide +kernel, by decide +kernel⟩
theorem ok__law_behind (T : Tx K mg a) : FnOk P w K mg base CX0 1 a.f__law_behind a.d__law_behind ["machine", "signs", "line", "row"] (spOf (R__law_behind K)) := by
  refine T.F__law_behind.ok sc__law_behind (fun vs H Q E h => ?_) (fun cdv A outer s H vs Q E hr h => ?_)
  · obtain ⟨G, c, W, hd, ⟨x_machine, x_signs, x_line, x_row, y, hv, _⟩, hq⟩ := h
    exact hv.len
  · obtain ⟨G, c, W, hd, ⟨x_machine, x_signs, x_line, x_row, y, hv, rfl, hm, rfl⟩, hq⟩ := h
    have hu := hu_of hr
    have hu64 := hr.units
    have hu65 := units65 hr
    refine ⟨_, (pss_cons (ps_for PassesOwn.never rfl (pi_str (pv 3)) (pg_name (i := 4) sc__law_behind.nd (by rfl) (by first | exact Or.inl rfl | exact Or.inr rfl) (by first | exact Or.inr rfl | exact Or.inl rfl)) (pss_one (ps_set (i := 2) sc__law_behind.nd (by rfl) (by first | exact Or.inl rfl | exact Or.inr rfl) (pe_ix ix_tup (pe_ix ix_tup (pe_ix ix_tup (pv 0) (pv 2) (fun _ _ => rfl)) pe_int (fun _ _ => rfl)) (pe_m1 PySem.F.slot_str_index PySem.F.type_str_index k_sidx (pv 1) (pv 4)) (fun _ _ => rfl)))))
      (pss_one (ps_ret (pv 2)))), ?_⟩
    refine (?_ : Sv _ _ ⟨G, [], H⟩ [some (tv (rTup K (rPair K rBl (rTup K rInt))) x_machine), some (tv rStr x_signs), some (tv rInt x_line), some (tv rStr x_row), none] []) _ _ (Post.refl hd (env_start (N := n__law_behind) hv))
    unfold m__law_behind at hm
    obtain ⟨s2, h_s2, hm⟩ := bindS hm
    refine sv_seq (sv_forO (vs := [4]) (r := rStr) _ (fun (s1 : Int) => [some (tv (rTup K (rPair K rBl (rTup K rInt))) x_machine), some (tv rStr x_signs), some (tv rInt s1), some (tv rStr x_row), none]) (fun (s1 : Int) => []) (fun (s1 : Int) x1 => [some (tv (rTup K (rPair K rBl (rTup K rInt))) x_machine), some (tv rStr x_signs), some (tv rInt s1), some (tv rStr x_row), some (tv rStr x1)]) (ei_str (ev_var (i := 3) rfl)) x_line (.same (.same (.same (.same (.lose .nil))))) (List.Sublist.refl _) (fun s1 x1 => (pt_name (by decide))) (fun s1 x1 st hb1 D' B' K1 K1' => ?_) s2 h_s2 ?_)
    · show Im _ [some (tv (rTup K (rPair K rBl (rTup K rInt))) x_machine), some (tv rStr x_signs), some (tv rInt s1), some (tv rStr x_row), some (tv rStr x1)] [] _
      obtain ⟨v1, h_v1, hb1⟩ := bindS hb1
      obtain ⟨v2, h_v2, hb1⟩ := bindS hb1
      obtain ⟨v3, h_v3, hb1⟩ := bindS hb1
      refine (sv_asg (P := tv rInt v3) (c1 := []) (ev_ixT (ev_snd (ev_ixT (ev_var (i := 0) rfl) (ev_var (i := 2) rfl) h_v1) (ev_int (i := 1))) (ev_sidx (ev_var (i := 1) rfl) (ev_var (i := 4) rfl) h_v2) h_v3) ?_)
      show Im _ [some (tv (rTup K (rPair K rBl (rTup K rInt))) x_machine), some (tv rStr x_signs), some (tv rInt v3), some (tv rStr x_row), some (tv rStr x1)] [] _
      replace hb1 := Option.some.inj hb1
      subst hb1
      exact im_le (.same (.same (.same (.same (.lose .nil))))) (im_sub (List.Sublist.refl _) K1)
    · show Im _ [some (tv (rTup K (rPair K rBl (rTup K rInt))) x_machine), some (tv rStr x_signs), some (tv rInt s2), some (tv rStr x_row), none] [] _
      refine nxq ?_
      replace hm := Option.some.inj hm
      subst hm
      exact sv_ret (P := tv rInt s2) (c1 := []) (ev_var (i := 2) rfl) (RT.sub (List.Sublist.refl _) (fun v G' H' ap pp => hq _ _ v G' H' ⟨rfl, rfl⟩ ap pp))
def m__law_passes (x_machine : (List (Bool × (List Int)))) (x_signs : (List Nat)) (x_row : (List Nat)) : Option (Bool) :=
  (m__law_behind x_machine x_signs (0 : Int) x_row).bind fun v1 => (atI x_machine v1).bind fun v2 => some v2.1
def R__law_passes (K : PySem.W.Frag) : Hp → List V → Cells → (Cells → TV → Prop) → Prop := fun G vs c W => ∃ (x_machine : (List (Bool × (List Int)))) (x_signs : (List Nat)) (x_row : (List Nat)) (y : Bool), VsOk G [tv (rTup K (rPair K rBl (rTup K rInt))) x_machine, tv rStr x_signs, tv rStr x_row] vs ∧ c = [] ∧ m__law_passes x_machine x_signs x_row = some y ∧ W = W1 [] (tv rBl y)
abbrev n__law_passes : List Str := ["machine", "signs", "row"]
theorem sc__law_passes : FnScope ["machine", "signs", "row"] ["machine", "signs", "row"] (defScope s__law_passes) := ⟨rfl, rfl, rfl, by decide +kernel, rfl, by decide +kernel, by decide +kernel⟩
theorem ok__law_passes (T : Tx K mg a) : FnOk P w K mg base CX0 2 a.f__law_passes a.d__law_passes ["machine", "signs", "row"] (spOf (R__law_passes K)) := by
  refine T.F__law_passes.ok sc__law_passes (fun vs H Q E h => ?_) (fun cdv A outer s H vs Q E hr h => ?_)
  · obtain ⟨G, c, W, hd, ⟨x_machine, x_signs, x_row, y, hv, _⟩, hq⟩ := h
    exact hv.len
  · obtain ⟨G, c, W, hd, ⟨x_machine, x_signs, x_row, y, hv, rfl, hm, rfl⟩, hq⟩ := h
    have hu := hu_of hr
    have hu64 := hr.units
    have hu65 := units65 hr
    refine ⟨_, (pss_one (ps_ret (pe_ix ix_tup (pe_ix ix_tup (pv 0) (pe_call (ok__law_behind T) (hr.mono (by decide)) (by rfl) T.g__law_behind T.F__law_behind.kp T.d__law_behind .nil pass0 (pa_cons (pv 0) (pa_cons (pv 1) (pa_cons pe_int (pa_cons (pv 2) pa_nil))))) (fun _ _ => rfl)) pe_int (fun _ _ => rfl)))), ?_⟩
    refine (?_ : Sv _ _ ⟨G, [], H⟩ [some (tv (rTup K (rPair K rBl (rTup K rInt))) x_machine), some (tv rStr x_signs), some (tv rStr x_row)] []) _ _ (Post.refl hd (env_start (N := n__law_passes) hv))
    unfold m__law_passes at hm
    obtain ⟨v1, h_v1, hm⟩ := bindS hm
    obtain ⟨v2, h_v2, hm⟩ := bindS hm
    replace hm := Option.some.inj hm
    subst hm
    exact sv_ret (P := tv rBl v2.1) (c1 := []) (ev_fst (ev_ixT (ev_var (i := 0) rfl) (ev_callP (R := R__law_behind K) (ea_cons (ev_var (i := 0) rfl) (ea_cons (ev_var (i := 1) rfl) (ea_cons (ev_int (i := 0)) (ea_cons (ev_var (i := 2) rfl) ea_nil)))) (fun G vs hvs => ⟨x_machine, x_signs, (0 : Int), x_row, v1, hvs, rfl, h_v1, rfl⟩)) h_v2) (ev_int (i := 0))) (RT.sub (List.Sublist.refl _) (fun v G' H' ap pp => hq _ _ v G' H' ⟨rfl, rfl⟩ ap pp))
def m__law_bits (x_number : Int) (x_many : Int) : Option ((List Bool)) :=
  (rng1O x_many).bind fun v1 => (mapO (fun x1 : Int => (atI ([(1 : Int), (2 : Int), (4 : Int), (8 : Int)] : List Int) x1).bind fun v2 => (fdivO x_number v2).bind fun v3 => (modO v3 (2 : Int)).bind fun v4 => some (decide (v4 = (1 : Int)))) v1).bind fun v5 => some v5
def R__law_bits (K : PySem.W.Frag) : Hp → List V → Cells → (Cells → TV → Prop) → Prop := fun G vs c W => ∃ (x_number : Int) (x_many : Int) (y : (List Bool)), VsOk G [tv rInt x_number, tv rInt x_many] vs ∧ c = [] ∧ m__law_bits x_number x_many = some y ∧ W = W1 [] (tv (rTup K rBl) y)
abbrev n__law_bits : List Str := ["number", "many", "k"]
theorem sc__law_bits : FnScope ["number", "many", "k"] ["number", "many"] (defScope s__law_bits) := ⟨rfl, rfl, rfl, by decide +kernel, rfl, by decide +kernel, by decide +kernel⟩
theorem ok__law_bits (T : Tx K mg a) : FnOk P w K mg base CX0 1 a.f__law_bits a.d__law_bits ["number", "many"] (spOf (R__law_bits K)) := by
  refine T.F__law_bits.ok sc__law_bits (fun vs H Q E h => ?_) (fun cdv A outer s H vs Q E hr h => ?_)
  · obtain ⟨G, c, W, hd, ⟨x_number, x_many, y, hv, _⟩, hq⟩ := h
    exact hv.len
  · obtain ⟨G, c, W, hd, ⟨x_number, x_many, y, hv, rfl, hm, rfl⟩, hq⟩ := h
    have hu := hu_of hr
    have hu64 := hr.units
    have hu65 := units65 hr
    refine ⟨_, (pss_one (ps_ret (pe_callTy (T := "tuple") call_tuple_of (by rfl) T.b_tuple (by decide +kernel) (pa_cons (pe_lc (own := [("k", 2)]) (wi := (iRng1 (tCons (tVar 1) tNil))) (g := (gName 2)) (tt := tYes) (te := (tOp rEq (tOp (rI (fun _ j => 0 < j) fun i j => .int (i % j)) (tOp (rI CDiv fun i j => .int (i / j)) (tVar 0) (tOp (rIxL K) (tLst (tCons (tC (.int 1)) (tCons (tC (.int 2)) (tCons (tC (.int 4)) (tCons (tC (.int 8)) tNil))))) (tVar 2))) (tC (.int 2))) (tC (.int 1)))) rfl sc__law_bits.nd (pi_range1 (by rfl) T.b_range (pa_cons (pv 1) pa_nil)) (blkOk_by (by kernel_rfl)) (fun _ _ _ _ _ => (pg_name (i := 2) sc__law_bits.nd (by rfl) (by first | exact Or.inl rfl | exact Or.inr rfl) (by first | exact Or.inr rfl | exact Or.inl rfl))) (fun _ _ _ _ _ => pts_nil) (fun _ _ _ _ _ => (pe_cmpR op_eq (pe_op op_mod (pe_op op_fdiv (pv 0) (pe_ix ix_list (pe_lst (pa_cons pe_int (pa_cons pe_int (pa_cons pe_int (pa_cons pe_int pa_nil))))) (pv 2) (fun _ _ => rfl))) pe_int) pe_int (nomark _)))) pa_nil)))), ?_⟩
    refine (?_ : Sv _ _ ⟨G, [], H⟩ [some (tv rInt x_number), some (tv rInt x_many), none] []) _ _ (Post.refl hd (env_start (N := n__law_bits) hv))
    unfold m__law_bits at hm
    obtain ⟨v1, h_v1, hm⟩ := bindS hm
    obtain ⟨v5, h_v5, hm⟩ := bindS hm
    replace hm := Option.some.inj hm
    subst hm
    exact sv_ret (P := tv (rTup K rBl) v5) (c1 := []) (ev_tupL (ev_frz (en_lc (rβ := rBl) _ (fun x1 => [some (tv rInt x_number), some (tv rInt x_many), some (tv rInt x1)]) (ei_rng1 (ev_var (i := 1) rfl) h_v1) (fun x1 => (pt_name (by decide))) (fun x1 z1 hh_z1 => by obtain ⟨v2, h_v2, hh_z1⟩ := bindS hh_z1; obtain ⟨v3, h_v3, hh_z1⟩ := bindS hh_z1; obtain ⟨v4, h_v4, hh_z1⟩ := bindS hh_z1; replace hh_z1 := Option.some.inj hh_z1; subst hh_z1; exact (ev_eqI (ev_mod (ev_fdiv (ev_var (i := 0) rfl) (ev_ixL (ev_frz (en_lst (rα := rInt) (xs := [(1 : Int), (2 : Int), (4 : Int), (8 : Int)]) (ea_cons (ev_int (i := 1)) (ea_cons (ev_int (i := 2)) (ea_cons (ev_int (i := 4)) (ea_cons (ev_int (i := 8)) ea_nil)))) (by show 4 ≤ sizeLine; decide))) (ev_var (i := 2) rfl) h_v2) h_v3) (ev_int (i := 2)) h_v4) (ev_int (i := 1)))) _ h_v5))) (RT.sub (List.Sublist.refl _) (fun v G' H' ap pp => hq _ _ v G' H' ⟨rfl, rfl⟩ ap pp))
def m__law_wide (x_many : Int) : Option (Int) :=
  some (if (decide (x_many < (3 : Int))) = true then (1 : Int) else (if (decide (x_many < (5 : Int))) = true then (2 : Int) else (3 : Int)))
def R__law_wide (K : PySem.W.Frag) : Hp → List V → Cells → (Cells → TV → Prop) → Prop := fun G vs c W => ∃ (x_many : Int) (y : Int), VsOk G [tv rInt x_many] vs ∧ c = [] ∧ m__law_wide x_many = some y ∧ W = W1 [] (tv rInt y)
abbrev n__law_wide : List Str := ["many"]
theorem sc__law_wide : FnScope ["many"] ["many"] (defScope s__law_wide) := ⟨rfl, rfl, rfl, by decide +kernel, rfl, by decide +kernel, by decide +kernel⟩
theorem ok__law_wide (T : Tx K mg a) : FnOk P w K mg base CX0 1 a.f__law_wide a.d__law_wide ["many"] (spOf (R__law_wide K)) := by
  refine T.F__law_wide.ok sc__law_wide (fun vs H Q E h => ?_) (fun cdv A outer s H vs Q E hr h => ?_)
  · obtain ⟨G, c, W, hd, ⟨x_many, y, hv, _⟩, hq⟩ := h
    exact hv.len
  · obtain ⟨G, c, W, hd, ⟨x_many, y, hv, rfl, hm, rfl⟩, hq⟩ := h
    have hu := hu_of hr
    have hu64 := hr.units
    have hu65 := units65 hr
    refine ⟨_, (pss_one (ps_ret (pe_ifExp (pt_cmpR op_lt (pv 0) pe_int (nomark _)) pe_int (pe_ifExp (pt_cmpR op_lt (pv 0) pe_int (nomark _)) pe_int pe_int)))), ?_⟩
    refine (?_ : Sv _ _ ⟨G, [], H⟩ [some (tv rInt x_many)] []) _ _ (Post.refl hd (env_start (N := n__law_wide) hv))
    unfold m__law_wide at hm
    replace hm := Option.some.inj hm
    subst hm
    exact sv_ret (P := tv rInt (if (decide (x_many < (3 : Int))) = true then (1 : Int) else (if (decide (x_many < (5 : Int))) = true then (2 : Int) else (3 : Int)))) (c1 := []) (ev_if (et_test (ev_lt (ev_var (i := 0) rfl) (ev_int (i := 3)))) (ev_int (i := 1)) (ev_if (et_test (ev_lt (ev_var (i := 0) rfl) (ev_int (i := 5)))) (ev_int (i := 2)) (ev_int (i := 3)))) (RT.sub (List.Sublist.refl _) (fun v G' H' ap pp => hq _ _ v G' H' ⟨rfl, rfl⟩ ap pp))
def m__law_inputs (x_signs : (List Nat)) (x_row : (List Nat)) : Option ((List (List Bool))) :=
  (mapO (fun x1 : (List Nat) => (sidxO x_signs x1).bind fun v1 => (m__law_wide (x_signs.length : Int)).bind fun v2 => (m__law_bits v1 v2).bind fun v3 => some v3) (x_row.map fun k => [k])).bind fun v4 => some v4
def R__law_inputs (K : PySem.W.Frag) : Hp → List V → Cells → (Cells → TV → Prop) → Prop := fun G vs c W => ∃ (x_signs : (List Nat)) (x_row : (List Nat)) (y : (List (List Bool))), VsOk G [tv rStr x_signs, tv rStr x_row] vs ∧ c = [] ∧ m__law_inputs x_signs x_row = some y ∧ W = WN [] (tcL (rTup K rBl) y)
abbrev n__law_inputs : List Str := ["signs", "row", "sign"]
theorem sc__law_inputs : FnScope ["signs", "row", "sign"] ["signs", "row"] (defScope s__law_inputs) := ⟨rfl, rfl, rfl, by decide +kernel, rfl, by decide +kernel, by decide +kernel⟩
theorem ok__law_inputs (T : Tx K mg a) : FnOk P w K mg base CX0 2 a.f__law_inputs a.d__law_inputs ["signs", "row"] (spOf (R__law_inputs K)) := by
  refine T.F__law_inputs.ok sc__law_inputs (fun vs H Q E h => ?_) (fun cdv A outer s H vs Q E hr h => ?_)
  · obtain ⟨G, c, W, hd, ⟨x_signs, x_row, y, hv, _⟩, hq⟩ := h
    exact hv.len
  · obtain ⟨G, c, W, hd, ⟨x_signs, x_row, y, hv, rfl, hm, rfl⟩, hq⟩ := h
    have hu := hu_of hr
    have hu64 := hr.units
    have hu65 := units65 hr
    refine ⟨_, (pss_one (ps_ret (pe_lc (own := [("sign", 2)]) (wi := (iStr (tVar 1))) (g := (gName 2)) (tt := tYes) (te := (tCall (spOf (R__law_bits K)) [] E0 (tCons (tM1 rSidx (tVar 0) (tVar 2)) (tCons (tCall (spOf (R__law_wide K)) [] E0 (tCons (tCB (TW.rLen K) (tCons (tVar 0) tNil)) tNil)) tNil)))) rfl sc__law_inputs.nd (pi_str (pv 1)) (blkOk_by (by kernel_rfl)) (fun _ _ _ _ _ => (pg_name (i := 2) sc__law_inputs.nd (by rfl) (by first | exact Or.inl rfl | exact Or.inr rfl) (by first | exact Or.inr rfl | exact Or.inl rfl))) (fun _ _ _ _ _ => pts_nil) (fun _ _ _ _ _ => (pe_call (ok__law_bits T) (hr.mono (by decide)) (by rfl) T.g__law_bits T.F__law_bits.kp T.d__law_bits .nil pass0 (pa_cons (pe_m1 PySem.F.slot_str_index PySem.F.type_str_index k_sidx (pv 0) (pv 2)) (pa_cons (pe_call (ok__law_wide T) (hr.mono (by decide)) (by rfl) T.g__law_wide T.F__law_wide.kp T.d__law_wide .nil pass0 (pa_cons (pe_callB (id := "len") k_len (by rfl) T.b_len (by decide +kernel) (pa_cons (pv 0) pa_nil)) pa_nil)) pa_nil))))))), ?_⟩
    refine (?_ : Sv _ _ ⟨G, [], H⟩ [some (tv rStr x_signs), some (tv rStr x_row), none] []) _ _ (Post.refl hd (env_start (N := n__law_inputs) hv))
    unfold m__law_inputs at hm
    obtain ⟨v4, h_v4, hm⟩ := bindS hm
    replace hm := Option.some.inj hm
    subst hm
    refine sv_retX (en_lc (rβ := (rTup K rBl)) _ (fun x1 => [some (tv rStr x_signs), some (tv rStr x_row), some (tv rStr x1)]) (ei_str (ev_var (i := 1) rfl)) (fun x1 => (pt_name (by decide))) (fun x1 z1 hh_z1 => by obtain ⟨v1, h_v1, hh_z1⟩ := bindS hh_z1; obtain ⟨v2, h_v2, hh_z1⟩ := bindS hh_z1; obtain ⟨v3, h_v3, hh_z1⟩ := bindS hh_z1; replace hh_z1 := Option.some.inj hh_z1; subst hh_z1; exact (ev_callP (R := R__law_bits K) (ea_cons (ev_sidx (ev_var (i := 0) rfl) (ev_var (i := 2) rfl) h_v1) (ea_cons (ev_callP (R := R__law_wide K) (ea_cons (ev_lenS (ev_var (i := 0) rfl)) ea_nil) (fun G vs hvs => ⟨(x_signs.length : Int), v2, hvs, rfl, h_v2, rfl⟩)) ea_nil)) (fun G vs hvs => ⟨v1, v2, v3, hvs, rfl, h_v3, rfl⟩))) _ h_v4) ?_
    rintro _ _ ⟨l, rfl, rfl⟩
    exact RT.sub (own_sub _ _) (fun v G' H' ap pp => hq _ _ v G' H' ⟨l, rfl, rfl⟩ ap pp)
def m__law_rows (x_signs : (List Nat)) (x_most : Int) : Option ((List (List Nat))) :=
  (some ([([] : List Nat)] : List (List Nat))).bind fun x_found_1 => (some ([([] : List Nat)] : List (List Nat))).bind fun x_layer_1 => (rng1O x_most).bind fun v1 => (foldO (fun (s1 : (List (List Nat)) × (List (List Nat))) (x1 : Int) => (mapO (fun x2 : (List Nat) => (mapO (fun x3 : (List Nat) => (catO x2 x3).bind fun v2 => some v2) (x_signs.map fun k => [k])).bind fun v3 => some v3) s1.2).bind fun v4 => (m__law_flat v4).bind fun v5 => (appO s1.1 v5).bind fun v6 => some (v6, v5)) (x_found_1, x_layer_1) v1).bind fun (s2 : (List (List Nat)) × (List (List Nat))) => some s2.1
def R__law_rows (K : PySem.W.Frag) : Hp → List V → Cells → (Cells → TV → Prop) → Prop := fun G vs c W => ∃ (x_signs : (List Nat)) (x_most : Int) (y : (List (List Nat))), VsOk G [tv rStr x_signs, tv rInt x_most] vs ∧ c = [] ∧ m__law_rows x_signs x_most = some y ∧ W = W1 [] (tv (rLst rStr) y)
abbrev n__law_rows : List Str := ["signs", "most", "found", "layer", "k", "row", "sign"]
theorem sc__law_rows : FnScope ["signs", "most", "found", "layer", "k", "row", "sign"] ["signs", "most"] (defScope s__law_rows) := ⟨rfl, rfl, rfl, by decide +kernel, rfl, by decide +kernel, by decide +kernel⟩
theorem ok__law_rows (T : Tx K mg a) : FnOk P w K mg base CX0 2 a.f__law_rows a.d__law_rows ["signs", "most"] (spOf (R__law_rows K)) := by
  refine T.F__law_rows.ok sc__law_rows (fun vs H Q E h => ?_) (fun cdv A outer s H vs Q E hr h => ?_)
  · obtain ⟨G, c, W, hd, ⟨x_signs, x_most, y, hv, _⟩, hq⟩ := h
    exact hv.len
  · obtain ⟨G, c, W, hd, ⟨x_signs, x_most, y, hv, rfl, hm, rfl⟩, hq⟩ := h
    have hu := hu_of hr
    have hu64 := hr.units
    have hu65 := units65 hr
    refine ⟨_, (pss_cons (ps_set (i := 2) sc__law_rows.nd (by rfl) (by first | exact Or.inl rfl | exact Or.inr rfl) (pe_lst (pa_cons pe_str pa_nil)))
      (pss_cons (ps_set (i := 3) sc__law_rows.nd (by rfl) (by first | exact Or.inl rfl | exact Or.inr rfl) (pe_lst (pa_cons pe_str pa_nil)))
      (pss_cons (ps_for PassesOwn.never rfl (pi_range1 (by rfl) T.b_range (pa_cons (pv 1) pa_nil)) (pg_name (i := 4) sc__law_rows.nd (by rfl) (by first | exact Or.inl rfl | exact Or.inr rfl) (by first | exact Or.inr rfl | exact Or.inl rfl)) (pss_cons (ps_set (i := 3) sc__law_rows.nd (by rfl) (by first | exact Or.inl rfl | exact Or.inr rfl) (pe_call (ok__law_flat T) (hr.mono (by decide)) (by rfl) T.g__law_flat T.F__law_flat.kp T.d__law_flat .nil pass0 (pa_cons (pe_lc (own := [("row", 5)]) (wi := (iList K (tVar 3))) (g := (gName 5)) (tt := tYes) (te := (tLc (iStr (tVar 0)) (gName 6) tYes (tOp rCatX (tVar 5) (tVar 6)) [6])) rfl sc__law_rows.nd (pi_list (pv 3)) (blkOk_by (by kernel_rfl)) (fun _ _ _ _ _ => (pg_name (i := 5) sc__law_rows.nd (by rfl) (by first | exact Or.inl rfl | exact Or.inr rfl) (by first | exact Or.inr rfl | exact Or.inl rfl))) (fun _ _ _ _ _ => pts_nil) (fun _ _ _ _ _ => (pe_lc (own := [("sign", 6)]) (wi := (iStr (tVar 0))) (g := (gName 6)) (tt := tYes) (te := (tOp rCatX (tVar 5) (tVar 6))) rfl sc__law_rows.nd (pi_str (pv 0)) (blkOk_by (by kernel_rfl)) (fun _ _ _ _ _ => (pg_name (i := 6) sc__law_rows.nd (by rfl) (by first | exact Or.inl rfl | exact Or.inr rfl) (by first | exact Or.inr rfl | exact Or.inl rfl))) (fun _ _ _ _ _ => pts_nil) (fun _ _ _ _ _ => (pe_op k_catS (pv 5) (pv 6)))))) pa_nil)))
      (pss_one (ps_set (i := 2) sc__law_rows.nd (by rfl) (by first | exact Or.inl rfl | exact Or.inr rfl) (pe_op op_cat (pv 2) (pv 3))))))
      (pss_one (ps_ret (pv 2)))))), ?_⟩
    refine (?_ : Sv _ _ ⟨G, [], H⟩ [some (tv rStr x_signs), some (tv rInt x_most), none, none, none, none, none] []) _ _ (Post.refl hd (env_start (N := n__law_rows) hv))
    unfold m__law_rows at hm
    obtain ⟨x_found_1, h_x_found_1, hm⟩ := bindS hm
    refine sv_seq (sv_asg (P := tv (rLst rStr) x_found_1) (c1 := []) (Ev.to (ev_frz (en_lst (rα := rStr) (xs := [([] : List Nat)]) (ea_cons (ev_str (x := []) (by decide +kernel) (by decide +kernel)) ea_nil) (by show 1 ≤ sizeLine; decide))) (Option.some.inj h_x_found_1)) ?_)
    show Im _ [some (tv rStr x_signs), some (tv rInt x_most), some (tv (rLst rStr) x_found_1), none, none, none, none] [] _
    refine nxq ?_
    obtain ⟨x_layer_1, h_x_layer_1, hm⟩ := bindS hm
    refine sv_seq (sv_asg (P := tv (rLst rStr) x_layer_1) (c1 := []) (Ev.to (ev_frz (en_lst (rα := rStr) (xs := [([] : List Nat)]) (ea_cons (ev_str (x := []) (by decide +kernel) (by decide +kernel)) ea_nil) (by show 1 ≤ sizeLine; decide))) (Option.some.inj h_x_layer_1)) ?_)
    show Im _ [some (tv rStr x_signs), some (tv rInt x_most), some (tv (rLst rStr) x_found_1), some (tv (rLst rStr) x_layer_1), none, none, none] [] _
    refine nxq ?_
    obtain ⟨v1, h_v1, hm⟩ := bindS hm
    obtain ⟨s2, h_s2, hm⟩ := bindS hm
    refine sv_seq (sv_forO (vs := [4]) (r := rInt) _ (fun (s1 : (List (List Nat)) × (List (List Nat))) => [some (tv rStr x_signs), some (tv rInt x_most), some (tv (rLst rStr) s1.1), some (tv (rLst rStr) s1.2), none, none, none]) (fun (s1 : (List (List Nat)) × (List (List Nat))) => []) (fun (s1 : (List (List Nat)) × (List (List Nat))) x1 => [some (tv rStr x_signs), some (tv rInt x_most), some (tv (rLst rStr) s1.1), some (tv (rLst rStr) s1.2), some (tv rInt x1), none, none]) (ei_rng1 (ev_var (i := 1) rfl) h_v1) (x_found_1, x_layer_1) (.same (.same (.same (.same (.lose (.lose (.lose .nil))))))) (List.Sublist.refl _) (fun s1 x1 => (pt_name (by decide))) (fun s1 x1 st hb1 D' B' K1 K1' => ?_) s2 h_s2 ?_)
    · show Im _ [some (tv rStr x_signs), some (tv rInt x_most), some (tv (rLst rStr) s1.1), some (tv (rLst rStr) s1.2), some (tv rInt x1), none, none] [] _
      obtain ⟨v4, h_v4, hb1⟩ := bindS hb1
      obtain ⟨v5, h_v5, hb1⟩ := bindS hb1
      refine sv_seq (sv_asg (P := tv (rLst rStr) v5) (c1 := []) (ev_callP (R := R__law_flat K) (ea_cons (ev_frz (en_lc (rβ := (rLst rStr)) _ (fun x2 => [some (tv rStr x_signs), some (tv rInt x_most), some (tv (rLst rStr) s1.1), some (tv (rLst rStr) s1.2), some (tv rInt x1), some (tv rStr x2), none]) (ei_lst (ev_var (i := 3) rfl)) (fun x2 => (pt_name (by decide))) (fun x2 z2 hh_z2 => by obtain ⟨v3, h_v3, hh_z2⟩ := bindS hh_z2; replace hh_z2 := Option.some.inj hh_z2; subst hh_z2; exact (ev_frz (en_lc (rβ := rStr) _ (fun x3 => [some (tv rStr x_signs), some (tv rInt x_most), some (tv (rLst rStr) s1.1), some (tv (rLst rStr) s1.2), some (tv rInt x1), some (tv rStr x2), some (tv rStr x3)]) (ei_str (ev_var (i := 0) rfl)) (fun x3 => (pt_name (by decide))) (fun x3 z1 hh_z1 => by obtain ⟨v2, h_v2, hh_z1⟩ := bindS hh_z1; replace hh_z1 := Option.some.inj hh_z1; subst hh_z1; exact (ev_catS (ev_var (i := 5) rfl) (ev_var (i := 6) rfl) h_v2)) _ h_v3))) _ h_v4)) ea_nil) (fun G vs hvs => ⟨v4, v5, hvs, rfl, h_v5, rfl⟩)) ?_)
      show Im _ [some (tv rStr x_signs), some (tv rInt x_most), some (tv (rLst rStr) s1.1), some (tv (rLst rStr) v5), some (tv rInt x1), none, none] [] _
      refine nxq ?_
      obtain ⟨v6, h_v6, hb1⟩ := bindS hb1
      refine (sv_asg (P := tv (rLst rStr) v6) (c1 := []) (ev_catL (ev_var (i := 2) rfl) (ev_var (i := 3) rfl) h_v6) ?_)
      show Im _ [some (tv rStr x_signs), some (tv rInt x_most), some (tv (rLst rStr) v6), some (tv (rLst rStr) v5), some (tv rInt x1), none, none] [] _
      replace hb1 := Option.some.inj hb1
      subst hb1
      exact im_le (.same (.same (.same (.same (.lose (.lose (.lose .nil))))))) (im_sub (List.Sublist.refl _) K1)
    · show Im _ [some (tv rStr x_signs), some (tv rInt x_most), some (tv (rLst rStr) s2.1), some (tv (rLst rStr) s2.2), none, none, none] [] _
      refine nxq ?_
      replace hm := Option.some.inj hm
      subst hm
      exact sv_ret (P := tv (rLst rStr) s2.1) (c1 := []) (ev_var (i := 2) rfl) (RT.sub (List.Sublist.refl _) (fun v G' H' ap pp => hq _ _ v G' H' ⟨rfl, rfl⟩ ap pp))
def m__law_row (w_state : LSt) (x_signs : (List Nat)) (x_most : Int) : Option ((List Nat) × LSt) :=
  (m__law_next w_state (x_most + (1 : Int))).bind fun v1 => (rng1O v1.1).bind fun v2 => (mapS (fun (s1 : LSt) (x1 : Int) => (m__law_next s1 (x_signs.length : Int)).bind fun v3 => (atI x_signs v3.1).bind fun v4 => some ([v4], v3.2)) v1.2 v2).bind fun v5 => (joinO ([] : List Nat) v5.1).bind fun v6 => some (v6, v5.2)
def R__law_row (K : PySem.W.Frag) : Hp → List V → Cells → (Cells → TV → Prop) → Prop := fun G vs c W => ∃ (l_state : Addr) (x_signs : (List Nat)) (x_most : Int) (w_state : LSt) (y : (List Nat) × LSt), VsOk G [tv rAddr l_state, tv rStr x_signs, tv rInt x_most] vs ∧ c = [(l_state, tcRec (tv (rLst rInt) w_state.1) w_state.2.1 w_state.2.2.1 w_state.2.2.2)] ∧ m__law_row w_state x_signs x_most = some y ∧ W = W1 [(l_state, tcRec (tv (rLst rInt) y.2.1) y.2.2.1 y.2.2.2.1 y.2.2.2.2)] (tv rStr y.1)
abbrev n__law_row : List Str := ["state", "signs", "most", "k"]
theorem sc__law_row : FnScope ["state", "signs", "most", "k"] ["state", "signs", "most"] (defScope s__law_row) := ⟨rfl, rfl, rfl, by decide +kernel, rfl, by decide +kernel, by decide +kernel⟩
theorem ok__law_row (T : Tx K mg a) : FnOk P w K mg base CX0 2 a.f__law_row a.d__law_row ["state", "signs", "most"] (spOf (R__law_row K)) := by
  refine T.F__law_row.ok sc__law_row (fun vs H Q E h => ?_) (fun cdv A outer s H vs Q E hr h => ?_)
  · obtain ⟨G, c, W, hd, ⟨l_state, x_signs, x_most, w_state, y, hv, _⟩, hq⟩ := h
    exact hv.len
  · obtain ⟨G, c, W, hd, ⟨l_state, x_signs, x_most, w_state, y, hv, rfl, hm, rfl⟩, hq⟩ := h
    have hu := hu_of hr
    have hu64 := hr.units
    have hu65 := units65 hr
    refine ⟨_, (pss_one (ps_ret (pe_m1 PySem.F.slot_str_join PySem.F.type_str_join k_join pe_str (pe_lc (own := [("k", 3)]) (wi := (iRng1 (tCons (tCall (spOf (R__law_next K)) [] E0 (tCons (tVar 0) (tCons (tOp (rI0 fun i j => .int (i + j)) (tVar 2) (tC (.int 1))) tNil))) tNil))) (g := (gName 3)) (tt := tYes) (te := (tOp rIxS (tVar 1) (tCall (spOf (R__law_next K)) [] E0 (tCons (tVar 0) (tCons (tCB (TW.rLen K) (tCons (tVar 1) tNil)) tNil))))) rfl sc__law_row.nd (pi_range1 (by rfl) T.b_range (pa_cons (pe_call (ok__law_next T) (hr.mono (by decide)) (by rfl) T.g__law_next T.F__law_next.kp T.d__law_next .nil pass0 (pa_cons (pv 0) (pa_cons (pe_op op_add (pv 2) pe_int) pa_nil))) pa_nil)) (blkOk_by (by kernel_rfl)) (fun _ _ _ _ _ => (pg_name (i := 3) sc__law_row.nd (by rfl) (by first | exact Or.inl rfl | exact Or.inr rfl) (by first | exact Or.inr rfl | exact Or.inl rfl))) (fun _ _ _ _ _ => pts_nil) (fun _ _ _ _ _ => (pe_ix ix_str (pv 1) (pe_call (ok__law_next T) (hr.mono (by decide)) (by rfl) T.g__law_next T.F__law_next.kp T.d__law_next .nil pass0 (pa_cons (pv 0) (pa_cons (pe_callB (id := "len") k_len (by rfl) T.b_len (by decide +kernel) (pa_cons (pv 1) pa_nil)) pa_nil))) (fun _ _ => rfl))))))), ?_⟩
    refine (?_ : Sv _ _ ⟨G, [(l_state, tcRec (tv (rLst rInt) w_state.1) w_state.2.1 w_state.2.2.1 w_state.2.2.2)], H⟩ [some (tv rAddr l_state), some (tv rStr x_signs), some (tv rInt x_most), none] [(l_state, tcRec (tv (rLst rInt) w_state.1) w_state.2.1 w_state.2.2.1 w_state.2.2.2)]) _ _ (Post.refl hd (env_start (N := n__law_row) hv))
    unfold m__law_row at hm
    obtain ⟨v1, h_v1, hm⟩ := bindS hm
    obtain ⟨v2, h_v2, hm⟩ := bindS hm
    obtain ⟨v5, h_v5, hm⟩ := bindS hm
    obtain ⟨v6, h_v6, hm⟩ := bindS hm
    replace hm := Option.some.inj hm
    subst hm
    exact sv_ret (P := tv rStr v6) (c1 := [(l_state, tcRec (tv (rLst rInt) v5.2.1) v5.2.2.1 v5.2.2.2.1 v5.2.2.2.2)]) (ev_join (ev_str (x := []) (by decide +kernel) (by decide +kernel)) (ev_frz (en_lcM (rβ := rStr) _ (fun s1 => [(l_state, tcRec (tv (rLst rInt) s1.1) s1.2.1 s1.2.2.1 s1.2.2.2)]) (fun x1 => [some (tv rAddr l_state), some (tv rStr x_signs), some (tv rInt x_most), some (tv rInt x1)]) (ei_rng1 (ev_call (c1 := [(l_state, tcRec (tv (rLst rInt) w_state.1) w_state.2.1 w_state.2.2.1 w_state.2.2.2)]) (c2 := []) (c3 := [(l_state, tcRec (tv (rLst rInt) v1.2.1) v1.2.2.1 v1.2.2.2.1 v1.2.2.2.2)]) (R := R__law_next K) (ea_cons (ev_var (i := 0) rfl) (ea_cons (ev_add (ev_var (i := 2) rfl) (ev_int (i := 1))) ea_nil)) (fun G vs hvs => ⟨l_state, (x_most + (1 : Int)), w_state, v1, hvs, rfl, h_v1, rfl⟩)) h_v2) v1.2 rfl (fun x1 => (pt_name (by decide))) (fun s1 x1 z1 hh_z1 => by obtain ⟨v3, h_v3, hh_z1⟩ := bindS hh_z1; obtain ⟨v4, h_v4, hh_z1⟩ := bindS hh_z1; replace hh_z1 := Option.some.inj hh_z1; subst hh_z1; exact (ev_ixS (ev_var (i := 1) rfl) (ev_call (c1 := [(l_state, tcRec (tv (rLst rInt) s1.1) s1.2.1 s1.2.2.1 s1.2.2.2)]) (c2 := []) (c3 := [(l_state, tcRec (tv (rLst rInt) v3.2.1) v3.2.2.1 v3.2.2.2.1 v3.2.2.2.2)]) (R := R__law_next K) (ea_cons (ev_var (i := 0) rfl) (ea_cons (ev_lenS (ev_var (i := 1) rfl)) ea_nil)) (fun G vs hvs => ⟨l_state, (x_signs.length : Int), s1, v3, hvs, rfl, h_v3, rfl⟩)) h_v4)) _ h_v5)) h_v6) (RT.sub (List.Sublist.refl _) (fun v G' H' ap pp => hq _ _ v G' H' ⟨rfl, rfl⟩ ap pp))
def m__law_signs (w_state : LSt) : Option ((List Nat) × LSt) :=
  (m__law_next w_state (5 : Int)).bind fun v1 => (atI ([([97, 98] : List Nat), ([97, 98, 99] : List Nat), ([98, 100] : List Nat), ([97, 98, 99, 100] : List Nat), ([120, 121, 122] : List Nat)] : List (List Nat)) v1.1).bind fun v2 => some (v2, v1.2)
def R__law_signs (K : PySem.W.Frag) : Hp → List V → Cells → (Cells → TV → Prop) → Prop := fun G vs c W => ∃ (l_state : Addr) (w_state : LSt) (y : (List Nat) × LSt), VsOk G [tv rAddr l_state] vs ∧ c = [(l_state, tcRec (tv (rLst rInt) w_state.1) w_state.2.1 w_state.2.2.1 w_state.2.2.2)] ∧ m__law_signs w_state = some y ∧ W = W1 [(l_state, tcRec (tv (rLst rInt) y.2.1) y.2.2.1 y.2.2.2.1 y.2.2.2.2)] (tv rStr y.1)
abbrev n__law_signs : List Str := ["state"]
theorem sc__law_signs : FnScope ["state"] ["state"] (defScope s__law_signs) := ⟨rfl, rfl, rfl, by decide +kernel, rfl, by decide +kernel, by decide +kernel⟩
theorem ok__law_signs (T : Tx K mg a) : FnOk P w K mg base CX0 2 a.f__law_signs a.d__law_signs ["state"] (spOf (R__law_signs K)) := by
  refine T.F__law_signs.ok sc__law_signs (fun vs H Q E h => ?_) (fun cdv A outer s H vs Q E hr h => ?_)
  · obtain ⟨G, c, W, hd, ⟨l_state, w_state, y, hv, _⟩, hq⟩ := h
    exact hv.len
  · obtain ⟨G, c, W, hd, ⟨l_state, w_state, y, hv, rfl, hm, rfl⟩, hq⟩ := h
    have hu := hu_of hr
    have hu64 := hr.units
    have hu65 := units65 hr
    refine ⟨_, (pss_one (ps_ret (pe_ix ix_list (pe_lst (pa_cons pe_str (pa_cons pe_str (pa_cons pe_str (pa_cons pe_str (pa_cons pe_str pa_nil)))))) (pe_call (ok__law_next T) (hr.mono (by decide)) (by rfl) T.g__law_next T.F__law_next.kp T.d__law_next .nil pass0 (pa_cons (pv 0) (pa_cons pe_int pa_nil))) (fun _ _ => rfl)))), ?_⟩
    refine (?_ : Sv _ _ ⟨G, [(l_state, tcRec (tv (rLst rInt) w_state.1) w_state.2.1 w_state.2.2.1 w_state.2.2.2)], H⟩ [some (tv rAddr l_state)] [(l_state, tcRec (tv (rLst rInt) w_state.1) w_state.2.1 w_state.2.2.1 w_state.2.2.2)]) _ _ (Post.refl hd (env_start (N := n__law_signs) hv))
    unfold m__law_signs at hm
    obtain ⟨v1, h_v1, hm⟩ := bindS hm
    obtain ⟨v2, h_v2, hm⟩ := bindS hm
    replace hm := Option.some.inj hm
    subst hm
    exact sv_ret (P := tv rStr v2) (c1 := [(l_state, tcRec (tv (rLst rInt) v1.2.1) v1.2.2.1 v1.2.2.2.1 v1.2.2.2.2)]) (ev_ixL (ev_frz (en_lst (rα := rStr) (xs := [([97, 98] : List Nat), ([97, 98, 99] : List Nat), ([98, 100] : List Nat), ([97, 98, 99, 100] : List Nat), ([120, 121, 122] : List Nat)]) (ea_cons (ev_str (x := [97, 98]) (by decide +kernel) (by decide +kernel)) (ea_cons (ev_str (x := [97, 98, 99]) (by decide +kernel) (by decide +kernel)) (ea_cons (ev_str (x := [98, 100]) (by decide +kernel) (by decide +kernel)) (ea_cons (ev_str (x := [97, 98, 99, 100]) (by decide +kernel) (by decide +kernel)) (ea_cons (ev_str (x := [120, 121, 122]) (by decide +kernel) (by decide +kernel)) ea_nil))))) (by show 5 ≤ sizeLine; decide))) (ev_call (c1 := [(l_state, tcRec (tv (rLst rInt) w_state.1) w_state.2.1 w_state.2.2.1 w_state.2.2.2)]) (c2 := []) (c3 := [(l_state, tcRec (tv (rLst rInt) v1.2.1) v1.2.2.1 v1.2.2.2.1 v1.2.2.2.2)]) (R := R__law_next K) (ea_cons (ev_var (i := 0) rfl) (ea_cons (ev_int (i := 5)) ea_nil)) (fun G vs hvs => ⟨l_state, (5 : Int), w_state, v1, hvs, rfl, h_v1, rfl⟩)) h_v2) (RT.sub (List.Sublist.refl _) (fun v G' H' ap pp => hq _ _ v G' H' ⟨rfl, rfl⟩ ap pp))
def m__law_told (x_net : ((List (List Nat)) × (List ((List Nat) × Bool)) × (List (Int × Int)) × (List ((List Nat) × Int)) × (List Int))) (x_signs : (List Nat)) (x_row : (List Nat)) : Option (Bool) :=
  (m__law_inputs x_signs x_row).bind fun v1 => (m__law_wide (x_signs.length : Int)).bind fun v2 => (m__law_bits (0 : Int) v2).bind fun v3 => (appO v1 ([v3] : List (List Bool))).bind fun v4 => (m_run x_net v4).bind fun v5 => (atI v5 (-(1 : Int))).bind fun v6 => (atI v6 (0 : Int)).bind fun v7 => some v7
def R__law_told (K : PySem.W.Frag) : Hp → List V → Cells → (Cells → TV → Prop) → Prop := fun G vs c W => ∃ (x_net : ((List (List Nat)) × (List ((List Nat) × Bool)) × (List (Int × Int)) × (List ((List Nat) × Int)) × (List Int))) (x_signs : (List Nat)) (x_row : (List Nat)) (y : Bool), VsOk G [tv (rQui K (rTup K rStr) (rTup K (rPair K rStr rBl)) (rTup K (rPair K rInt rInt)) (rTup K (rPair K rStr rInt)) (rTup K rInt)) x_net, tv rStr x_signs, tv rStr x_row] vs ∧ c = [] ∧ m__law_told x_net x_signs x_row = some y ∧ W = W1 [] (tv rBl y)
abbrev n__law_told : List Str := ["net", "signs", "row"]
theorem sc__law_told : FnScope ["net", "signs", "row"] ["net", "signs", "row"] (defScope s__law_told) := ⟨rfl, rfl, rfl, by decide +kernel, rfl, by decide +kernel, by decide +kernel⟩
theorem ok__law_told (T : Tx K mg a) : FnOk P w K mg base CX0 5 a.f__law_told a.d__law_told ["net", "signs", "row"] (spOf (R__law_told K)) := by
  refine T.F__law_told.ok sc__law_told (fun vs H Q E h => ?_) (fun cdv A outer s H vs Q E hr h => ?_)
  · obtain ⟨G, c, W, hd, ⟨x_net, x_signs, x_row, y, hv, _⟩, hq⟩ := h
    exact hv.len
  · obtain ⟨G, c, W, hd, ⟨x_net, x_signs, x_row, y, hv, rfl, hm, rfl⟩, hq⟩ := h
    have hu := hu_of hr
    have hu64 := hr.units
    have hu65 := units65 hr
    refine ⟨_, (pss_one (ps_ret (pe_ix ix_tup (pe_ix ix_list (pe_call (ok_run T) (hr.mono (by decide)) (by rfl) T.g_run T.F_run.kp T.d_run .nil pass0 (pa_cons (pv 0) (pa_cons (pe_op op_cat (pe_call (ok__law_inputs T) (hr.mono (by decide)) (by rfl) T.g__law_inputs T.F__law_inputs.kp T.d__law_inputs .nil pass0 (pa_cons (pv 1) (pa_cons (pv 2) pa_nil))) (pe_lst (pa_cons (pe_call (ok__law_bits T) (hr.mono (by decide)) (by rfl) T.g__law_bits T.F__law_bits.kp T.d__law_bits .nil pass0 (pa_cons pe_int (pa_cons (pe_call (ok__law_wide T) (hr.mono (by decide)) (by rfl) T.g__law_wide T.F__law_wide.kp T.d__law_wide .nil pass0 (pa_cons (pe_callB (id := "len") k_len (by rfl) T.b_len (by decide +kernel) (pa_cons (pv 1) pa_nil)) pa_nil)) pa_nil))) pa_nil))) pa_nil))) (pe_un un_neg pe_int) (fun _ _ => rfl)) pe_int (fun _ _ => rfl)))), ?_⟩
    refine (?_ : Sv _ _ ⟨G, [], H⟩ [some (tv (rQui K (rTup K rStr) (rTup K (rPair K rStr rBl)) (rTup K (rPair K rInt rInt)) (rTup K (rPair K rStr rInt)) (rTup K rInt)) x_net), some (tv rStr x_signs), some (tv rStr x_row)] []) _ _ (Post.refl hd (env_start (N := n__law_told) hv))
    unfold m__law_told at hm
    obtain ⟨v1, h_v1, hm⟩ := bindS hm
    obtain ⟨v2, h_v2, hm⟩ := bindS hm
    obtain ⟨v3, h_v3, hm⟩ := bindS hm
    obtain ⟨v4, h_v4, hm⟩ := bindS hm
    obtain ⟨v5, h_v5, hm⟩ := bindS hm
    obtain ⟨v6, h_v6, hm⟩ := bindS hm
    obtain ⟨v7, h_v7, hm⟩ := bindS hm
    replace hm := Option.some.inj hm
    subst hm
    exact sv_ret (P := tv rBl v7) (c1 := []) (ev_ixT (ev_ixL (ev_callP (R := R_run K) (ea_cons (ev_var (i := 0) rfl) (ea_cons (ev_catL (ev_frz (en_call (R := R__law_inputs K) (ea_cons (ev_var (i := 1) rfl) (ea_cons (ev_var (i := 2) rfl) ea_nil)) (fun G vs hvs => ⟨x_signs, x_row, v1, hvs, rfl, h_v1, rfl⟩))) (ev_frz (en_lst (rα := (rTup K rBl)) (xs := [v3]) (ea_cons (ev_callP (R := R__law_bits K) (ea_cons (ev_int (i := 0)) (ea_cons (ev_callP (R := R__law_wide K) (ea_cons (ev_lenS (ev_var (i := 1) rfl)) ea_nil) (fun G vs hvs => ⟨(x_signs.length : Int), v2, hvs, rfl, h_v2, rfl⟩)) ea_nil)) (fun G vs hvs => ⟨(0 : Int), v2, v3, hvs, rfl, h_v3, rfl⟩)) ea_nil) (by show 1 ≤ sizeLine; decide))) h_v4) ea_nil)) (fun G vs hvs => ⟨x_net, v4, v5, hvs, rfl, h_v5, rfl⟩)) (ev_neg (ev_int (i := 1))) h_v6) (ev_int (i := 0)) h_v7) (RT.sub (List.Sublist.refl _) (fun v G' H' ap pp => hq _ _ v G' H' ⟨rfl, rfl⟩ ap pp))
def m_law (x_script : (List Int)) : Option (Bool) :=
  (rng1O (3 : Int)).bind fun v1 => (foldB (ρ := Bool) (fun (s1 : LSt) (x1 : Int) => (m__law_signs s1).bind fun v2 => (m__law_machine v2.2 v2.1 (6 : Int)).bind fun v3 => (m_net_of v3.1 v2.1).bind fun v4 => (some ([] : List (List Nat))).bind fun x_passing_1 => (rng1O (if (decide ((v2.1.length : Int) < (4 : Int))) = true then (5 : Int) else (4 : Int))).bind fun v5 => (foldB (ρ := Bool) (fun (s2 : (List (List Nat))) (x2 : Int) => (m__law_rows v2.1 x2).bind fun v6 => (filtO (fun x3 : (List Nat) => some (decide ((x3.length : Int) = x2))) (fun x3 : (List Nat) => some x3) v6).bind fun v7 => (filtO (fun x4 : (List Nat) => (m__law_told v4 v2.1 x4).bind fun v8 => some v8) (fun x4 : (List Nat) => some x4) v7).bind fun v9 => (filtO (fun x5 : (List Nat) => (m__law_passes v3.1 v2.1 x5).bind fun v10 => some v10) (fun x5 : (List Nat) => some x5) v7).bind fun v11 => if (!(decide (v9 = v11))) = true then some (.rt false) else (m_count v3.1 x2).bind fun v12 => (m__law_same_I v12 (v9.length : Int)).bind fun v13 => if (!v13) = true then some (.rt false) else (appO s2 v9).bind fun v14 => some (.nx v14)) x_passing_1 v5).bind fun s3 => Stp.go s3 (fun (s2 : (List (List Nat))) => (rng1O (min (9 : Int) (s2.length : Int))).bind fun v15 => (foldB (ρ := Bool) (fun (s4 : Unit) (x6 : Int) => (m_row_numbered v3.1 v2.1 x6).bind fun v16 => (atI s2 x6).bind fun v17 => (m__law_same_S v16 v17).bind fun v18 => (orO (!v18) ((atI s2 x6).bind fun v19 => (m_number_of v3.1 v2.1 v19).bind fun v20 => (m__law_same_I v20 x6).bind fun v21 => some (!v21))).bind fun v22 => if v22 = true then some (.rt false) else some (.nx ())) () v15).bind fun s5 => Stp.go s5 (fun (s4 : Unit) => (m__law_row v3.2 v2.1 (5 : Int)).bind fun v23 => (m__law_inputs v2.1 v23.1).bind fun v24 => (if (decide ((v2.1.length : Int) = (3 : Int))) = true then (m__law_next v23.2 ((v24.length : Int) + (1 : Int))).bind fun v25 => (insO v24 v25.1 [true, true]).bind fun v26 => some (v25.2, v26) else some (v23.2, v24)).bind fun (s6 : LSt × (List (List Bool))) => (m__law_wide (v2.1.length : Int)).bind fun v27 => (m__law_bits (0 : Int) v27).bind fun v28 => (appO s6.2 ([v28] : List (List Bool))).bind fun v29 => (m_run v4 v29).bind fun v30 => (atI v30 (-(1 : Int))).bind fun v31 => (atI v31 (0 : Int)).bind fun v32 => (m__law_told v4 v2.1 v23.1).bind fun v33 => if (!(decide (v32 = v33))) = true then some (.rt false) else some (.nx s6.1)) (fun (y1 : Bool) => some (.rt y1))) (fun (y2 : Bool) => some (.rt y2))) (x_script, (0 : Int), (0 : Int), (1 : Int)) v1).bind fun s7 => Stp.go s7 (fun (s1 : LSt) => some true) (fun (y3 : Bool) => some y3)
def R_law (K : PySem.W.Frag) : Hp → List V → Cells → (Cells → TV → Prop) → Prop := fun G vs c W => ∃ (x_script : (List Int)) (y : Bool), VsOk G [tv (rLstS K rInt) x_script] vs ∧ c = [] ∧ m_law x_script = some y ∧ W = W1 [] (tv rBl y)
abbrev n_law : List Str := ["script", "state", "k", "signs", "machine", "net", "passing", "length", "number", "row", "inputs", "rows", "told"]
theorem sc_law : FnScope ["script", "state", "k", "signs", "machine", "net", "passing", "length", "number", "row", "inputs", "rows", "told"] ["script"] (defScope s_law) := ⟨rfl, rfl, rfl, by decide +kernel, rfl, by decide +kernel, by decide +kernel⟩
theorem ok_law (T : Tx K mg a) : FnOk P w K mg base CX0 7 a.f_law a.d_law ["script"] (spOf (R_law K)) := by
  refine T.F_law.ok sc_law (fun vs H Q E h => ?_) (fun cdv A outer s H vs Q E hr h => ?_)
  · obtain ⟨G, c, W, hd, ⟨x_script, y, hv, _⟩, hq⟩ := h
    exact hv.len
  · obtain ⟨G, c, W, hd, ⟨x_script, y, hv, rfl, hm, rfl⟩, hq⟩ := h
    have hu := hu_of hr
    have hu64 := hr.units
    have hu65 := units65 hr
    refine ⟨_, (pss_cons (ps_set (i := 1) sc_law.nd (by rfl) (by first | exact Or.inl rfl | exact Or.inr rfl) (pe_lst (pa_cons (pe_callTy (T := "list") call_list_of (by rfl) T.b_list (by decide +kernel) (pa_cons (pv 0) pa_nil)) (pa_cons pe_int (pa_cons pe_int (pa_cons pe_int pa_nil))))))
      (pss_cons (ps_for PassesOwn.never rfl (pi_range1 (by rfl) T.b_range (pa_cons pe_int pa_nil)) (pg_name (i := 2) sc_law.nd (by rfl) (by first | exact Or.inl rfl | exact Or.inr rfl) (by first | exact Or.inr rfl | exact Or.inl rfl)) (pss_cons (ps_set (i := 3) sc_law.nd (by rfl) (by first | exact Or.inl rfl | exact Or.inr rfl) (pe_call (ok__law_signs T) (hr.mono (by decide)) (by rfl) T.g__law_signs T.F__law_signs.kp T.d__law_signs .nil pass0 (pa_cons (pv 1) pa_nil)))
      (pss_cons (ps_set (i := 4) sc_law.nd (by rfl) (by first | exact Or.inl rfl | exact Or.inr rfl) (pe_call (ok__law_machine T) (hr.mono (by decide)) (by rfl) T.g__law_machine T.F__law_machine.kp T.d__law_machine .nil pass0 (pa_cons (pv 1) (pa_cons (pv 3) (pa_cons pe_int pa_nil)))))
      (pss_cons (ps_set (i := 5) sc_law.nd (by rfl) (by first | exact Or.inl rfl | exact Or.inr rfl) (pe_call (ok_net_of T) (hr.mono (by decide)) (by rfl) T.g_net_of T.F_net_of.kp T.d_net_of .nil pass0 (pa_cons (pv 4) (pa_cons (pv 3) pa_nil))))
      (pss_cons (ps_set (i := 6) sc_law.nd (by rfl) (by first | exact Or.inl rfl | exact Or.inr rfl) (pe_lst pa_nil))
      (pss_cons (ps_for PassesOwn.never rfl (pi_range1 (by rfl) T.b_range (pa_cons (pe_ifExp (pt_cmpR op_lt (pe_callB (id := "len") k_len (by rfl) T.b_len (by decide +kernel) (pa_cons (pv 3) pa_nil)) pe_int (nomark _)) pe_int pe_int) pa_nil)) (pg_name (i := 7) sc_law.nd (by rfl) (by first | exact Or.inl rfl | exact Or.inr rfl) (by first | exact Or.inr rfl | exact Or.inl rfl)) (pss_cons (ps_setLc (i := 11) (own := [("row", 9)]) (wi := (iList K (tCall (spOf (R__law_rows K)) [] E0 (tCons (tVar 3) (tCons (tVar 7) tNil))))) (g := (gName 9)) (tt := (tTest (tOp rEq (tCB (TW.rLen K) (tCons (tVar 9) tNil)) (tVar 7)))) (te := (tVar 9)) rfl sc_law.nd (by rfl) (by rfl) (sw_true rfl (by rfl) (by rfl) (by decide +kernel)) (pi_list (pe_call (ok__law_rows T) (hr.mono (by decide)) (by rfl) T.g__law_rows T.F__law_rows.kp T.d__law_rows .nil pass0 (pa_cons (pv 3) (pa_cons (pv 7) pa_nil)))) (blkOk_by (by kernel_rfl)) (fun _ _ _ _ _ => (pg_name (i := 9) sc_law.nd (by rfl) (by first | exact Or.inl rfl | exact Or.inr rfl) (by first | exact Or.inr rfl | exact Or.inl rfl))) (fun _ _ _ _ _ => (pts_one (pt_cmpR op_eq (pe_callB (id := "len") k_len (by rfl) T.b_len (by decide +kernel) (pa_cons (pv 9) pa_nil)) (pv 7) (nomark _)))) (fun _ _ _ _ _ => (pv 9)))
      (pss_cons (ps_setLc (i := 12) (own := [("row", 9)]) (wi := (iList K (tVar 11))) (g := (gName 9)) (tt := (tB (tCall (spOf (R__law_told K)) [] E0 (tCons (tVar 5) (tCons (tVar 3) (tCons (tVar 9) tNil)))))) (te := (tVar 9)) rfl sc_law.nd (by rfl) (by rfl) (sw_true rfl (by rfl) (by rfl) (by decide +kernel)) (pi_list (pv 11)) (blkOk_by (by kernel_rfl)) (fun _ _ _ _ _ => (pg_name (i := 9) sc_law.nd (by rfl) (by first | exact Or.inl rfl | exact Or.inr rfl) (by first | exact Or.inr rfl | exact Or.inl rfl))) (fun _ _ _ _ _ => (pts_one (pt_val (pe_call (ok__law_told T) (hr.mono (by decide)) (by rfl) T.g__law_told T.F__law_told.kp T.d__law_told .nil pass0 (pa_cons (pv 5) (pa_cons (pv 3) (pa_cons (pv 9) pa_nil))))))) (fun _ _ _ _ _ => (pv 9)))
      (pss_cons (ps_if (pt_cmpR (op_neD hu64) (pv 12) (pe_lc (own := [("row", 9)]) (wi := (iList K (tVar 11))) (g := (gName 9)) (tt := (tB (tCall (spOf (R__law_passes K)) [] E0 (tCons (tVar 4) (tCons (tVar 3) (tCons (tVar 9) tNil)))))) (te := (tVar 9)) rfl sc_law.nd (pi_list (pv 11)) (blkOk_by (by kernel_rfl)) (fun _ _ _ _ _ => (pg_name (i := 9) sc_law.nd (by rfl) (by first | exact Or.inl rfl | exact Or.inr rfl) (by first | exact Or.inr rfl | exact Or.inl rfl))) (fun _ _ _ _ _ => (pts_one (pt_val (pe_call (ok__law_passes T) (hr.mono (by decide)) (by rfl) T.g__law_passes T.F__law_passes.kp T.d__law_passes .nil pass0 (pa_cons (pv 4) (pa_cons (pv 3) (pa_cons (pv 9) pa_nil))))))) (fun _ _ _ _ _ => (pv 9))) (nomark _)) (pss_one (ps_ret pe_bl)) pss_nil)
      (pss_cons (ps_if (pt_not (pt_val (pe_call (ok__law_same_I T) (hr.mono (by decide)) (by rfl) T.g__law_same T.F__law_same.kp T.d__law_same .nil pass0 (pa_cons (pe_call (ok_count T) (hr.mono (by decide)) (by rfl) T.g_count T.F_count.kp T.d_count .nil pass0 (pa_cons (pv 4) (pa_cons (pv 7) pa_nil))) (pa_cons (pe_callB (id := "len") k_len (by rfl) T.b_len (by decide +kernel) (pa_cons (pv 12) pa_nil)) pa_nil))))) (pss_one (ps_ret pe_bl)) pss_nil)
      (pss_one (ps_set (i := 6) sc_law.nd (by rfl) (by first | exact Or.inl rfl | exact Or.inr rfl) (pe_op op_cat (pv 6) (pv 12)))))))))
      (pss_cons (ps_for PassesOwn.never rfl (pi_range1 (by rfl) T.b_range (pa_cons (pe_callB (id := "min") (call_min2 rfl) (by rfl) T.b_min (by decide +kernel) (pa_cons pe_int (pa_cons (pe_callB (id := "len") k_len (by rfl) T.b_len (by decide +kernel) (pa_cons (pv 6) pa_nil)) pa_nil))) pa_nil)) (pg_name (i := 8) sc_law.nd (by rfl) (by first | exact Or.inl rfl | exact Or.inr rfl) (by first | exact Or.inr rfl | exact Or.inl rfl)) (pss_one (ps_if (PW.pt (pw_or (pt_not (pt_val (pe_call (ok__law_same_S T) (hr.mono (by decide)) (by rfl) T.g__law_same T.F__law_same.kp T.d__law_same .nil pass0 (pa_cons (pe_call (ok_row_numbered T) (hr.mono (by decide)) (by rfl) T.g_row_numbered T.F_row_numbered.kp T.d_row_numbered .nil pass0 (pa_cons (pv 4) (pa_cons (pv 3) (pa_cons (pv 8) pa_nil)))) (pa_cons (pe_ix ix_list (pv 6) (pv 8) (fun _ _ => rfl)) pa_nil))))) (pw_or1 (pt_not (pt_val (pe_call (ok__law_same_I T) (hr.mono (by decide)) (by rfl) T.g__law_same T.F__law_same.kp T.d__law_same .nil pass0 (pa_cons (pe_call (ok_number_of T) (hr.mono (by decide)) (by rfl) T.g_number_of T.F_number_of.kp T.d_number_of .nil pass0 (pa_cons (pv 4) (pa_cons (pv 3) (pa_cons (pe_ix ix_list (pv 6) (pv 8) (fun _ _ => rfl)) pa_nil)))) (pa_cons (pv 8) pa_nil)))))))) (pss_one (ps_ret pe_bl)) pss_nil)))
      (pss_cons (ps_set (i := 9) sc_law.nd (by rfl) (by first | exact Or.inl rfl | exact Or.inr rfl) (pe_call (ok__law_row T) (hr.mono (by decide)) (by rfl) T.g__law_row T.F__law_row.kp T.d__law_row .nil pass0 (pa_cons (pv 1) (pa_cons (pv 3) (pa_cons pe_int pa_nil)))))
      (pss_cons (ps_set (i := 10) sc_law.nd (by rfl) (by first | exact Or.inl rfl | exact Or.inr rfl) (pe_call (ok__law_inputs T) (hr.mono (by decide)) (by rfl) T.g__law_inputs T.F__law_inputs.kp T.d__law_inputs .nil pass0 (pa_cons (pv 3) (pa_cons (pv 9) pa_nil))))
      (pss_cons (ps_if (pt_cmpR op_eq (pe_callB (id := "len") k_len (by rfl) T.b_len (by decide +kernel) (pa_cons (pv 3) pa_nil)) pe_int (nomark _)) (pss_one (ps_expr (pe_bm PySem.F.plainAttrs_list PySem.F.slot_list_insert PySem.F.type_list_insert mt_insert (pv 10) (pa_cons (pe_call (ok__law_next T) (hr.mono (by decide)) (by rfl) T.g__law_next T.F__law_next.kp T.d__law_next .nil pass0 (pa_cons (pv 1) (pa_cons (pe_op op_add (pe_callB (id := "len") k_len (by rfl) T.b_len (by decide +kernel) (pa_cons (pv 10) pa_nil)) pe_int) pa_nil))) (pa_cons (pe_tup (pa_cons pe_bl (pa_cons pe_bl pa_nil))) pa_nil))))) pss_nil)
      (pss_one (ps_if (pt_cmpR op_ne (pe_ix ix_tup (pe_ix ix_list (pe_call (ok_run T) (hr.mono (by decide)) (by rfl) T.g_run T.F_run.kp T.d_run .nil pass0 (pa_cons (pv 5) (pa_cons (pe_op op_cat (pv 10) (pe_lst (pa_cons (pe_call (ok__law_bits T) (hr.mono (by decide)) (by rfl) T.g__law_bits T.F__law_bits.kp T.d__law_bits .nil pass0 (pa_cons pe_int (pa_cons (pe_call (ok__law_wide T) (hr.mono (by decide)) (by rfl) T.g__law_wide T.F__law_wide.kp T.d__law_wide .nil pass0 (pa_cons (pe_callB (id := "len") k_len (by rfl) T.b_len (by decide +kernel) (pa_cons (pv 3) pa_nil)) pa_nil)) pa_nil))) pa_nil))) pa_nil))) (pe_un un_neg pe_int) (fun _ _ => rfl)) pe_int (fun _ _ => rfl)) (pe_call (ok__law_told T) (hr.mono (by decide)) (by rfl) T.g__law_told T.F__law_told.kp T.d__law_told .nil pass0 (pa_cons (pv 5) (pa_cons (pv 3) (pa_cons (pv 9) pa_nil)))) (nomark _)) (pss_one (ps_ret pe_bl)) pss_nil))))))))))))
      (pss_one (ps_ret pe_bl)))), ?_⟩
    refine (?_ : Sv _ _ ⟨G, [], H⟩ [some (tv (rLstS K rInt) x_script), none, none, none, none, none, none, none, none, none, none, none, none] []) _ _ (Post.refl hd (env_start (N := n_law) hv))
    unfold m_law at hm
    refine sv_seq (sv_asgN (c1 := []) (en_rec (S := tv (rLst rInt) x_script) (ev_frz (en_listS (ev_var (i := 0) rfl))) (ev_int (i := 0)) (ev_int (i := 0)) (ev_int (i := 1))) ?_)
    intro l_state1
    show Im _ [some (tv (rLstS K rInt) x_script), some (tv rAddr l_state1), none, none, none, none, none, none, none, none, none, none, none] [(l_state1, tcRec (tv (rLst rInt) x_script) (0 : Int) (0 : Int) (1 : Int))] _
    refine nxq ?_
    obtain ⟨v1, h_v1, hm⟩ := bindS hm
    obtain ⟨s7, h_s7, hm⟩ := bindS hm
    refine sv_seq (sv_for (vs := [2]) (r := rInt) _ (fun (s1 : LSt) => [some (tv (rLstS K rInt) x_script), some (tv rAddr l_state1), none, none, none, none, none, none, none, none, none, none, none]) (fun (s1 : LSt) => [(l_state1, tcRec (tv (rLst rInt) s1.1) s1.2.1 s1.2.2.1 s1.2.2.2)]) (fun (y : Bool) => []) (fun (y : Bool) => tv rBl y) (fun (s1 : LSt) x1 => [some (tv (rLstS K rInt) x_script), some (tv rAddr l_state1), some (tv rInt x1), none, none, none, none, none, none, none, none, none, none]) (ei_rng1 (ev_int (i := 3)) h_v1) (x_script, (0 : Int), (0 : Int), (1 : Int)) (.same (.same (.lose (.lose (.lose (.lose (.lose (.lose (.lose (.lose (.lose (.lose (.lose .nil))))))))))))) (List.Sublist.refl _) (fun s1 x1 => (pt_name (by decide))) (fun s1 x1 st hb1 D' B' K1 => ?_) s7 h_s7 ?_ ?_ ?_)
    · show Im _ [some (tv (rLstS K rInt) x_script), some (tv rAddr l_state1), some (tv rInt x1), none, none, none, none, none, none, none, none, none, none] [(l_state1, tcRec (tv (rLst rInt) s1.1) s1.2.1 s1.2.2.1 s1.2.2.2)] _
      obtain ⟨v2, h_v2, hb1⟩ := bindS hb1
      refine sv_seq (sv_asg (P := tv rStr v2.1) (c1 := [(l_state1, tcRec (tv (rLst rInt) v2.2.1) v2.2.2.1 v2.2.2.2.1 v2.2.2.2.2)]) (ev_call (c1 := [(l_state1, tcRec (tv (rLst rInt) s1.1) s1.2.1 s1.2.2.1 s1.2.2.2)]) (c2 := []) (c3 := [(l_state1, tcRec (tv (rLst rInt) v2.2.1) v2.2.2.1 v2.2.2.2.1 v2.2.2.2.2)]) (R := R__law_signs K) (ea_cons (ev_var (i := 1) rfl) ea_nil) (fun G vs hvs => ⟨l_state1, s1, v2, hvs, rfl, h_v2, rfl⟩)) ?_)
      show Im _ [some (tv (rLstS K rInt) x_script), some (tv rAddr l_state1), some (tv rInt x1), some (tv rStr v2.1), none, none, none, none, none, none, none, none, none] [(l_state1, tcRec (tv (rLst rInt) v2.2.1) v2.2.2.1 v2.2.2.2.1 v2.2.2.2.2)] _
      refine nxq ?_
      obtain ⟨v3, h_v3, hb1⟩ := bindS hb1
      refine sv_seq (sv_asg (P := tv (rTup K (rPair K rBl (rTup K rInt))) v3.1) (c1 := [(l_state1, tcRec (tv (rLst rInt) v3.2.1) v3.2.2.1 v3.2.2.2.1 v3.2.2.2.2)]) (ev_call (c1 := [(l_state1, tcRec (tv (rLst rInt) v2.2.1) v2.2.2.1 v2.2.2.2.1 v2.2.2.2.2)]) (c2 := []) (c3 := [(l_state1, tcRec (tv (rLst rInt) v3.2.1) v3.2.2.1 v3.2.2.2.1 v3.2.2.2.2)]) (R := R__law_machine K) (ea_cons (ev_var (i := 1) rfl) (ea_cons (ev_var (i := 3) rfl) (ea_cons (ev_int (i := 6)) ea_nil))) (fun G vs hvs => ⟨l_state1, v2.1, (6 : Int), v2.2, v3, hvs, rfl, h_v3, rfl⟩)) ?_)
      show Im _ [some (tv (rLstS K rInt) x_script), some (tv rAddr l_state1), some (tv rInt x1), some (tv rStr v2.1), some (tv (rTup K (rPair K rBl (rTup K rInt))) v3.1), none, none, none, none, none, none, none, none] [(l_state1, tcRec (tv (rLst rInt) v3.2.1) v3.2.2.1 v3.2.2.2.1 v3.2.2.2.2)] _
      refine nxq ?_
      obtain ⟨v4, h_v4, hb1⟩ := bindS hb1
      refine sv_seq (sv_asg (P := tv (rQui K (rTup K rStr) (rTup K (rPair K rStr rBl)) (rTup K (rPair K rInt rInt)) (rTup K (rPair K rStr rInt)) (rTup K rInt)) v4) (c1 := [(l_state1, tcRec (tv (rLst rInt) v3.2.1) v3.2.2.1 v3.2.2.2.1 v3.2.2.2.2)]) (ev_callP (R := R_net_of K) (ea_cons (ev_var (i := 4) rfl) (ea_cons (ev_var (i := 3) rfl) ea_nil)) (fun G vs hvs => ⟨v3.1, v2.1, v4, hvs, rfl, h_v4, rfl⟩)) ?_)
      show Im _ [some (tv (rLstS K rInt) x_script), some (tv rAddr l_state1), some (tv rInt x1), some (tv rStr v2.1), some (tv (rTup K (rPair K rBl (rTup K rInt))) v3.1), some (tv (rQui K (rTup K rStr) (rTup K (rPair K rStr rBl)) (rTup K (rPair K rInt rInt)) (rTup K (rPair K rStr rInt)) (rTup K rInt)) v4), none, none, none, none, none, none, none] [(l_state1, tcRec (tv (rLst rInt) v3.2.1) v3.2.2.1 v3.2.2.2.1 v3.2.2.2.2)] _
      refine nxq ?_
      obtain ⟨x_passing_1, h_x_passing_1, hb1⟩ := bindS hb1
      refine sv_seq (sv_asg (P := tv (rLst rStr) x_passing_1) (c1 := [(l_state1, tcRec (tv (rLst rInt) v3.2.1) v3.2.2.1 v3.2.2.2.1 v3.2.2.2.2)]) (Ev.to (ev_frz (en_nil (rα := rStr))) (Option.some.inj h_x_passing_1)) ?_)
      show Im _ [some (tv (rLstS K rInt) x_script), some (tv rAddr l_state1), some (tv rInt x1), some (tv rStr v2.1), some (tv (rTup K (rPair K rBl (rTup K rInt))) v3.1), some (tv (rQui K (rTup K rStr) (rTup K (rPair K rStr rBl)) (rTup K (rPair K rInt rInt)) (rTup K (rPair K rStr rInt)) (rTup K rInt)) v4), some (tv (rLst rStr) x_passing_1), none, none, none, none, none, none] [(l_state1, tcRec (tv (rLst rInt) v3.2.1) v3.2.2.1 v3.2.2.2.1 v3.2.2.2.2)] _
      refine nxq ?_
      obtain ⟨v5, h_v5, hb1⟩ := bindS hb1
      obtain ⟨s3, h_s3, hb1⟩ := bindS hb1
      refine sv_seq (sv_for (vs := [7]) (r := rInt) _ (fun (s2 : (List (List Nat))) => [some (tv (rLstS K rInt) x_script), some (tv rAddr l_state1), some (tv rInt x1), some (tv rStr v2.1), some (tv (rTup K (rPair K rBl (rTup K rInt))) v3.1), some (tv (rQui K (rTup K rStr) (rTup K (rPair K rStr rBl)) (rTup K (rPair K rInt rInt)) (rTup K (rPair K rStr rInt)) (rTup K rInt)) v4), some (tv (rLst rStr) s2), none, none, none, none, none, none]) (fun (s2 : (List (List Nat))) => [(l_state1, tcRec (tv (rLst rInt) v3.2.1) v3.2.2.1 v3.2.2.2.1 v3.2.2.2.2)]) (fun (y : Bool) => []) (fun (y : Bool) => tv rBl y) (fun (s2 : (List (List Nat))) x2 => [some (tv (rLstS K rInt) x_script), some (tv rAddr l_state1), some (tv rInt x1), some (tv rStr v2.1), some (tv (rTup K (rPair K rBl (rTup K rInt))) v3.1), some (tv (rQui K (rTup K rStr) (rTup K (rPair K rStr rBl)) (rTup K (rPair K rInt rInt)) (rTup K (rPair K rStr rInt)) (rTup K rInt)) v4), some (tv (rLst rStr) s2), some (tv rInt x2), none, none, none, none, none]) (ei_rng1 (ev_if (et_test (ev_lt (ev_lenS (ev_var (i := 3) rfl)) (ev_int (i := 4)))) (ev_int (i := 5)) (ev_int (i := 4))) h_v5) x_passing_1 (.same (.same (.same (.same (.same (.same (.same (.lose (.lose (.lose (.lose (.lose (.lose .nil))))))))))))) (List.Sublist.refl _) (fun s2 x2 => (pt_name (by decide))) (fun s2 x2 st hb2 D' B' K2 => ?_) s3 h_s3 ?_ ?_ ?_)
      · show Im _ [some (tv (rLstS K rInt) x_script), some (tv rAddr l_state1), some (tv rInt x1), some (tv rStr v2.1), some (tv (rTup K (rPair K rBl (rTup K rInt))) v3.1), some (tv (rQui K (rTup K rStr) (rTup K (rPair K rStr rBl)) (rTup K (rPair K rInt rInt)) (rTup K (rPair K rStr rInt)) (rTup K rInt)) v4), some (tv (rLst rStr) s2), some (tv rInt x2), none, none, none, none, none] [(l_state1, tcRec (tv (rLst rInt) v3.2.1) v3.2.2.1 v3.2.2.2.1 v3.2.2.2.2)] _
        obtain ⟨v6, h_v6, hb2⟩ := bindS hb2
        obtain ⟨v7, h_v7, hb2⟩ := bindS hb2
        refine sv_seq (sv_asg (P := tv (rLst rStr) v7) (c1 := [(l_state1, tcRec (tv (rLst rInt) v3.2.1) v3.2.2.1 v3.2.2.2.1 v3.2.2.2.2)]) (ev_frz (en_lcF (rβ := rStr) _ _ (fun x3 => [some (tv (rLstS K rInt) x_script), some (tv rAddr l_state1), some (tv rInt x1), some (tv rStr v2.1), some (tv (rTup K (rPair K rBl (rTup K rInt))) v3.1), some (tv (rQui K (rTup K rStr) (rTup K (rPair K rStr rBl)) (rTup K (rPair K rInt rInt)) (rTup K (rPair K rStr rInt)) (rTup K rInt)) v4), some (tv (rLst rStr) s2), some (tv rInt x2), none, some (tv rStr x3), none, none, none]) (ei_lst (ev_callP (R := R__law_rows K) (ea_cons (ev_var (i := 3) rfl) (ea_cons (ev_var (i := 7) rfl) ea_nil)) (fun G vs hvs => ⟨v2.1, x2, v6, hvs, rfl, h_v6, rfl⟩))) (fun x3 => (pt_name (by decide))) (fun x3 z1 hh_z1 => by replace hh_z1 := Option.some.inj hh_z1; subst hh_z1; exact (et_test (ev_eqI (ev_lenS (ev_var (i := 9) rfl)) (ev_var (i := 7) rfl)))) (fun x3 z2 hh_z2 => by replace hh_z2 := Option.some.inj hh_z2; subst hh_z2; exact (ev_var (i := 9) rfl)) _ h_v7)) ?_)
        show Im _ [some (tv (rLstS K rInt) x_script), some (tv rAddr l_state1), some (tv rInt x1), some (tv rStr v2.1), some (tv (rTup K (rPair K rBl (rTup K rInt))) v3.1), some (tv (rQui K (rTup K rStr) (rTup K (rPair K rStr rBl)) (rTup K (rPair K rInt rInt)) (rTup K (rPair K rStr rInt)) (rTup K rInt)) v4), some (tv (rLst rStr) s2), some (tv rInt x2), none, none, none, some (tv (rLst rStr) v7), none] [(l_state1, tcRec (tv (rLst rInt) v3.2.1) v3.2.2.1 v3.2.2.2.1 v3.2.2.2.2)] _
        refine nxq ?_
        obtain ⟨v9, h_v9, hb2⟩ := bindS hb2
        refine sv_seq (sv_asg (P := tv (rLst rStr) v9) (c1 := [(l_state1, tcRec (tv (rLst rInt) v3.2.1) v3.2.2.1 v3.2.2.2.1 v3.2.2.2.2)]) (ev_frz (en_lcF (rβ := rStr) _ _ (fun x4 => [some (tv (rLstS K rInt) x_script), some (tv rAddr l_state1), some (tv rInt x1), some (tv rStr v2.1), some (tv (rTup K (rPair K rBl (rTup K rInt))) v3.1), some (tv (rQui K (rTup K rStr) (rTup K (rPair K rStr rBl)) (rTup K (rPair K rInt rInt)) (rTup K (rPair K rStr rInt)) (rTup K rInt)) v4), some (tv (rLst rStr) s2), some (tv rInt x2), none, some (tv rStr x4), none, some (tv (rLst rStr) v7), none]) (ei_lst (ev_var (i := 11) rfl)) (fun x4 => (pt_name (by decide))) (fun x4 z3 hh_z3 => by obtain ⟨v8, h_v8, hh_z3⟩ := bindS hh_z3; replace hh_z3 := Option.some.inj hh_z3; subst hh_z3; exact (et_B (ev_callP (R := R__law_told K) (ea_cons (ev_var (i := 5) rfl) (ea_cons (ev_var (i := 3) rfl) (ea_cons (ev_var (i := 9) rfl) ea_nil))) (fun G vs hvs => ⟨v4, v2.1, x4, v8, hvs, rfl, h_v8, rfl⟩)))) (fun x4 z4 hh_z4 => by replace hh_z4 := Option.some.inj hh_z4; subst hh_z4; exact (ev_var (i := 9) rfl)) _ h_v9)) ?_)
        show Im _ [some (tv (rLstS K rInt) x_script), some (tv rAddr l_state1), some (tv rInt x1), some (tv rStr v2.1), some (tv (rTup K (rPair K rBl (rTup K rInt))) v3.1), some (tv (rQui K (rTup K rStr) (rTup K (rPair K rStr rBl)) (rTup K (rPair K rInt rInt)) (rTup K (rPair K rStr rInt)) (rTup K rInt)) v4), some (tv (rLst rStr) s2), some (tv rInt x2), none, none, none, some (tv (rLst rStr) v7), some (tv (rLst rStr) v9)] [(l_state1, tcRec (tv (rLst rInt) v3.2.1) v3.2.2.1 v3.2.2.2.1 v3.2.2.2.2)] _
        refine nxq ?_
        obtain ⟨v11, h_v11, hb2⟩ := bindS hb2
        refine sv_seq (sv_if (et_test (ev_neD (dLst dStr) (Nat.le_of_ble_eq_true rfl) (ev_var (i := 12) rfl) (ev_frz (en_lcF (rβ := rStr) _ _ (fun x5 => [some (tv (rLstS K rInt) x_script), some (tv rAddr l_state1), some (tv rInt x1), some (tv rStr v2.1), some (tv (rTup K (rPair K rBl (rTup K rInt))) v3.1), some (tv (rQui K (rTup K rStr) (rTup K (rPair K rStr rBl)) (rTup K (rPair K rInt rInt)) (rTup K (rPair K rStr rInt)) (rTup K rInt)) v4), some (tv (rLst rStr) s2), some (tv rInt x2), none, some (tv rStr x5), none, some (tv (rLst rStr) v7), some (tv (rLst rStr) v9)]) (ei_lst (ev_var (i := 11) rfl)) (fun x5 => (pt_name (by decide))) (fun x5 z5 hh_z5 => by obtain ⟨v10, h_v10, hh_z5⟩ := bindS hh_z5; replace hh_z5 := Option.some.inj hh_z5; subst hh_z5; exact (et_B (ev_callP (R := R__law_passes K) (ea_cons (ev_var (i := 4) rfl) (ea_cons (ev_var (i := 3) rfl) (ea_cons (ev_var (i := 9) rfl) ea_nil))) (fun G vs hvs => ⟨v3.1, v2.1, x5, v10, hvs, rfl, h_v10, rfl⟩)))) (fun x5 z6 hh_z6 => by replace hh_z6 := Option.some.inj hh_z6; subst hh_z6; exact (ev_var (i := 9) rfl)) _ h_v11)))) (fun hb => ?_) (fun hb => ?_))
        · rw [if_pos hb] at hb2
          replace hb2 := Option.some.inj hb2
          subst hb2
          exact sv_ret (P := tv rBl false) (c1 := [(l_state1, tcRec (tv (rLst rInt) v3.2.1) v3.2.2.1 v3.2.2.2.1 v3.2.2.2.2)]) ev_bl (RT.sub (List.Sublist.cons _ List.Sublist.slnil) K2)
        · rw [if_neg (nt hb)] at hb2
          refine sv_next ?_
          refine nxq ?_
          obtain ⟨v12, h_v12, hb2⟩ := bindS hb2
          obtain ⟨v13, h_v13, hb2⟩ := bindS hb2
          refine sv_seq (sv_if (et_not (et_B (ev_callP (R := R__law_same_I K) (ea_cons (ev_callP (R := R_count K) (ea_cons (ev_var (i := 4) rfl) (ea_cons (ev_var (i := 7) rfl) ea_nil)) (fun G vs hvs => ⟨v3.1, x2, v12, hvs, rfl, h_v12, rfl⟩)) (ea_cons (ev_lenL (ev_var (i := 12) rfl)) ea_nil)) (fun G vs hvs => ⟨v12, (v9.length : Int), v13, hvs, rfl, h_v13, rfl⟩)))) (fun hb => ?_) (fun hb => ?_))
          · rw [if_pos hb] at hb2
            replace hb2 := Option.some.inj hb2
            subst hb2
            exact sv_ret (P := tv rBl false) (c1 := [(l_state1, tcRec (tv (rLst rInt) v3.2.1) v3.2.2.1 v3.2.2.2.1 v3.2.2.2.2)]) ev_bl (RT.sub (List.Sublist.cons _ List.Sublist.slnil) K2)
          · rw [if_neg (nt hb)] at hb2
            refine sv_next ?_
            refine nxq ?_
            obtain ⟨v14, h_v14, hb2⟩ := bindS hb2
            refine (sv_asg (P := tv (rLst rStr) v14) (c1 := [(l_state1, tcRec (tv (rLst rInt) v3.2.1) v3.2.2.1 v3.2.2.2.1 v3.2.2.2.2)]) (ev_catL (ev_var (i := 6) rfl) (ev_var (i := 12) rfl) h_v14) ?_)
            show Im _ [some (tv (rLstS K rInt) x_script), some (tv rAddr l_state1), some (tv rInt x1), some (tv rStr v2.1), some (tv (rTup K (rPair K rBl (rTup K rInt))) v3.1), some (tv (rQui K (rTup K rStr) (rTup K (rPair K rStr rBl)) (rTup K (rPair K rInt rInt)) (rTup K (rPair K rStr rInt)) (rTup K rInt)) v4), some (tv (rLst rStr) v14), some (tv rInt x2), none, none, none, some (tv (rLst rStr) v7), some (tv (rLst rStr) v9)] [(l_state1, tcRec (tv (rLst rInt) v3.2.1) v3.2.2.1 v3.2.2.2.1 v3.2.2.2.2)] _
            replace hb2 := Option.some.inj hb2
            subst hb2
            exact im_le (.same (.same (.same (.same (.same (.same (.same (.lose (.lose (.lose (.lose (.lose (.lose .nil))))))))))))) (im_sub (List.Sublist.refl _) K2.1)
      · intro s2 he
        replace he : s3 = .nx s2 ∨ s3 = .bk s2 := Or.inl he
        replace hb1 := go_nx hb1 he
        show Im _ [some (tv (rLstS K rInt) x_script), some (tv rAddr l_state1), some (tv rInt x1), some (tv rStr v2.1), some (tv (rTup K (rPair K rBl (rTup K rInt))) v3.1), some (tv (rQui K (rTup K rStr) (rTup K (rPair K rStr rBl)) (rTup K (rPair K rInt rInt)) (rTup K (rPair K rStr rInt)) (rTup K rInt)) v4), some (tv (rLst rStr) s2), none, none, none, none, none, none] [(l_state1, tcRec (tv (rLst rInt) v3.2.1) v3.2.2.1 v3.2.2.2.1 v3.2.2.2.2)] _
        refine nxq ?_
        obtain ⟨v15, h_v15, hb1⟩ := bindS hb1
        obtain ⟨s5, h_s5, hb1⟩ := bindS hb1
        refine sv_seq (sv_for (vs := [8]) (r := rInt) _ (fun (s4 : Unit) => [some (tv (rLstS K rInt) x_script), some (tv rAddr l_state1), some (tv rInt x1), some (tv rStr v2.1), some (tv (rTup K (rPair K rBl (rTup K rInt))) v3.1), some (tv (rQui K (rTup K rStr) (rTup K (rPair K rStr rBl)) (rTup K (rPair K rInt rInt)) (rTup K (rPair K rStr rInt)) (rTup K rInt)) v4), some (tv (rLst rStr) s2), none, none, none, none, none, none]) (fun (s4 : Unit) => [(l_state1, tcRec (tv (rLst rInt) v3.2.1) v3.2.2.1 v3.2.2.2.1 v3.2.2.2.2)]) (fun (y : Bool) => []) (fun (y : Bool) => tv rBl y) (fun (s4 : Unit) x6 => [some (tv (rLstS K rInt) x_script), some (tv rAddr l_state1), some (tv rInt x1), some (tv rStr v2.1), some (tv (rTup K (rPair K rBl (rTup K rInt))) v3.1), some (tv (rQui K (rTup K rStr) (rTup K (rPair K rStr rBl)) (rTup K (rPair K rInt rInt)) (rTup K (rPair K rStr rInt)) (rTup K rInt)) v4), some (tv (rLst rStr) s2), none, some (tv rInt x6), none, none, none, none]) (ei_rng1 (ev_min2 (ev_int (i := 9)) (ev_lenL (ev_var (i := 6) rfl))) h_v15) () (.same (.same (.same (.same (.same (.same (.same (.lose (.lose (.lose (.lose (.lose (.lose .nil))))))))))))) (List.Sublist.refl _) (fun s4 x6 => (pt_name (by decide))) (fun s4 x6 st hb3 D' B' K3 => ?_) s5 h_s5 ?_ ?_ ?_)
        · show Im _ [some (tv (rLstS K rInt) x_script), some (tv rAddr l_state1), some (tv rInt x1), some (tv rStr v2.1), some (tv (rTup K (rPair K rBl (rTup K rInt))) v3.1), some (tv (rQui K (rTup K rStr) (rTup K (rPair K rStr rBl)) (rTup K (rPair K rInt rInt)) (rTup K (rPair K rStr rInt)) (rTup K rInt)) v4), some (tv (rLst rStr) s2), none, some (tv rInt x6), none, none, none, none] [(l_state1, tcRec (tv (rLst rInt) v3.2.1) v3.2.2.1 v3.2.2.2.1 v3.2.2.2.2)] _
          obtain ⟨v16, h_v16, hb3⟩ := bindS hb3
          obtain ⟨v17, h_v17, hb3⟩ := bindS hb3
          obtain ⟨v18, h_v18, hb3⟩ := bindS hb3
          obtain ⟨v22, h_v22, hb3⟩ := bindS hb3
          refine (sv_if (et_orO (et_not (et_B (ev_callP (R := R__law_same_S K) (ea_cons (ev_callP (R := R_row_numbered K) (ea_cons (ev_var (i := 4) rfl) (ea_cons (ev_var (i := 3) rfl) (ea_cons (ev_var (i := 8) rfl) ea_nil))) (fun G vs hvs => ⟨v3.1, v2.1, x6, v16, hvs, rfl, h_v16, rfl⟩)) (ea_cons (ev_ixL (ev_var (i := 6) rfl) (ev_var (i := 8) rfl) h_v17) ea_nil)) (fun G vs hvs => ⟨v16, v17, v18, hvs, rfl, h_v18, rfl⟩)))) (fun z7 hh_z7 => by obtain ⟨v19, h_v19, hh_z7⟩ := bindS hh_z7; obtain ⟨v20, h_v20, hh_z7⟩ := bindS hh_z7; obtain ⟨v21, h_v21, hh_z7⟩ := bindS hh_z7; replace hh_z7 := Option.some.inj hh_z7; subst hh_z7; exact (et_not (et_B (ev_callP (R := R__law_same_I K) (ea_cons (ev_callP (R := R_number_of K) (ea_cons (ev_var (i := 4) rfl) (ea_cons (ev_var (i := 3) rfl) (ea_cons (ev_ixL (ev_var (i := 6) rfl) (ev_var (i := 8) rfl) h_v19) ea_nil))) (fun G vs hvs => ⟨v3.1, v2.1, v19, v20, hvs, rfl, h_v20, rfl⟩)) (ea_cons (ev_var (i := 8) rfl) ea_nil)) (fun G vs hvs => ⟨v20, x6, v21, hvs, rfl, h_v21, rfl⟩))))) h_v22) (fun hb => ?_) (fun hb => ?_))
          · rw [if_pos hb] at hb3
            replace hb3 := Option.some.inj hb3
            subst hb3
            exact sv_ret (P := tv rBl false) (c1 := [(l_state1, tcRec (tv (rLst rInt) v3.2.1) v3.2.2.1 v3.2.2.2.1 v3.2.2.2.2)]) ev_bl (RT.sub (List.Sublist.cons _ List.Sublist.slnil) K3)
          · rw [if_neg (nt hb)] at hb3
            refine sv_next ?_
            replace hb3 := Option.some.inj hb3
            subst hb3
            exact im_le (.same (.same (.same (.same (.same (.same (.same (.lose (.lose (.lose (.lose (.lose (.lose .nil))))))))))))) (im_sub (List.Sublist.refl _) K3.1)
        · intro s4 he
          replace he : s5 = .nx s4 ∨ s5 = .bk s4 := Or.inl he
          replace hb1 := go_nx hb1 he
          show Im _ [some (tv (rLstS K rInt) x_script), some (tv rAddr l_state1), some (tv rInt x1), some (tv rStr v2.1), some (tv (rTup K (rPair K rBl (rTup K rInt))) v3.1), some (tv (rQui K (rTup K rStr) (rTup K (rPair K rStr rBl)) (rTup K (rPair K rInt rInt)) (rTup K (rPair K rStr rInt)) (rTup K rInt)) v4), some (tv (rLst rStr) s2), none, none, none, none, none, none] [(l_state1, tcRec (tv (rLst rInt) v3.2.1) v3.2.2.1 v3.2.2.2.1 v3.2.2.2.2)] _
          refine nxq ?_
          obtain ⟨v23, h_v23, hb1⟩ := bindS hb1
          refine sv_seq (sv_asg (P := tv rStr v23.1) (c1 := [(l_state1, tcRec (tv (rLst rInt) v23.2.1) v23.2.2.1 v23.2.2.2.1 v23.2.2.2.2)]) (ev_call (c1 := [(l_state1, tcRec (tv (rLst rInt) v3.2.1) v3.2.2.1 v3.2.2.2.1 v3.2.2.2.2)]) (c2 := []) (c3 := [(l_state1, tcRec (tv (rLst rInt) v23.2.1) v23.2.2.1 v23.2.2.2.1 v23.2.2.2.2)]) (R := R__law_row K) (ea_cons (ev_var (i := 1) rfl) (ea_cons (ev_var (i := 3) rfl) (ea_cons (ev_int (i := 5)) ea_nil))) (fun G vs hvs => ⟨l_state1, v2.1, (5 : Int), v3.2, v23, hvs, rfl, h_v23, rfl⟩)) ?_)
          show Im _ [some (tv (rLstS K rInt) x_script), some (tv rAddr l_state1), some (tv rInt x1), some (tv rStr v2.1), some (tv (rTup K (rPair K rBl (rTup K rInt))) v3.1), some (tv (rQui K (rTup K rStr) (rTup K (rPair K rStr rBl)) (rTup K (rPair K rInt rInt)) (rTup K (rPair K rStr rInt)) (rTup K rInt)) v4), some (tv (rLst rStr) s2), none, none, some (tv rStr v23.1), none, none, none] [(l_state1, tcRec (tv (rLst rInt) v23.2.1) v23.2.2.1 v23.2.2.2.1 v23.2.2.2.2)] _
          refine nxq ?_
          obtain ⟨v24, h_v24, hb1⟩ := bindS hb1
          refine sv_seq (sv_asgN (c1 := [(l_state1, tcRec (tv (rLst rInt) v23.2.1) v23.2.2.1 v23.2.2.2.1 v23.2.2.2.2)]) (en_call (R := R__law_inputs K) (ea_cons (ev_var (i := 3) rfl) (ea_cons (ev_var (i := 9) rfl) ea_nil)) (fun G vs hvs => ⟨v2.1, v23.1, v24, hvs, rfl, h_v24, rfl⟩)) ?_)
          intro l_inputs1
          show Im _ [some (tv (rLstS K rInt) x_script), some (tv rAddr l_state1), some (tv rInt x1), some (tv rStr v2.1), some (tv (rTup K (rPair K rBl (rTup K rInt))) v3.1), some (tv (rQui K (rTup K rStr) (rTup K (rPair K rStr rBl)) (rTup K (rPair K rInt rInt)) (rTup K (rPair K rStr rInt)) (rTup K rInt)) v4), some (tv (rLst rStr) s2), none, none, some (tv rStr v23.1), some (tv rAddr l_inputs1), none, none] [(l_state1, tcRec (tv (rLst rInt) v23.2.1) v23.2.2.1 v23.2.2.2.1 v23.2.2.2.2), (l_inputs1, tcL (rTup K rBl) v24)] _
          refine nxq ?_
          obtain ⟨s6, h_s6, hb1⟩ := bindS hb1
          refine sv_seq (sv_join (Γ' := [some (tv (rLstS K rInt) x_script), some (tv rAddr l_state1), some (tv rInt x1), some (tv rStr v2.1), some (tv (rTup K (rPair K rBl (rTup K rInt))) v3.1), some (tv (rQui K (rTup K rStr) (rTup K (rPair K rStr rBl)) (rTup K (rPair K rInt rInt)) (rTup K (rPair K rStr rInt)) (rTup K rInt)) v4), some (tv (rLst rStr) s2), none, none, some (tv rStr v23.1), some (tv rAddr l_inputs1), none, none]) (c' := [(l_state1, tcRec (tv (rLst rInt) s6.1.1) s6.1.2.1 s6.1.2.2.1 s6.1.2.2.2), (l_inputs1, tcL (rTup K rBl) s6.2)]) ?_ (fun K_s6 => ?_))
          · show Im _ [some (tv (rLstS K rInt) x_script), some (tv rAddr l_state1), some (tv rInt x1), some (tv rStr v2.1), some (tv (rTup K (rPair K rBl (rTup K rInt))) v3.1), some (tv (rQui K (rTup K rStr) (rTup K (rPair K rStr rBl)) (rTup K (rPair K rInt rInt)) (rTup K (rPair K rStr rInt)) (rTup K rInt)) v4), some (tv (rLst rStr) s2), none, none, some (tv rStr v23.1), some (tv rAddr l_inputs1), none, none] [(l_state1, tcRec (tv (rLst rInt) s6.1.1) s6.1.2.1 s6.1.2.2.1 s6.1.2.2.2), (l_inputs1, tcL (rTup K rBl) s6.2)] _
            refine nxq ?_
            refine sv_frz (i := 10) (n := 1) (l := l_inputs1) rfl rfl ?_
            show Im _ [some (tv (rLstS K rInt) x_script), some (tv rAddr l_state1), some (tv rInt x1), some (tv rStr v2.1), some (tv (rTup K (rPair K rBl (rTup K rInt))) v3.1), some (tv (rQui K (rTup K rStr) (rTup K (rPair K rStr rBl)) (rTup K (rPair K rInt rInt)) (rTup K (rPair K rStr rInt)) (rTup K rInt)) v4), some (tv (rLst rStr) s2), none, none, some (tv rStr v23.1), some (tv (rLst (rTup K rBl)) s6.2), none, none] [(l_state1, tcRec (tv (rLst rInt) s6.1.1) s6.1.2.1 s6.1.2.2.1 s6.1.2.2.2)] _
            obtain ⟨v27, h_v27, hb1⟩ := bindS hb1
            obtain ⟨v28, h_v28, hb1⟩ := bindS hb1
            obtain ⟨v29, h_v29, hb1⟩ := bindS hb1
            obtain ⟨v30, h_v30, hb1⟩ := bindS hb1
            obtain ⟨v31, h_v31, hb1⟩ := bindS hb1
            obtain ⟨v32, h_v32, hb1⟩ := bindS hb1
            obtain ⟨v33, h_v33, hb1⟩ := bindS hb1
            refine (sv_if (et_test (ev_neB (ev_ixT (ev_ixL (ev_callP (R := R_run K) (ea_cons (ev_var (i := 5) rfl) (ea_cons (ev_catL (ev_var (i := 10) rfl) (ev_frz (en_lst (rα := (rTup K rBl)) (xs := [v28]) (ea_cons (ev_callP (R := R__law_bits K) (ea_cons (ev_int (i := 0)) (ea_cons (ev_callP (R := R__law_wide K) (ea_cons (ev_lenS (ev_var (i := 3) rfl)) ea_nil) (fun G vs hvs => ⟨(v2.1.length : Int), v27, hvs, rfl, h_v27, rfl⟩)) ea_nil)) (fun G vs hvs => ⟨(0 : Int), v27, v28, hvs, rfl, h_v28, rfl⟩)) ea_nil) (by show 1 ≤ sizeLine; decide))) h_v29) ea_nil)) (fun G vs hvs => ⟨v4, v29, v30, hvs, rfl, h_v30, rfl⟩)) (ev_neg (ev_int (i := 1))) h_v31) (ev_int (i := 0)) h_v32) (ev_callP (R := R__law_told K) (ea_cons (ev_var (i := 5) rfl) (ea_cons (ev_var (i := 3) rfl) (ea_cons (ev_var (i := 9) rfl) ea_nil))) (fun G vs hvs => ⟨v4, v2.1, v23.1, v33, hvs, rfl, h_v33, rfl⟩)))) (fun hb => ?_) (fun hb => ?_))
            · rw [if_pos hb] at hb1
              replace hb1 := Option.some.inj hb1
              subst hb1
              exact sv_ret (P := tv rBl false) (c1 := [(l_state1, tcRec (tv (rLst rInt) s6.1.1) s6.1.2.1 s6.1.2.2.1 s6.1.2.2.2)]) ev_bl (RT.sub (List.Sublist.cons _ List.Sublist.slnil) K1)
            · rw [if_neg (nt hb)] at hb1
              refine sv_next ?_
              replace hb1 := Option.some.inj hb1
              subst hb1
              exact im_le (.same (.same (.lose (.lose (.lose (.lose (.lose (.lose (.lose (.lose (.lose (.lose (.lose .nil))))))))))))) (im_sub (List.Sublist.refl _) K1.1)
          · refine sv_if (et_test (ev_eqI (ev_lenS (ev_var (i := 3) rfl)) (ev_int (i := 3)))) (fun hb => ?_) (fun hb => ?_)
            · rw [if_pos hb] at h_s6
              obtain ⟨v25, h_v25, h_s6⟩ := bindS h_s6
              obtain ⟨v26, h_v26, h_s6⟩ := bindS h_s6
              refine (sv_drop (P := tv rNon ()) (c1 := [(l_state1, tcRec (tv (rLst rInt) v25.2.1) v25.2.2.1 v25.2.2.2.1 v25.2.2.2.2), (l_inputs1, tcL (rTup K rBl) v26)]) (ev_ins (n := 1) (l := l_inputs1) (xs1 := v24) (ev_var (i := 10) rfl) (List.mem_of_getElem? (i := 1) rfl) (ev_call (c1 := [(l_state1, tcRec (tv (rLst rInt) v23.2.1) v23.2.2.1 v23.2.2.2.1 v23.2.2.2.2)]) (c2 := [(l_inputs1, tcL (rTup K rBl) v24)]) (c3 := [(l_state1, tcRec (tv (rLst rInt) v25.2.1) v25.2.2.1 v25.2.2.2.1 v25.2.2.2.2)]) (R := R__law_next K) (ea_cons (ev_var (i := 1) rfl) (ea_cons (ev_add (ev_lenO (ev_var (i := 10) rfl) (List.mem_of_getElem? (i := 1) rfl)) (ev_int (i := 1))) ea_nil)) (fun G vs hvs => ⟨l_state1, ((v24.length : Int) + (1 : Int)), v23.2, v25, hvs, rfl, h_v25, rfl⟩)) (ev_tupH (xs := [true, true]) (ea_cons ev_bl (ea_cons ev_bl ea_nil)) (by show 2 ≤ sizeLine; decide)) rfl h_v26) ?_)
              show Im _ [some (tv (rLstS K rInt) x_script), some (tv rAddr l_state1), some (tv rInt x1), some (tv rStr v2.1), some (tv (rTup K (rPair K rBl (rTup K rInt))) v3.1), some (tv (rQui K (rTup K rStr) (rTup K (rPair K rStr rBl)) (rTup K (rPair K rInt rInt)) (rTup K (rPair K rStr rInt)) (rTup K rInt)) v4), some (tv (rLst rStr) s2), none, none, some (tv rStr v23.1), some (tv rAddr l_inputs1), none, none] [(l_state1, tcRec (tv (rLst rInt) v25.2.1) v25.2.2.1 v25.2.2.2.1 v25.2.2.2.2), (l_inputs1, tcL (rTup K rBl) v26)] _
              replace h_s6 := Option.some.inj h_s6
              subst h_s6
              exact im_le (.same (.same (.same (.same (.same (.same (.same (.lose (.lose (.same (.same (.lose (.lose .nil))))))))))))) (im_sub (List.Sublist.refl _) K_s6)
            · rw [if_neg (nt hb)] at h_s6
              refine sv_next ?_
              replace h_s6 := Option.some.inj h_s6
              subst h_s6
              exact im_le (.same (.same (.same (.same (.same (.same (.same (.lose (.lose (.same (.same (.lose (.lose .nil))))))))))))) (im_sub (List.Sublist.refl _) K_s6)
        · intro s4 he
          replace he : s5 = .nx s4 ∨ s5 = .bk s4 := Or.inr he
          replace hb1 := go_nx hb1 he
          show Im _ [some (tv (rLstS K rInt) x_script), some (tv rAddr l_state1), some (tv rInt x1), some (tv rStr v2.1), some (tv (rTup K (rPair K rBl (rTup K rInt))) v3.1), some (tv (rQui K (rTup K rStr) (rTup K (rPair K rStr rBl)) (rTup K (rPair K rInt rInt)) (rTup K (rPair K rStr rInt)) (rTup K rInt)) v4), some (tv (rLst rStr) s2), none, none, none, none, none, none] [(l_state1, tcRec (tv (rLst rInt) v3.2.1) v3.2.2.1 v3.2.2.2.1 v3.2.2.2.2)] _
          refine nxq ?_
          obtain ⟨v23, h_v23, hb1⟩ := bindS hb1
          refine sv_seq (sv_asg (P := tv rStr v23.1) (c1 := [(l_state1, tcRec (tv (rLst rInt) v23.2.1) v23.2.2.1 v23.2.2.2.1 v23.2.2.2.2)]) (ev_call (c1 := [(l_state1, tcRec (tv (rLst rInt) v3.2.1) v3.2.2.1 v3.2.2.2.1 v3.2.2.2.2)]) (c2 := []) (c3 := [(l_state1, tcRec (tv (rLst rInt) v23.2.1) v23.2.2.1 v23.2.2.2.1 v23.2.2.2.2)]) (R := R__law_row K) (ea_cons (ev_var (i := 1) rfl) (ea_cons (ev_var (i := 3) rfl) (ea_cons (ev_int (i := 5)) ea_nil))) (fun G vs hvs => ⟨l_state1, v2.1, (5 : Int), v3.2, v23, hvs, rfl, h_v23, rfl⟩)) ?_)
          show Im _ [some (tv (rLstS K rInt) x_script), some (tv rAddr l_state1), some (tv rInt x1), some (tv rStr v2.1), some (tv (rTup K (rPair K rBl (rTup K rInt))) v3.1), some (tv (rQui K (rTup K rStr) (rTup K (rPair K rStr rBl)) (rTup K (rPair K rInt rInt)) (rTup K (rPair K rStr rInt)) (rTup K rInt)) v4), some (tv (rLst rStr) s2), none, none, some (tv rStr v23.1), none, none, none] [(l_state1, tcRec (tv (rLst rInt) v23.2.1) v23.2.2.1 v23.2.2.2.1 v23.2.2.2.2)] _
          refine nxq ?_
          obtain ⟨v24, h_v24, hb1⟩ := bindS hb1
          refine sv_seq (sv_asgN (c1 := [(l_state1, tcRec (tv (rLst rInt) v23.2.1) v23.2.2.1 v23.2.2.2.1 v23.2.2.2.2)]) (en_call (R := R__law_inputs K) (ea_cons (ev_var (i := 3) rfl) (ea_cons (ev_var (i := 9) rfl) ea_nil)) (fun G vs hvs => ⟨v2.1, v23.1, v24, hvs, rfl, h_v24, rfl⟩)) ?_)
          intro l_inputs1
          show Im _ [some (tv (rLstS K rInt) x_script), some (tv rAddr l_state1), some (tv rInt x1), some (tv rStr v2.1), some (tv (rTup K (rPair K rBl (rTup K rInt))) v3.1), some (tv (rQui K (rTup K rStr) (rTup K (rPair K rStr rBl)) (rTup K (rPair K rInt rInt)) (rTup K (rPair K rStr rInt)) (rTup K rInt)) v4), some (tv (rLst rStr) s2), none, none, some (tv rStr v23.1), some (tv rAddr l_inputs1), none, none] [(l_state1, tcRec (tv (rLst rInt) v23.2.1) v23.2.2.1 v23.2.2.2.1 v23.2.2.2.2), (l_inputs1, tcL (rTup K rBl) v24)] _
          refine nxq ?_
          obtain ⟨s6, h_s6, hb1⟩ := bindS hb1
          refine sv_seq (sv_join (Γ' := [some (tv (rLstS K rInt) x_script), some (tv rAddr l_state1), some (tv rInt x1), some (tv rStr v2.1), some (tv (rTup K (rPair K rBl (rTup K rInt))) v3.1), some (tv (rQui K (rTup K rStr) (rTup K (rPair K rStr rBl)) (rTup K (rPair K rInt rInt)) (rTup K (rPair K rStr rInt)) (rTup K rInt)) v4), some (tv (rLst rStr) s2), none, none, some (tv rStr v23.1), some (tv rAddr l_inputs1), none, none]) (c' := [(l_state1, tcRec (tv (rLst rInt) s6.1.1) s6.1.2.1 s6.1.2.2.1 s6.1.2.2.2), (l_inputs1, tcL (rTup K rBl) s6.2)]) ?_ (fun K_s6 => ?_))
          · show Im _ [some (tv (rLstS K rInt) x_script), some (tv rAddr l_state1), some (tv rInt x1), some (tv rStr v2.1), some (tv (rTup K (rPair K rBl (rTup K rInt))) v3.1), some (tv (rQui K (rTup K rStr) (rTup K (rPair K rStr rBl)) (rTup K (rPair K rInt rInt)) (rTup K (rPair K rStr rInt)) (rTup K rInt)) v4), some (tv (rLst rStr) s2), none, none, some (tv rStr v23.1), some (tv rAddr l_inputs1), none, none] [(l_state1, tcRec (tv (rLst rInt) s6.1.1) s6.1.2.1 s6.1.2.2.1 s6.1.2.2.2), (l_inputs1, tcL (rTup K rBl) s6.2)] _
            refine nxq ?_
            refine sv_frz (i := 10) (n := 1) (l := l_inputs1) rfl rfl ?_
            show Im _ [some (tv (rLstS K rInt) x_script), some (tv rAddr l_state1), some (tv rInt x1), some (tv rStr v2.1), some (tv (rTup K (rPair K rBl (rTup K rInt))) v3.1), some (tv (rQui K (rTup K rStr) (rTup K (rPair K rStr rBl)) (rTup K (rPair K rInt rInt)) (rTup K (rPair K rStr rInt)) (rTup K rInt)) v4), some (tv (rLst rStr) s2), none, none, some (tv rStr v23.1), some (tv (rLst (rTup K rBl)) s6.2), none, none] [(l_state1, tcRec (tv (rLst rInt) s6.1.1) s6.1.2.1 s6.1.2.2.1 s6.1.2.2.2)] _
            obtain ⟨v27, h_v27, hb1⟩ := bindS hb1
            obtain ⟨v28, h_v28, hb1⟩ := bindS hb1
            obtain ⟨v29, h_v29, hb1⟩ := bindS hb1
            obtain ⟨v30, h_v30, hb1⟩ := bindS hb1
            obtain ⟨v31, h_v31, hb1⟩ := bindS hb1
            obtain ⟨v32, h_v32, hb1⟩ := bindS hb1
            obtain ⟨v33, h_v33, hb1⟩ := bindS hb1
            refine (sv_if (et_test (ev_neB (ev_ixT (ev_ixL (ev_callP (R := R_run K) (ea_cons (ev_var (i := 5) rfl) (ea_cons (ev_catL (ev_var (i := 10) rfl) (ev_frz (en_lst (rα := (rTup K rBl)) (xs := [v28]) (ea_cons (ev_callP (R := R__law_bits K) (ea_cons (ev_int (i := 0)) (ea_cons (ev_callP (R := R__law_wide K) (ea_cons (ev_lenS (ev_var (i := 3) rfl)) ea_nil) (fun G vs hvs => ⟨(v2.1.length : Int), v27, hvs, rfl, h_v27, rfl⟩)) ea_nil)) (fun G vs hvs => ⟨(0 : Int), v27, v28, hvs, rfl, h_v28, rfl⟩)) ea_nil) (by show 1 ≤ sizeLine; decide))) h_v29) ea_nil)) (fun G vs hvs => ⟨v4, v29, v30, hvs, rfl, h_v30, rfl⟩)) (ev_neg (ev_int (i := 1))) h_v31) (ev_int (i := 0)) h_v32) (ev_callP (R := R__law_told K) (ea_cons (ev_var (i := 5) rfl) (ea_cons (ev_var (i := 3) rfl) (ea_cons (ev_var (i := 9) rfl) ea_nil))) (fun G vs hvs => ⟨v4, v2.1, v23.1, v33, hvs, rfl, h_v33, rfl⟩)))) (fun hb => ?_) (fun hb => ?_))
            · rw [if_pos hb] at hb1
              replace hb1 := Option.some.inj hb1
              subst hb1
              exact sv_ret (P := tv rBl false) (c1 := [(l_state1, tcRec (tv (rLst rInt) s6.1.1) s6.1.2.1 s6.1.2.2.1 s6.1.2.2.2)]) ev_bl (RT.sub (List.Sublist.cons _ List.Sublist.slnil) K1)
            · rw [if_neg (nt hb)] at hb1
              refine sv_next ?_
              replace hb1 := Option.some.inj hb1
              subst hb1
              exact im_le (.same (.same (.lose (.lose (.lose (.lose (.lose (.lose (.lose (.lose (.lose (.lose (.lose .nil))))))))))))) (im_sub (List.Sublist.refl _) K1.1)
          · refine sv_if (et_test (ev_eqI (ev_lenS (ev_var (i := 3) rfl)) (ev_int (i := 3)))) (fun hb => ?_) (fun hb => ?_)
            · rw [if_pos hb] at h_s6
              obtain ⟨v25, h_v25, h_s6⟩ := bindS h_s6
              obtain ⟨v26, h_v26, h_s6⟩ := bindS h_s6
              refine (sv_drop (P := tv rNon ()) (c1 := [(l_state1, tcRec (tv (rLst rInt) v25.2.1) v25.2.2.1 v25.2.2.2.1 v25.2.2.2.2), (l_inputs1, tcL (rTup K rBl) v26)]) (ev_ins (n := 1) (l := l_inputs1) (xs1 := v24) (ev_var (i := 10) rfl) (List.mem_of_getElem? (i := 1) rfl) (ev_call (c1 := [(l_state1, tcRec (tv (rLst rInt) v23.2.1) v23.2.2.1 v23.2.2.2.1 v23.2.2.2.2)]) (c2 := [(l_inputs1, tcL (rTup K rBl) v24)]) (c3 := [(l_state1, tcRec (tv (rLst rInt) v25.2.1) v25.2.2.1 v25.2.2.2.1 v25.2.2.2.2)]) (R := R__law_next K) (ea_cons (ev_var (i := 1) rfl) (ea_cons (ev_add (ev_lenO (ev_var (i := 10) rfl) (List.mem_of_getElem? (i := 1) rfl)) (ev_int (i := 1))) ea_nil)) (fun G vs hvs => ⟨l_state1, ((v24.length : Int) + (1 : Int)), v23.2, v25, hvs, rfl, h_v25, rfl⟩)) (ev_tupH (xs := [true, true]) (ea_cons ev_bl (ea_cons ev_bl ea_nil)) (by show 2 ≤ sizeLine; decide)) rfl h_v26) ?_)
              show Im _ [some (tv (rLstS K rInt) x_script), some (tv rAddr l_state1), some (tv rInt x1), some (tv rStr v2.1), some (tv (rTup K (rPair K rBl (rTup K rInt))) v3.1), some (tv (rQui K (rTup K rStr) (rTup K (rPair K rStr rBl)) (rTup K (rPair K rInt rInt)) (rTup K (rPair K rStr rInt)) (rTup K rInt)) v4), some (tv (rLst rStr) s2), none, none, some (tv rStr v23.1), some (tv rAddr l_inputs1), none, none] [(l_state1, tcRec (tv (rLst rInt) v25.2.1) v25.2.2.1 v25.2.2.2.1 v25.2.2.2.2), (l_inputs1, tcL (rTup K rBl) v26)] _
              replace h_s6 := Option.some.inj h_s6
              subst h_s6
              exact im_le (.same (.same (.same (.same (.same (.same (.same (.lose (.lose (.same (.same (.lose (.lose .nil))))))))))))) (im_sub (List.Sublist.refl _) K_s6)
            · rw [if_neg (nt hb)] at h_s6
              refine sv_next ?_
              replace h_s6 := Option.some.inj h_s6
              subst h_s6
              exact im_le (.same (.same (.same (.same (.same (.same (.same (.lose (.lose (.same (.same (.lose (.lose .nil))))))))))))) (im_sub (List.Sublist.refl _) K_s6)
        · intro y1 he
          replace hb1 := go_rt hb1 he
          replace hb1 := Option.some.inj hb1
          subst hb1
          exact K1
      · intro s2 he
        replace he : s3 = .nx s2 ∨ s3 = .bk s2 := Or.inr he
        replace hb1 := go_nx hb1 he
        show Im _ [some (tv (rLstS K rInt) x_script), some (tv rAddr l_state1), some (tv rInt x1), some (tv rStr v2.1), some (tv (rTup K (rPair K rBl (rTup K rInt))) v3.1), some (tv (rQui K (rTup K rStr) (rTup K (rPair K rStr rBl)) (rTup K (rPair K rInt rInt)) (rTup K (rPair K rStr rInt)) (rTup K rInt)) v4), some (tv (rLst rStr) s2), none, none, none, none, none, none] [(l_state1, tcRec (tv (rLst rInt) v3.2.1) v3.2.2.1 v3.2.2.2.1 v3.2.2.2.2)] _
        refine nxq ?_
        obtain ⟨v15, h_v15, hb1⟩ := bindS hb1
        obtain ⟨s5, h_s5, hb1⟩ := bindS hb1
        refine sv_seq (sv_for (vs := [8]) (r := rInt) _ (fun (s4 : Unit) => [some (tv (rLstS K rInt) x_script), some (tv rAddr l_state1), some (tv rInt x1), some (tv rStr v2.1), some (tv (rTup K (rPair K rBl (rTup K rInt))) v3.1), some (tv (rQui K (rTup K rStr) (rTup K (rPair K rStr rBl)) (rTup K (rPair K rInt rInt)) (rTup K (rPair K rStr rInt)) (rTup K rInt)) v4), some (tv (rLst rStr) s2), none, none, none, none, none, none]) (fun (s4 : Unit) => [(l_state1, tcRec (tv (rLst rInt) v3.2.1) v3.2.2.1 v3.2.2.2.1 v3.2.2.2.2)]) (fun (y : Bool) => []) (fun (y : Bool) => tv rBl y) (fun (s4 : Unit) x6 => [some (tv (rLstS K rInt) x_script), some (tv rAddr l_state1), some (tv rInt x1), some (tv rStr v2.1), some (tv (rTup K (rPair K rBl (rTup K rInt))) v3.1), some (tv (rQui K (rTup K rStr) (rTup K (rPair K rStr rBl)) (rTup K (rPair K rInt rInt)) (rTup K (rPair K rStr rInt)) (rTup K rInt)) v4), some (tv (rLst rStr) s2), none, some (tv rInt x6), none, none, none, none]) (ei_rng1 (ev_min2 (ev_int (i := 9)) (ev_lenL (ev_var (i := 6) rfl))) h_v15) () (.same (.same (.same (.same (.same (.same (.same (.lose (.lose (.lose (.lose (.lose (.lose .nil))))))))))))) (List.Sublist.refl _) (fun s4 x6 => (pt_name (by decide))) (fun s4 x6 st hb3 D' B' K3 => ?_) s5 h_s5 ?_ ?_ ?_)
        · show Im _ [some (tv (rLstS K rInt) x_script), some (tv rAddr l_state1), some (tv rInt x1), some (tv rStr v2.1), some (tv (rTup K (rPair K rBl (rTup K rInt))) v3.1), some (tv (rQui K (rTup K rStr) (rTup K (rPair K rStr rBl)) (rTup K (rPair K rInt rInt)) (rTup K (rPair K rStr rInt)) (rTup K rInt)) v4), some (tv (rLst rStr) s2), none, some (tv rInt x6), none, none, none, none] [(l_state1, tcRec (tv (rLst rInt) v3.2.1) v3.2.2.1 v3.2.2.2.1 v3.2.2.2.2)] _
          obtain ⟨v16, h_v16, hb3⟩ := bindS hb3
          obtain ⟨v17, h_v17, hb3⟩ := bindS hb3
          obtain ⟨v18, h_v18, hb3⟩ := bindS hb3
          obtain ⟨v22, h_v22, hb3⟩ := bindS hb3
          refine (sv_if (et_orO (et_not (et_B (ev_callP (R := R__law_same_S K) (ea_cons (ev_callP (R := R_row_numbered K) (ea_cons (ev_var (i := 4) rfl) (ea_cons (ev_var (i := 3) rfl) (ea_cons (ev_var (i := 8) rfl) ea_nil))) (fun G vs hvs => ⟨v3.1, v2.1, x6, v16, hvs, rfl, h_v16, rfl⟩)) (ea_cons (ev_ixL (ev_var (i := 6) rfl) (ev_var (i := 8) rfl) h_v17) ea_nil)) (fun G vs hvs => ⟨v16, v17, v18, hvs, rfl, h_v18, rfl⟩)))) (fun z7 hh_z7 => by obtain ⟨v19, h_v19, hh_z7⟩ := bindS hh_z7; obtain ⟨v20, h_v20, hh_z7⟩ := bindS hh_z7; obtain ⟨v21, h_v21, hh_z7⟩ := bindS hh_z7; replace hh_z7 := Option.some.inj hh_z7; subst hh_z7; exact (et_not (et_B (ev_callP (R := R__law_same_I K) (ea_cons (ev_callP (R := R_number_of K) (ea_cons (ev_var (i := 4) rfl) (ea_cons (ev_var (i := 3) rfl) (ea_cons (ev_ixL (ev_var (i := 6) rfl) (ev_var (i := 8) rfl) h_v19) ea_nil))) (fun G vs hvs => ⟨v3.1, v2.1, v19, v20, hvs, rfl, h_v20, rfl⟩)) (ea_cons (ev_var (i := 8) rfl) ea_nil)) (fun G vs hvs => ⟨v20, x6, v21, hvs, rfl, h_v21, rfl⟩))))) h_v22) (fun hb => ?_) (fun hb => ?_))
          · rw [if_pos hb] at hb3
            replace hb3 := Option.some.inj hb3
            subst hb3
            exact sv_ret (P := tv rBl false) (c1 := [(l_state1, tcRec (tv (rLst rInt) v3.2.1) v3.2.2.1 v3.2.2.2.1 v3.2.2.2.2)]) ev_bl (RT.sub (List.Sublist.cons _ List.Sublist.slnil) K3)
          · rw [if_neg (nt hb)] at hb3
            refine sv_next ?_
            replace hb3 := Option.some.inj hb3
            subst hb3
            exact im_le (.same (.same (.same (.same (.same (.same (.same (.lose (.lose (.lose (.lose (.lose (.lose .nil))))))))))))) (im_sub (List.Sublist.refl _) K3.1)
        · intro s4 he
          replace he : s5 = .nx s4 ∨ s5 = .bk s4 := Or.inl he
          replace hb1 := go_nx hb1 he
          show Im _ [some (tv (rLstS K rInt) x_script), some (tv rAddr l_state1), some (tv rInt x1), some (tv rStr v2.1), some (tv (rTup K (rPair K rBl (rTup K rInt))) v3.1), some (tv (rQui K (rTup K rStr) (rTup K (rPair K rStr rBl)) (rTup K (rPair K rInt rInt)) (rTup K (rPair K rStr rInt)) (rTup K rInt)) v4), some (tv (rLst rStr) s2), none, none, none, none, none, none] [(l_state1, tcRec (tv (rLst rInt) v3.2.1) v3.2.2.1 v3.2.2.2.1 v3.2.2.2.2)] _
          refine nxq ?_
          obtain ⟨v23, h_v23, hb1⟩ := bindS hb1
          refine sv_seq (sv_asg (P := tv rStr v23.1) (c1 := [(l_state1, tcRec (tv (rLst rInt) v23.2.1) v23.2.2.1 v23.2.2.2.1 v23.2.2.2.2)]) (ev_call (c1 := [(l_state1, tcRec (tv (rLst rInt) v3.2.1) v3.2.2.1 v3.2.2.2.1 v3.2.2.2.2)]) (c2 := []) (c3 := [(l_state1, tcRec (tv (rLst rInt) v23.2.1) v23.2.2.1 v23.2.2.2.1 v23.2.2.2.2)]) (R := R__law_row K) (ea_cons (ev_var (i := 1) rfl) (ea_cons (ev_var (i := 3) rfl) (ea_cons (ev_int (i := 5)) ea_nil))) (fun G vs hvs => ⟨l_state1, v2.1, (5 : Int), v3.2, v23, hvs, rfl, h_v23, rfl⟩)) ?_)
          show Im _ [some (tv (rLstS K rInt) x_script), some (tv rAddr l_state1), some (tv rInt x1), some (tv rStr v2.1), some (tv (rTup K (rPair K rBl (rTup K rInt))) v3.1), some (tv (rQui K (rTup K rStr) (rTup K (rPair K rStr rBl)) (rTup K (rPair K rInt rInt)) (rTup K (rPair K rStr rInt)) (rTup K rInt)) v4), some (tv (rLst rStr) s2), none, none, some (tv rStr v23.1), none, none, none] [(l_state1, tcRec (tv (rLst rInt) v23.2.1) v23.2.2.1 v23.2.2.2.1 v23.2.2.2.2)] _
          refine nxq ?_
          obtain ⟨v24, h_v24, hb1⟩ := bindS hb1
          refine sv_seq (sv_asgN (c1 := [(l_state1, tcRec (tv (rLst rInt) v23.2.1) v23.2.2.1 v23.2.2.2.1 v23.2.2.2.2)]) (en_call (R := R__law_inputs K) (ea_cons (ev_var (i := 3) rfl) (ea_cons (ev_var (i := 9) rfl) ea_nil)) (fun G vs hvs => ⟨v2.1, v23.1, v24, hvs, rfl, h_v24, rfl⟩)) ?_)
          intro l_inputs1
          show Im _ [some (tv (rLstS K rInt) x_script), some (tv rAddr l_state1), some (tv rInt x1), some (tv rStr v2.1), some (tv (rTup K (rPair K rBl (rTup K rInt))) v3.1), some (tv (rQui K (rTup K rStr) (rTup K (rPair K rStr rBl)) (rTup K (rPair K rInt rInt)) (rTup K (rPair K rStr rInt)) (rTup K rInt)) v4), some (tv (rLst rStr) s2), none, none, some (tv rStr v23.1), some (tv rAddr l_inputs1), none, none] [(l_state1, tcRec (tv (rLst rInt) v23.2.1) v23.2.2.1 v23.2.2.2.1 v23.2.2.2.2), (l_inputs1, tcL (rTup K rBl) v24)] _
          refine nxq ?_
          obtain ⟨s6, h_s6, hb1⟩ := bindS hb1
          refine sv_seq (sv_join (Γ' := [some (tv (rLstS K rInt) x_script), some (tv rAddr l_state1), some (tv rInt x1), some (tv rStr v2.1), some (tv (rTup K (rPair K rBl (rTup K rInt))) v3.1), some (tv (rQui K (rTup K rStr) (rTup K (rPair K rStr rBl)) (rTup K (rPair K rInt rInt)) (rTup K (rPair K rStr rInt)) (rTup K rInt)) v4), some (tv (rLst rStr) s2), none, none, some (tv rStr v23.1), some (tv rAddr l_inputs1), none, none]) (c' := [(l_state1, tcRec (tv (rLst rInt) s6.1.1) s6.1.2.1 s6.1.2.2.1 s6.1.2.2.2), (l_inputs1, tcL (rTup K rBl) s6.2)]) ?_ (fun K_s6 => ?_))
          · show Im _ [some (tv (rLstS K rInt) x_script), some (tv rAddr l_state1), some (tv rInt x1), some (tv rStr v2.1), some (tv (rTup K (rPair K rBl (rTup K rInt))) v3.1), some (tv (rQui K (rTup K rStr) (rTup K (rPair K rStr rBl)) (rTup K (rPair K rInt rInt)) (rTup K (rPair K rStr rInt)) (rTup K rInt)) v4), some (tv (rLst rStr) s2), none, none, some (tv rStr v23.1), some (tv rAddr l_inputs1), none, none] [(l_state1, tcRec (tv (rLst rInt) s6.1.1) s6.1.2.1 s6.1.2.2.1 s6.1.2.2.2), (l_inputs1, tcL (rTup K rBl) s6.2)] _
            refine nxq ?_
            refine sv_frz (i := 10) (n := 1) (l := l_inputs1) rfl rfl ?_
            show Im _ [some (tv (rLstS K rInt) x_script), some (tv rAddr l_state1), some (tv rInt x1), some (tv rStr v2.1), some (tv (rTup K (rPair K rBl (rTup K rInt))) v3.1), some (tv (rQui K (rTup K rStr) (rTup K (rPair K rStr rBl)) (rTup K (rPair K rInt rInt)) (rTup K (rPair K rStr rInt)) (rTup K rInt)) v4), some (tv (rLst rStr) s2), none, none, some (tv rStr v23.1), some (tv (rLst (rTup K rBl)) s6.2), none, none] [(l_state1, tcRec (tv (rLst rInt) s6.1.1) s6.1.2.1 s6.1.2.2.1 s6.1.2.2.2)] _
            obtain ⟨v27, h_v27, hb1⟩ := bindS hb1
            obtain ⟨v28, h_v28, hb1⟩ := bindS hb1
            obtain ⟨v29, h_v29, hb1⟩ := bindS hb1
            obtain ⟨v30, h_v30, hb1⟩ := bindS hb1
            obtain ⟨v31, h_v31, hb1⟩ := bindS hb1
            obtain ⟨v32, h_v32, hb1⟩ := bindS hb1
            obtain ⟨v33, h_v33, hb1⟩ := bindS hb1
            refine (sv_if (et_test (ev_neB (ev_ixT (ev_ixL (ev_callP (R := R_run K) (ea_cons (ev_var (i := 5) rfl) (ea_cons (ev_catL (ev_var (i := 10) rfl) (ev_frz (en_lst (rα := (rTup K rBl)) (xs := [v28]) (ea_cons (ev_callP (R := R__law_bits K) (ea_cons (ev_int (i := 0)) (ea_cons (ev_callP (R := R__law_wide K) (ea_cons (ev_lenS (ev_var (i := 3) rfl)) ea_nil) (fun G vs hvs => ⟨(v2.1.length : Int), v27, hvs, rfl, h_v27, rfl⟩)) ea_nil)) (fun G vs hvs => ⟨(0 : Int), v27, v28, hvs, rfl, h_v28, rfl⟩)) ea_nil) (by show 1 ≤ sizeLine; decide))) h_v29) ea_nil)) (fun G vs hvs => ⟨v4, v29, v30, hvs, rfl, h_v30, rfl⟩)) (ev_neg (ev_int (i := 1))) h_v31) (ev_int (i := 0)) h_v32) (ev_callP (R := R__law_told K) (ea_cons (ev_var (i := 5) rfl) (ea_cons (ev_var (i := 3) rfl) (ea_cons (ev_var (i := 9) rfl) ea_nil))) (fun G vs hvs => ⟨v4, v2.1, v23.1, v33, hvs, rfl, h_v33, rfl⟩)))) (fun hb => ?_) (fun hb => ?_))
            · rw [if_pos hb] at hb1
              replace hb1 := Option.some.inj hb1
              subst hb1
              exact sv_ret (P := tv rBl false) (c1 := [(l_state1, tcRec (tv (rLst rInt) s6.1.1) s6.1.2.1 s6.1.2.2.1 s6.1.2.2.2)]) ev_bl (RT.sub (List.Sublist.cons _ List.Sublist.slnil) K1)
            · rw [if_neg (nt hb)] at hb1
              refine sv_next ?_
              replace hb1 := Option.some.inj hb1
              subst hb1
              exact im_le (.same (.same (.lose (.lose (.lose (.lose (.lose (.lose (.lose (.lose (.lose (.lose (.lose .nil))))))))))))) (im_sub (List.Sublist.refl _) K1.1)
          · refine sv_if (et_test (ev_eqI (ev_lenS (ev_var (i := 3) rfl)) (ev_int (i := 3)))) (fun hb => ?_) (fun hb => ?_)
            · rw [if_pos hb] at h_s6
              obtain ⟨v25, h_v25, h_s6⟩ := bindS h_s6
              obtain ⟨v26, h_v26, h_s6⟩ := bindS h_s6
              refine (sv_drop (P := tv rNon ()) (c1 := [(l_state1, tcRec (tv (rLst rInt) v25.2.1) v25.2.2.1 v25.2.2.2.1 v25.2.2.2.2), (l_inputs1, tcL (rTup K rBl) v26)]) (ev_ins (n := 1) (l := l_inputs1) (xs1 := v24) (ev_var (i := 10) rfl) (List.mem_of_getElem? (i := 1) rfl) (ev_call (c1 := [(l_state1, tcRec (tv (rLst rInt) v23.2.1) v23.2.2.1 v23.2.2.2.1 v23.2.2.2.2)]) (c2 := [(l_inputs1, tcL (rTup K rBl) v24)]) (c3 := [(l_state1, tcRec (tv (rLst rInt) v25.2.1) v25.2.2.1 v25.2.2.2.1 v25.2.2.2.2)]) (R := R__law_next K) (ea_cons (ev_var (i := 1) rfl) (ea_cons (ev_add (ev_lenO (ev_var (i := 10) rfl) (List.mem_of_getElem? (i := 1) rfl)) (ev_int (i := 1))) ea_nil)) (fun G vs hvs => ⟨l_state1, ((v24.length : Int) + (1 : Int)), v23.2, v25, hvs, rfl, h_v25, rfl⟩)) (ev_tupH (xs := [true, true]) (ea_cons ev_bl (ea_cons ev_bl ea_nil)) (by show 2 ≤ sizeLine; decide)) rfl h_v26) ?_)
              show Im _ [some (tv (rLstS K rInt) x_script), some (tv rAddr l_state1), some (tv rInt x1), some (tv rStr v2.1), some (tv (rTup K (rPair K rBl (rTup K rInt))) v3.1), some (tv (rQui K (rTup K rStr) (rTup K (rPair K rStr rBl)) (rTup K (rPair K rInt rInt)) (rTup K (rPair K rStr rInt)) (rTup K rInt)) v4), some (tv (rLst rStr) s2), none, none, some (tv rStr v23.1), some (tv rAddr l_inputs1), none, none] [(l_state1, tcRec (tv (rLst rInt) v25.2.1) v25.2.2.1 v25.2.2.2.1 v25.2.2.2.2), (l_inputs1, tcL (rTup K rBl) v26)] _
              replace h_s6 := Option.some.inj h_s6
              subst h_s6
              exact im_le (.same (.same (.same (.same (.same (.same (.same (.lose (.lose (.same (.same (.lose (.lose .nil))))))))))))) (im_sub (List.Sublist.refl _) K_s6)
            · rw [if_neg (nt hb)] at h_s6
              refine sv_next ?_
              replace h_s6 := Option.some.inj h_s6
              subst h_s6
              exact im_le (.same (.same (.same (.same (.same (.same (.same (.lose (.lose (.same (.same (.lose (.lose .nil))))))))))))) (im_sub (List.Sublist.refl _) K_s6)
        · intro s4 he
          replace he : s5 = .nx s4 ∨ s5 = .bk s4 := Or.inr he
          replace hb1 := go_nx hb1 he
          show Im _ [some (tv (rLstS K rInt) x_script), some (tv rAddr l_state1), some (tv rInt x1), some (tv rStr v2.1), some (tv (rTup K (rPair K rBl (rTup K rInt))) v3.1), some (tv (rQui K (rTup K rStr) (rTup K (rPair K rStr rBl)) (rTup K (rPair K rInt rInt)) (rTup K (rPair K rStr rInt)) (rTup K rInt)) v4), some (tv (rLst rStr) s2), none, none, none, none, none, none] [(l_state1, tcRec (tv (rLst rInt) v3.2.1) v3.2.2.1 v3.2.2.2.1 v3.2.2.2.2)] _
          refine nxq ?_
          obtain ⟨v23, h_v23, hb1⟩ := bindS hb1
          refine sv_seq (sv_asg (P := tv rStr v23.1) (c1 := [(l_state1, tcRec (tv (rLst rInt) v23.2.1) v23.2.2.1 v23.2.2.2.1 v23.2.2.2.2)]) (ev_call (c1 := [(l_state1, tcRec (tv (rLst rInt) v3.2.1) v3.2.2.1 v3.2.2.2.1 v3.2.2.2.2)]) (c2 := []) (c3 := [(l_state1, tcRec (tv (rLst rInt) v23.2.1) v23.2.2.1 v23.2.2.2.1 v23.2.2.2.2)]) (R := R__law_row K) (ea_cons (ev_var (i := 1) rfl) (ea_cons (ev_var (i := 3) rfl) (ea_cons (ev_int (i := 5)) ea_nil))) (fun G vs hvs => ⟨l_state1, v2.1, (5 : Int), v3.2, v23, hvs, rfl, h_v23, rfl⟩)) ?_)
          show Im _ [some (tv (rLstS K rInt) x_script), some (tv rAddr l_state1), some (tv rInt x1), some (tv rStr v2.1), some (tv (rTup K (rPair K rBl (rTup K rInt))) v3.1), some (tv (rQui K (rTup K rStr) (rTup K (rPair K rStr rBl)) (rTup K (rPair K rInt rInt)) (rTup K (rPair K rStr rInt)) (rTup K rInt)) v4), some (tv (rLst rStr) s2), none, none, some (tv rStr v23.1), none, none, none] [(l_state1, tcRec (tv (rLst rInt) v23.2.1) v23.2.2.1 v23.2.2.2.1 v23.2.2.2.2)] _
          refine nxq ?_
          obtain ⟨v24, h_v24, hb1⟩ := bindS hb1
          refine sv_seq (sv_asgN (c1 := [(l_state1, tcRec (tv (rLst rInt) v23.2.1) v23.2.2.1 v23.2.2.2.1 v23.2.2.2.2)]) (en_call (R := R__law_inputs K) (ea_cons (ev_var (i := 3) rfl) (ea_cons (ev_var (i := 9) rfl) ea_nil)) (fun G vs hvs => ⟨v2.1, v23.1, v24, hvs, rfl, h_v24, rfl⟩)) ?_)
          intro l_inputs1
          show Im _ [some (tv (rLstS K rInt) x_script), some (tv rAddr l_state1), some (tv rInt x1), some (tv rStr v2.1), some (tv (rTup K (rPair K rBl (rTup K rInt))) v3.1), some (tv (rQui K (rTup K rStr) (rTup K (rPair K rStr rBl)) (rTup K (rPair K rInt rInt)) (rTup K (rPair K rStr rInt)) (rTup K rInt)) v4), some (tv (rLst rStr) s2), none, none, some (tv rStr v23.1), some (tv rAddr l_inputs1), none, none] [(l_state1, tcRec (tv (rLst rInt) v23.2.1) v23.2.2.1 v23.2.2.2.1 v23.2.2.2.2), (l_inputs1, tcL (rTup K rBl) v24)] _
          refine nxq ?_
          obtain ⟨s6, h_s6, hb1⟩ := bindS hb1
          refine sv_seq (sv_join (Γ' := [some (tv (rLstS K rInt) x_script), some (tv rAddr l_state1), some (tv rInt x1), some (tv rStr v2.1), some (tv (rTup K (rPair K rBl (rTup K rInt))) v3.1), some (tv (rQui K (rTup K rStr) (rTup K (rPair K rStr rBl)) (rTup K (rPair K rInt rInt)) (rTup K (rPair K rStr rInt)) (rTup K rInt)) v4), some (tv (rLst rStr) s2), none, none, some (tv rStr v23.1), some (tv rAddr l_inputs1), none, none]) (c' := [(l_state1, tcRec (tv (rLst rInt) s6.1.1) s6.1.2.1 s6.1.2.2.1 s6.1.2.2.2), (l_inputs1, tcL (rTup K rBl) s6.2)]) ?_ (fun K_s6 => ?_))
          · show Im _ [some (tv (rLstS K rInt) x_script), some (tv rAddr l_state1), some (tv rInt x1), some (tv rStr v2.1), some (tv (rTup K (rPair K rBl (rTup K rInt))) v3.1), some (tv (rQui K (rTup K rStr) (rTup K (rPair K rStr rBl)) (rTup K (rPair K rInt rInt)) (rTup K (rPair K rStr rInt)) (rTup K rInt)) v4), some (tv (rLst rStr) s2), none, none, some (tv rStr v23.1), some (tv rAddr l_inputs1), none, none] [(l_state1, tcRec (tv (rLst rInt) s6.1.1) s6.1.2.1 s6.1.2.2.1 s6.1.2.2.2), (l_inputs1, tcL (rTup K rBl) s6.2)] _
            refine nxq ?_
            refine sv_frz (i := 10) (n := 1) (l := l_inputs1) rfl rfl ?_
            show Im _ [some (tv (rLstS K rInt) x_script), some (tv rAddr l_state1), some (tv rInt x1), some (tv rStr v2.1), some (tv (rTup K (rPair K rBl (rTup K rInt))) v3.1), some (tv (rQui K (rTup K rStr) (rTup K (rPair K rStr rBl)) (rTup K (rPair K rInt rInt)) (rTup K (rPair K rStr rInt)) (rTup K rInt)) v4), some (tv (rLst rStr) s2), none, none, some (tv rStr v23.1), some (tv (rLst (rTup K rBl)) s6.2), none, none] [(l_state1, tcRec (tv (rLst rInt) s6.1.1) s6.1.2.1 s6.1.2.2.1 s6.1.2.2.2)] _
            obtain ⟨v27, h_v27, hb1⟩ := bindS hb1
            obtain ⟨v28, h_v28, hb1⟩ := bindS hb1
            obtain ⟨v29, h_v29, hb1⟩ := bindS hb1
            obtain ⟨v30, h_v30, hb1⟩ := bindS hb1
            obtain ⟨v31, h_v31, hb1⟩ := bindS hb1
            obtain ⟨v32, h_v32, hb1⟩ := bindS hb1
            obtain ⟨v33, h_v33, hb1⟩ := bindS hb1
            refine (sv_if (et_test (ev_neB (ev_ixT (ev_ixL (ev_callP (R := R_run K) (ea_cons (ev_var (i := 5) rfl) (ea_cons (ev_catL (ev_var (i := 10) rfl) (ev_frz (en_lst (rα := (rTup K rBl)) (xs := [v28]) (ea_cons (ev_callP (R := R__law_bits K) (ea_cons (ev_int (i := 0)) (ea_cons (ev_callP (R := R__law_wide K) (ea_cons (ev_lenS (ev_var (i := 3) rfl)) ea_nil) (fun G vs hvs => ⟨(v2.1.length : Int), v27, hvs, rfl, h_v27, rfl⟩)) ea_nil)) (fun G vs hvs => ⟨(0 : Int), v27, v28, hvs, rfl, h_v28, rfl⟩)) ea_nil) (by show 1 ≤ sizeLine; decide))) h_v29) ea_nil)) (fun G vs hvs => ⟨v4, v29, v30, hvs, rfl, h_v30, rfl⟩)) (ev_neg (ev_int (i := 1))) h_v31) (ev_int (i := 0)) h_v32) (ev_callP (R := R__law_told K) (ea_cons (ev_var (i := 5) rfl) (ea_cons (ev_var (i := 3) rfl) (ea_cons (ev_var (i := 9) rfl) ea_nil))) (fun G vs hvs => ⟨v4, v2.1, v23.1, v33, hvs, rfl, h_v33, rfl⟩)))) (fun hb => ?_) (fun hb => ?_))
            · rw [if_pos hb] at hb1
              replace hb1 := Option.some.inj hb1
              subst hb1
              exact sv_ret (P := tv rBl false) (c1 := [(l_state1, tcRec (tv (rLst rInt) s6.1.1) s6.1.2.1 s6.1.2.2.1 s6.1.2.2.2)]) ev_bl (RT.sub (List.Sublist.cons _ List.Sublist.slnil) K1)
            · rw [if_neg (nt hb)] at hb1
              refine sv_next ?_
              replace hb1 := Option.some.inj hb1
              subst hb1
              exact im_le (.same (.same (.lose (.lose (.lose (.lose (.lose (.lose (.lose (.lose (.lose (.lose (.lose .nil))))))))))))) (im_sub (List.Sublist.refl _) K1.1)
          · refine sv_if (et_test (ev_eqI (ev_lenS (ev_var (i := 3) rfl)) (ev_int (i := 3)))) (fun hb => ?_) (fun hb => ?_)
            · rw [if_pos hb] at h_s6
              obtain ⟨v25, h_v25, h_s6⟩ := bindS h_s6
              obtain ⟨v26, h_v26, h_s6⟩ := bindS h_s6
              refine (sv_drop (P := tv rNon ()) (c1 := [(l_state1, tcRec (tv (rLst rInt) v25.2.1) v25.2.2.1 v25.2.2.2.1 v25.2.2.2.2), (l_inputs1, tcL (rTup K rBl) v26)]) (ev_ins (n := 1) (l := l_inputs1) (xs1 := v24) (ev_var (i := 10) rfl) (List.mem_of_getElem? (i := 1) rfl) (ev_call (c1 := [(l_state1, tcRec (tv (rLst rInt) v23.2.1) v23.2.2.1 v23.2.2.2.1 v23.2.2.2.2)]) (c2 := [(l_inputs1, tcL (rTup K rBl) v24)]) (c3 := [(l_state1, tcRec (tv (rLst rInt) v25.2.1) v25.2.2.1 v25.2.2.2.1 v25.2.2.2.2)]) (R := R__law_next K) (ea_cons (ev_var (i := 1) rfl) (ea_cons (ev_add (ev_lenO (ev_var (i := 10) rfl) (List.mem_of_getElem? (i := 1) rfl)) (ev_int (i := 1))) ea_nil)) (fun G vs hvs => ⟨l_state1, ((v24.length : Int) + (1 : Int)), v23.2, v25, hvs, rfl, h_v25, rfl⟩)) (ev_tupH (xs := [true, true]) (ea_cons ev_bl (ea_cons ev_bl ea_nil)) (by show 2 ≤ sizeLine; decide)) rfl h_v26) ?_)
              show Im _ [some (tv (rLstS K rInt) x_script), some (tv rAddr l_state1), some (tv rInt x1), some (tv rStr v2.1), some (tv (rTup K (rPair K rBl (rTup K rInt))) v3.1), some (tv (rQui K (rTup K rStr) (rTup K (rPair K rStr rBl)) (rTup K (rPair K rInt rInt)) (rTup K (rPair K rStr rInt)) (rTup K rInt)) v4), some (tv (rLst rStr) s2), none, none, some (tv rStr v23.1), some (tv rAddr l_inputs1), none, none] [(l_state1, tcRec (tv (rLst rInt) v25.2.1) v25.2.2.1 v25.2.2.2.1 v25.2.2.2.2), (l_inputs1, tcL (rTup K rBl) v26)] _
              replace h_s6 := Option.some.inj h_s6
              subst h_s6
              exact im_le (.same (.same (.same (.same (.same (.same (.same (.lose (.lose (.same (.same (.lose (.lose .nil))))))))))))) (im_sub (List.Sublist.refl _) K_s6)
            · rw [if_neg (nt hb)] at h_s6
              refine sv_next ?_
              replace h_s6 := Option.some.inj h_s6
              subst h_s6
              exact im_le (.same (.same (.same (.same (.same (.same (.same (.lose (.lose (.same (.same (.lose (.lose .nil))))))))))))) (im_sub (List.Sublist.refl _) K_s6)
        · intro y1 he
          replace hb1 := go_rt hb1 he
          replace hb1 := Option.some.inj hb1
          subst hb1
          exact K1
      · intro y2 he
        replace hb1 := go_rt hb1 he
        replace hb1 := Option.some.inj hb1
        subst hb1
        exact K1
    · intro s1 he
      replace he : s7 = .nx s1 ∨ s7 = .bk s1 := Or.inl he
      replace hm := go_nx hm he
      show Im _ [some (tv (rLstS K rInt) x_script), some (tv rAddr l_state1), none, none, none, none, none, none, none, none, none, none, none] [(l_state1, tcRec (tv (rLst rInt) s1.1) s1.2.1 s1.2.2.1 s1.2.2.2)] _
      refine nxq ?_
      replace hm := Option.some.inj hm
      subst hm
      exact sv_ret (P := tv rBl true) (c1 := [(l_state1, tcRec (tv (rLst rInt) s1.1) s1.2.1 s1.2.2.1 s1.2.2.2)]) ev_bl (RT.sub (List.Sublist.cons _ List.Sublist.slnil) (fun v G' H' ap pp => hq _ _ v G' H' ⟨rfl, rfl⟩ ap pp))
    · intro s1 he
      replace he : s7 = .nx s1 ∨ s7 = .bk s1 := Or.inr he
      replace hm := go_nx hm he
      show Im _ [some (tv (rLstS K rInt) x_script), some (tv rAddr l_state1), none, none, none, none, none, none, none, none, none, none, none] [(l_state1, tcRec (tv (rLst rInt) s1.1) s1.2.1 s1.2.2.1 s1.2.2.2)] _
      refine nxq ?_
      replace hm := Option.some.inj hm
      subst hm
      exact sv_ret (P := tv rBl true) (c1 := [(l_state1, tcRec (tv (rLst rInt) s1.1) s1.2.1 s1.2.2.1 s1.2.2.2)]) ev_bl (RT.sub (List.Sublist.cons _ List.Sublist.slnil) (fun v G' H' ap pp => hq _ _ v G' H' ⟨rfl, rfl⟩ ap pp))
    · intro y3 he
      replace hm := go_rt hm he
      replace hm := Option.some.inj hm
      subst hm
      exact (fun v G' H' ap pp => hq _ _ v G' H' ⟨rfl, rfl⟩ ap pp)
end
end LW
namespace LW
open PySem L2 TW
/-! ### the option monad's loops -/
section
variable {α β γ S ρ : Type}
theorem mapO_eq {f : α → Option β} {g : α → β} : ∀ {xs : List α}, (∀ x ∈ xs, f x = some (g x)) → mapO f xs = some (xs.map g)
  | [], _ => rfl
  | x :: xs, h => by
    unfold mapO
    rw [h x List.mem_cons_self, mapO_eq fun y hy => h y (List.mem_cons_of_mem _ hy)]
    rfl
theorem mapO_ex {f : α → Option β} {P : α → β → Prop} : ∀ {xs : List α}, (∀ x ∈ xs, ∃ y, f x = some y ∧ P x y) → ∃ ys, mapO f xs = some ys ∧ ys.length = xs.length ∧ ∀ (i : Nat) x y, xs[i]? = some x → ys[i]? = some y → P x y
  | [], _ => ⟨[], rfl, rfl, fun i x y h => by simp at h⟩
  | x :: xs, h => by
    obtain ⟨y, h1, h2⟩ := h x List.mem_cons_self
    obtain ⟨ys, h3, h4, h5⟩ := mapO_ex (xs := xs) fun z hz => h z (List.mem_cons_of_mem _ hz)
    refine ⟨y :: ys, ?_, by simp [h4], fun i a b ha hb => ?_⟩
    · unfold mapO
      rw [h1, h3]
      rfl
    · cases i with
      | zero =>
        simp at ha hb
        subst ha hb
        exact h2
      | succ i => exact h5 i a b (by simpa using ha) (by simpa using hb)
theorem mapO_exM {f : α → Option β} {P : β → Prop} {xs : List α} (h : ∀ x ∈ xs, ∃ y, f x = some y ∧ P y) : ∃ ys, mapO f xs = some ys ∧ ys.length = xs.length ∧ ∀ y ∈ ys, P y := by
  obtain ⟨ys, h1, h2, h3⟩ := mapO_ex (P := fun _ y => P y) h
  refine ⟨ys, h1, h2, fun y hy => ?_⟩
  obtain ⟨i, hi, e⟩ := List.getElem_of_mem hy
  exact h3 i xs[i] y (List.getElem?_eq_getElem (by omega)) (by rw [← e]; exact List.getElem?_eq_getElem hi)
theorem filtO_eq {p : α → Option Bool} {f : α → Option β} {q : α → Bool} {g : α → β} : ∀ {xs : List α}, (∀ x ∈ xs, p x = some (q x)) → (∀ x ∈ xs, q x = true → f x = some (g x)) → filtO p f xs = some ((xs.filter q).map g)
  | [], _, _ => rfl
  | x :: xs, h, k => by
    unfold filtO
    rw [h x List.mem_cons_self, filtO_eq (xs := xs) (fun y hy => h y (List.mem_cons_of_mem _ hy)) fun y hy => k y (List.mem_cons_of_mem _ hy)]
    cases e : q x with
    | true =>
      simp only [Option.bind_some, if_true]
      rw [k x List.mem_cons_self e, List.filter_cons_of_pos e]
      rfl
    | false =>
      simp only [Option.bind_some, Bool.false_eq_true, if_false]
      rw [List.filter_cons_of_neg (by rw [e]; exact Bool.false_ne_true)]
theorem foldO_inv {f : S → α → Option S} (I : Nat → S → Prop) : ∀ {xs : List α} {s : S} (n : Nat), I n s → (∀ i x s, xs[i]? = some x → I (n + i) s → ∃ s', f s x = some s' ∧ I (n + i + 1) s') → ∃ s', foldO f s xs = some s' ∧ I (n + xs.length) s'
  | [], s, n, h, _ => ⟨s, rfl, h⟩
  | x :: xs, s, n, h, k => by
    obtain ⟨s1, h1, h2⟩ := k 0 x s rfl h
    obtain ⟨s2, h3, h4⟩ := foldO_inv I (xs := xs) (s := s1) (n + 1) h2 fun i y t hy ht => by
      have e : n + 1 + i = n + (i + 1) := by omega
      obtain ⟨s', a, b⟩ := k (i + 1) y t (by simpa using hy) (by rw [← e]; exact ht)
      exact ⟨s', a, by rw [e]; exact b⟩
    refine ⟨s2, ?_, by rw [List.length_cons, show n + (xs.length + 1) = n + 1 + xs.length by omega]; exact h4⟩
    unfold foldO
    rw [h1]
    exact h3
theorem foldO_I {f : S → α → Option S} (I : S → Prop) {xs : List α} {s : S} (h : I s) (k : ∀ x s, x ∈ xs → I s → ∃ s', f s x = some s' ∧ I s') : ∃ s', foldO f s xs = some s' ∧ I s' := by
  obtain ⟨s', a, b⟩ := foldO_inv (fun _ => I) (xs := xs) (s := s) 0 h fun i x t hx ht => k x t (List.mem_of_getElem? hx) ht
  exact ⟨s', a, b⟩
/-- a loop that never leaves -/
theorem foldB_inv {f : S → α → Option (Stp S ρ)} (I : Nat → S → Prop) : ∀ {xs : List α} {s : S} (n : Nat), I n s → (∀ i x s, xs[i]? = some x → I (n + i) s → ∃ s', f s x = some (.nx s') ∧ I (n + i + 1) s') → ∃ s', foldB f s xs = some (.nx s') ∧ I (n + xs.length) s'
  | [], s, n, h, _ => ⟨s, rfl, h⟩
  | x :: xs, s, n, h, k => by
    obtain ⟨s1, h1, h2⟩ := k 0 x s rfl h
    obtain ⟨s2, h3, h4⟩ := foldB_inv I (xs := xs) (s := s1) (n + 1) h2 fun i y t hy ht => by
      have e : n + 1 + i = n + (i + 1) := by omega
      obtain ⟨s', a, b⟩ := k (i + 1) y t (by simpa using hy) (by rw [← e]; exact ht)
      exact ⟨s', a, by rw [e]; exact b⟩
    refine ⟨s2, ?_, by rw [List.length_cons, show n + (xs.length + 1) = n + 1 + xs.length by omega]; exact h4⟩
    unfold foldB
    rw [h1]
    exact h3
theorem foldB_I {f : S → α → Option (Stp S ρ)} (I : S → Prop) {xs : List α} {s : S} (h : I s) (k : ∀ x s, x ∈ xs → I s → ∃ s', f s x = some (.nx s') ∧ I s') : ∃ s', foldB f s xs = some (.nx s') ∧ I s' := by
  obtain ⟨s', a, b⟩ := foldB_inv (fun _ => I) (xs := xs) (s := s) 0 h fun i x t hx ht => k x t (List.mem_of_getElem? hx) ht
  exact ⟨s', a, b⟩
theorem mapS_inv {f : S → α → Option (β × S)} (I : S → Prop) (P : α → β → Prop) : ∀ {xs : List α} {s : S}, I s → (∀ x s, x ∈ xs → I s → ∃ y s', f s x = some (y, s') ∧ P x y ∧ I s') → ∃ ys s', mapS f s xs = some (ys, s') ∧ ys.length = xs.length ∧ (∀ y ∈ ys, ∃ x ∈ xs, P x y) ∧ I s'
  | [], s, h, _ => ⟨[], s, rfl, rfl, fun y hy => (by cases hy), h⟩
  | x :: xs, s, h, k => by
    obtain ⟨y, s1, h1, h2, h3⟩ := k x s List.mem_cons_self h
    obtain ⟨ys, s2, h4, h5, h6, h7⟩ := mapS_inv I P (xs := xs) (s := s1) h3 fun z t hz ht => k z t (List.mem_cons_of_mem _ hz) ht
    refine ⟨y :: ys, s2, ?_, by simp [h5], fun z hz => ?_, h7⟩
    · unfold mapS
      rw [h1]
      simp only [Option.bind_some]
      rw [h4]
      rfl
    · rcases List.mem_cons.mp hz with e | hz
      · exact ⟨x, List.mem_cons_self, by rw [e]; exact h2⟩
      · obtain ⟨w, hw, p⟩ := h6 z hz
        exact ⟨w, List.mem_cons_of_mem _ hw, p⟩
theorem whileO_done {cnd : S → Option Bool} {f : S → Option S} {n : Nat} {s : S} (h : cnd s = some false) : whileO cnd f (n + 1) s = some s := by
  unfold whileO
  rw [h]
theorem whileO_step {cnd : S → Option Bool} {f : S → Option S} {n : Nat} {s s' : S} (h : cnd s = some true) (hf : f s = some s') : whileO cnd f (n + 1) s = whileO cnd f n s' := by
  rw [whileO, h]
  simp only
  rw [hf]
  rfl
/-- a while loop with a measure -/
theorem whileO_inv {cnd : S → Option Bool} {f : S → Option S} (I : S → Prop) (m : S → Nat) (hc : ∀ s, I s → cnd s = some false ∨ (cnd s = some true ∧ ∃ s', f s = some s' ∧ I s' ∧ m s' < m s)) :
    ∀ (n : Nat) (s : S), I s → m s < n → ∃ s', whileO cnd f n s = some s' ∧ I s' ∧ cnd s' = some false
  | 0, s, _, h => absurd h (Nat.not_lt_zero _)
  | n + 1, s, hI, h => by
    rcases hc s hI with e | ⟨e, s', e2, hI', hm⟩
    · exact ⟨s, whileO_done e, hI, e⟩
    · obtain ⟨t, h1, h2⟩ := whileO_inv I m hc n s' hI' (by omega)
      exact ⟨t, by rw [whileO_step e e2]; exact h1, h2⟩
/-! what an option gives -/
def Ok (o : Option β) (P : β → Prop) : Prop := ∃ y, o = some y ∧ P y
theorem Ok.bind {o : Option α} {f : α → Option β} {Q : α → Prop} {P : β → Prop} (h : Ok o Q) (k : ∀ v, Q v → Ok (f v) P) : Ok (o.bind f) P := by
  obtain ⟨v, rfl, q⟩ := h
  exact k v q
theorem Ok.eq {o : Option α} {f : α → Option β} {v : α} {P : β → Prop} (h : o = some v) (k : Ok (f v) P) : Ok (o.bind f) P := by
  subst h
  exact k
theorem Ok.pure {v : β} {P : β → Prop} (h : P v) : Ok (some v) P := ⟨v, rfl, h⟩
theorem Ok.imp {o : Option β} {P Q : β → Prop} (h : Ok o P) (k : ∀ v, P v → Q v) : Ok o Q := let ⟨v, e, p⟩ := h; ⟨v, e, k v p⟩
theorem Ok.is {o : Option β} {v : β} (h : o = some v) : Ok o (fun y => y = v) := ⟨v, h, rfl⟩
theorem Ok.one {o : Option β} {v : β} (h : Ok o (fun y => y = v)) : o = some v := by
  obtain ⟨y, e, rfl⟩ := h
  exact e
theorem Ok.iteT {b : Bool} {x y : Option β} {P : β → Prop} (hb : b = true) (h : Ok x P) : Ok (if b = true then x else y) P := by rw [if_pos hb]; exact h
theorem Ok.iteF {b : Bool} {x y : Option β} {P : β → Prop} (hb : b = false) (h : Ok y P) : Ok (if b = true then x else y) P := by rw [if_neg (by rw [hb]; exact Bool.false_ne_true)]; exact h
theorem Ok.ite {b : Bool} {x y : Option β} {P : β → Prop} (h1 : b = true → Ok x P) (h2 : b = false → Ok y P) : Ok (if b = true then x else y) P := by
  cases hb : b with
  | true => exact Ok.iteT rfl (h1 hb)
  | false => exact Ok.iteF rfl (h2 hb)
theorem Ok.map {f : α → Option β} {Q : α → β → Prop} {xs : List α} (h : ∀ x ∈ xs, Ok (f x) (Q x)) : Ok (mapO f xs) fun ys => ys.length = xs.length ∧ ∀ (i : Nat) x y, xs[i]? = some x → ys[i]? = some y → Q x y := mapO_ex h
theorem Ok.mapM {f : α → Option β} {Q : β → Prop} {xs : List α} (h : ∀ x ∈ xs, Ok (f x) Q) : Ok (mapO f xs) fun ys => ys.length = xs.length ∧ ∀ y ∈ ys, Q y := mapO_exM h
theorem Ok.mapE {f : α → Option β} {g : α → β} {xs : List α} (h : ∀ x ∈ xs, Ok (f x) fun y => y = g x) : Ok (mapO f xs) fun ys => ys = xs.map g := Ok.is (mapO_eq fun x hx => (h x hx).one)
theorem Ok.fold {f : S → α → Option S} (I : Nat → S → Prop) {xs : List α} {s : S} (h : I 0 s) (k : ∀ i x s, xs[i]? = some x → I i s → Ok (f s x) (I (i + 1))) : Ok (foldO f s xs) (I xs.length) := by
  obtain ⟨s', a, b⟩ := foldO_inv I (xs := xs) (s := s) 0 h fun i x t hx ht => by
    rw [Nat.zero_add] at ht ⊢
    exact k i x t hx ht
  exact ⟨s', a, by rw [Nat.zero_add] at b; exact b⟩
theorem Ok.foldI {f : S → α → Option S} (I : S → Prop) {xs : List α} {s : S} (h : I s) (k : ∀ x s, x ∈ xs → I s → Ok (f s x) I) : Ok (foldO f s xs) I := foldO_I I h k
theorem Ok.mapS {f : S → α → Option (β × S)} (I : S → Prop) (Q : β → Prop) {xs : List α} {s : S} (h : I s) (k : ∀ x s, x ∈ xs → I s → Ok (f s x) fun p => Q p.1 ∧ I p.2) : Ok (mapS f s xs) fun q => q.1.length = xs.length ∧ (∀ y ∈ q.1, Q y) ∧ I q.2 := by
  obtain ⟨ys, s', h1, h2, h3, h4⟩ := mapS_inv I (fun _ => Q) (xs := xs) (s := s) h fun x t hx ht => by
    obtain ⟨⟨y, t'⟩, e, a, b⟩ := k x t hx ht
    exact ⟨y, t', e, a, b⟩
  exact ⟨(ys, s'), h1, h2, fun y hy => (h3 y hy).elim fun _ z => z.2, h4⟩
theorem Ok.while {cnd : S → Option Bool} {f : S → Option S} (I : S → Prop) (m : S → Nat) {n : Nat} {s : S} (h : I s) (hm : m s < n) (hc : ∀ s, I s → cnd s = some false ∨ (cnd s = some true ∧ Ok (f s) fun s' => I s' ∧ m s' < m s)) :
    Ok (whileO cnd f n s) fun s' => I s' ∧ cnd s' = some false := whileO_inv I m hc n s h hm
/-! items -/
theorem at_nat {xs : List α} {j : Nat} {x : α} (h : xs[j]? = some x) : atI xs (j : Int) = some x := atI_nat h
theorem at_int {xs : List α} {i : Int} {x : α} (h0 : 0 ≤ i) (h : xs[i.toNat]? = some x) : atI xs i = some x := by
  have e : i = ((i.toNat : Nat) : Int) := by omega
  rw [e]; exact at_nat h
theorem at_ex {xs : List α} {i : Int} (h0 : 0 ≤ i) (h : i < xs.length) : ∃ x, atI xs i = some x ∧ xs[i.toNat]? = some x ∧ x ∈ xs := by
  have hi : i.toNat < xs.length := by omega
  exact ⟨xs[i.toNat], at_int h0 (List.getElem?_eq_getElem hi), List.getElem?_eq_getElem hi, List.getElem_mem hi⟩
end
def rg (n : Nat) : List Int := (List.range n).map fun i : Nat => (i : Int)
theorem rng1_nat {n : Nat} (h : n ≤ 1000000) : rng1O (n : Int) = some (rg n) := by
  unfold rng1O
  rw [if_pos (by omega)]
  unfold rngL rg
  rw [Int.sub_zero, Int.toNat_natCast]
  congr 1
  refine List.map_congr_left fun i _ => ?_
  omega
theorem rg_len (n : Nat) : (rg n).length = n := by simp [rg]
theorem rg_get {n i : Nat} (h : i < n) : (rg n)[i]? = some (i : Int) := by
  unfold rg
  rw [List.getElem?_map, List.getElem?_range h]
  rfl
theorem mem_rg {n : Nat} {x : Int} (h : x ∈ rg n) : ∃ i : Nat, i < n ∧ x = i := by
  obtain ⟨i, hi, e⟩ := List.mem_map.mp h
  exact ⟨i, List.mem_range.mp hi, e.symm⟩
/-! ### the law's script and its numbers -/
structure StOk (s : LSt) : Prop where
  i0 : 0 ≤ s.2.1
  j0 : 0 ≤ s.2.2.1
  k0 : 0 ≤ s.2.2.2
  k1 : s.2.2.2 < 2147483647
theorem modO_pos {i j : Int} (h : 0 < j) : modO i j = some (i % j) := if_pos h
theorem fdivO_pos {i j : Int} (h : 0 < j) (h2 : j < 1073741824) : fdivO i j = some (i / j) := if_pos ⟨h, h2⟩
theorem mulO_ok {i j : Int} (h : i.natAbs < 18446744073709551616) : mulO i j = some (i * j) := if_pos (.inl h)
theorem mulO_ok2 {i j : Int} (h : j.natAbs < 18446744073709551616) : mulO i j = some (i * j) := if_pos (.inr h)
theorem next_ok {s : LSt} {limit : Int} (h : StOk s) (h0 : 0 < limit) (h1 : limit < 1073741824) : Ok (m__law_next s limit) fun p => (0 ≤ p.1 ∧ p.1 < limit) ∧ StOk p.2 := by
  unfold m__law_next
  refine Ok.bind (Q := StOk) (Ok.ite (fun hc => ?_) fun _ => Ok.pure h) fun s1 k => Ok.ite (fun hj => ?_) fun _ => ?_
  · rw [Bool.and_eq_true, decide_eq_true_eq, decide_eq_true_eq] at hc
    obtain ⟨x, hx, _, _⟩ := at_ex h.i0 hc.2
    refine Ok.eq hx (Ok.eq (v := 1000000000000000000) (by decide) (Ok.ite (fun hv => ?_) fun _ => ?_))
    · rw [decide_eq_true_eq] at hv
      exact Ok.pure ⟨by show 0 ≤ s.2.1 + 1; have := h.i0; omega, by show 0 ≤ x; omega, h.k0, h.k1⟩
    · exact Ok.eq (mulO_ok (by have := h.k0; have := h.k1; omega)) (Ok.eq (modO_pos (by decide)) (Ok.eq (modO_pos (by decide)) (Ok.pure
        ⟨by show 0 ≤ s.2.1 + 1; have := h.i0; omega, h.j0, Int.emod_nonneg _ (by decide), Int.emod_lt_of_pos _ (by decide)⟩)))
  · rw [decide_eq_true_eq] at hj
    refine Ok.eq (modO_pos h0) (Ok.eq (fdivO_pos h0 h1) (Ok.pure ⟨⟨Int.emod_nonneg _ (by omega), Int.emod_lt_of_pos _ h0⟩, ⟨k.i0, ?_, k.k0, k.k1⟩⟩))
    exact Int.ediv_nonneg (by omega) (by omega)
  · exact Ok.eq (mulO_ok (by have := k.k0; have := k.k1; omega)) (Ok.eq (modO_pos (by decide)) (Ok.eq (fdivO_pos (by decide) (by decide)) (Ok.eq (modO_pos h0) (Ok.pure
      ⟨⟨Int.emod_nonneg _ (by omega), Int.emod_lt_of_pos _ h0⟩, ⟨k.i0, k.j0, Int.emod_nonneg _ (by decide), Int.emod_lt_of_pos _ (by decide)⟩⟩))))
end LW
namespace LW
open PySem L2 TW
/-! ### machines -/
abbrev Mach := List (Bool × List Int)
structure MOk (n k : Nat) (M : Mach) : Prop where
  len : M.length = n
  row : ∀ p ∈ M, p.2.length = k ∧ ∀ o ∈ p.2, 0 ≤ o ∧ o < (n : Int)
theorem idx_ex {α : Type} [DecidableEq α] {xs : List α} {x : α} (h : x ∈ xs) : ∃ i : Nat, idxO xs x = some (i : Int) ∧ i < xs.length := by
  unfold idxO
  rw [if_pos h]
  exact ⟨_, rfl, List.findIdx_lt_length_of_exists ⟨x, h, by simp⟩⟩
theorem sz16 : sizeLine = 16777216 := by decide
theorem push_ok {α : Type} {xs : List α} {y : α} (h : xs.length < 16777216) : pushO xs y = some (xs ++ [y]) := by
  unfold pushO
  rw [if_pos (by rw [sz16]; exact h)]
theorem app_ok {α : Type} {xs ys : List α} (h : xs.length + ys.length ≤ 16777216) : appO xs ys = some (xs ++ ys) := by
  unfold appO
  rw [if_pos (by rw [sz16]; exact h)]
def mkAt (marks : List Int) (l : Int) : Int := (marks[l.toNat]?).getD 0
theorem mk_at {marks : List Int} {n : Nat} (hl : marks.length = n) {l : Int} (h0 : 0 ≤ l) (h1 : l < (n : Int)) : atI marks l = some (mkAt marks l) := by
  obtain ⟨x, h2, h3, _⟩ := at_ex (xs := marks) h0 (by rw [hl]; exact h1)
  unfold mkAt
  rw [h2, h3]
  rfl
theorem nodup_bound {n : Nat} : ∀ {l : List Int}, (∀ x ∈ l, 0 ≤ x ∧ x < (n : Int)) → l.Nodup → l.length ≤ n := fun {l} h nd => by
  have hs := len_sub (l := l) (m := rg n) nd fun x hx => by
    obtain ⟨a, b⟩ := h x hx
    exact List.mem_map.mpr ⟨x.toNat, List.mem_range.mpr (by omega), by omega⟩
  rw [rg_len] at hs
  exact hs
theorem nodup_of_mapI {f : Int → Int} {l : List Int} (h : (l.map f).Nodup) : l.Nodup := by
  have h : (l.map f).Pairwise (· ≠ ·) := h
  rw [List.pairwise_map] at h
  exact h.imp fun ne e => ne (by rw [e])
/-- what the search through a machine keeps -/
structure Met (n : Nat) (marks : List Int) (met : List Int) : Prop where
  rng : ∀ x ∈ met, 0 ≤ x ∧ x < (n : Int)
  nd : (met.map (mkAt marks)).Nodup
theorem Met.len {n : Nat} {marks met : List Int} (h : Met n marks met) : met.length ≤ n := nodup_bound h.rng (nodup_of_mapI h.nd)
theorem least_ok {n k : Nat} {M : Mach} (h : MOk n k M) (h1 : 1 ≤ n) (h60 : n ≤ 60) : Ok (m__law_least M) fun M' => ∃ n', MOk n' k M' ∧ 1 ≤ n' ∧ n' ≤ n := by
  have hlen := h.len
  have atM : ∀ l : Int, 0 ≤ l → l < (n : Int) → ∃ p, atI M l = some p ∧ M[l.toNat]? = some p ∧ p ∈ M := fun l a b => at_ex a (by rw [hlen]; exact b)
  unfold m__law_least
  refine Ok.bind (Ok.mapE (g := fun x1 : Bool × List Int => b2i' x1.1) fun x _ => Ok.pure rfl) fun m0 hm0 => ?_
  subst hm0
  refine Ok.eq (v := rg n) (by rw [hlen]; exact rng1_nat (by omega)) ?_
  -- the marks
  refine Ok.bind (Ok.foldI (fun marks : List Int => marks.length = n) (by rw [List.length_map]; exact hlen) fun x s _ hs => ?_) fun marks hm => ?_
  · refine Ok.eq (v := rg n) (by rw [hlen]; exact rng1_nat (by omega)) ?_
    refine Ok.bind (Ok.mapM (Q := fun _ => True) fun y hy => ?_) fun keys ⟨k2, _⟩ => ?_
    · obtain ⟨i, hi, rfl⟩ := mem_rg hy
      obtain ⟨p, hp, _, hpm⟩ := atM i (by omega) (by omega)
      exact Ok.eq (mk_at hs (by omega) (by omega)) (Ok.eq hp (Ok.bind (Ok.mapE (g := mkAt s) fun o ho => by
        obtain ⟨b, c⟩ := (h.row p hpm).2 o ho
        exact Ok.eq (mk_at hs b c) (Ok.pure rfl)) fun _ _ => Ok.pure trivial))
    · rw [rg_len] at k2
      refine Ok.eq (v := SetN.sortSet keys) (if_pos (by omega)) (Ok.bind (Ok.mapM (Q := fun _ => True) fun y hy => ?_) fun ms ⟨m2, _⟩ => Ok.pure (by omega))
      obtain ⟨i, hi, _⟩ := idx_ex ((SetN.mem_sortSet y keys).mpr hy)
      exact Ok.eq hi (Ok.pure trivial)
  -- the lines that are met
  refine Ok.eq (v := (0 : Int)) rfl ?_
  refine Ok.bind (Ok.while (fun s : Int × List Int => 0 ≤ s.1 ∧ s.1 ≤ s.2.length ∧ Met n marks s.2 ∧ 1 ≤ s.2.length ∧ ∀ (j : Nat) l, (j : Int) < s.1 → s.2[j]? = some l → ∀ p, M[l.toNat]? = some p → ∀ o ∈ p.2, mkAt marks o ∈ s.2.map (mkAt marks)) (fun s => n + 1 - s.1.toNat)
    ⟨by decide, by decide, ⟨fun x hx => by rw [List.mem_singleton.mp hx]; omega, by simp⟩, by decide, fun j l hj => by have : (j : Int) < 0 := hj; omega⟩ (by show n + 1 - 0 < 4096; omega) fun s ⟨q0, q1, qM, qz, qcl⟩ => ?_) fun s ⟨⟨p0, p1, hM, hz, hcl⟩, hend⟩ => ?_
  · by_cases hc : s.1 < (s.2.length : Int)
    · right
      refine ⟨by rw [decide_eq_true hc], ?_⟩
      obtain ⟨l, hl, hl2, hlm⟩ := at_ex q0 hc
      obtain ⟨r0, r1⟩ := qM.rng l hlm
      obtain ⟨p, hp, hp2, hpm⟩ := atM l r0 r1
      refine Ok.eq hl (Ok.eq hp (Ok.bind (Ok.fold (fun i (m' : List Int) => Met n marks m' ∧ (∃ more, m' = s.2 ++ more) ∧ ∀ (j : Nat) o, j < i → p.2[j]? = some o → mkAt marks o ∈ m'.map (mkAt marks))
        ⟨qM, ⟨[], (List.append_nil _).symm⟩, fun j o hj => absurd hj (Nat.not_lt_zero _)⟩ fun i x m' hx ⟨mM, ⟨more, mp⟩, mc⟩ => ?_) fun met' ⟨fM, ⟨more, fp⟩, fc⟩ => Ok.eq (v := s.1 + 1) rfl (Ok.pure ?_)))
      · obtain ⟨b, c⟩ := (h.row p hpm).2 x (List.mem_of_getElem? hx)
        refine Ok.eq (mk_at hm b c) (Ok.bind (Ok.mapE (g := mkAt marks) fun y hy => by
          obtain ⟨b', c'⟩ := mM.rng y hy
          exact Ok.eq (mk_at hm b' c') (Ok.pure rfl)) fun v16 e16 => ?_)
        subst e16
        refine Ok.ite (fun hin => ?_) fun hin => ?_
        · have hin : ¬ mkAt marks x ∈ m'.map (mkAt marks) := by simpa using hin
          refine Ok.eq (push_ok (by have := mM.len; omega)) (Ok.pure ⟨⟨fun y hy => ?_, ?_⟩, ⟨more ++ [x], by rw [mp, List.append_assoc]⟩, fun j o hj hjo => ?_⟩)
          · rcases List.mem_append.mp hy with z | z
            · exact mM.rng y z
            · rw [List.mem_singleton.mp z]; exact ⟨b, c⟩
          · rw [List.map_append]
            refine List.nodup_append.mpr ⟨mM.nd, by simp, fun u hu v hv e => ?_⟩
            have : v = mkAt marks x := by simpa using hv
            exact hin (by rw [← this, ← e]; exact hu)
          · rw [List.map_append]
            rcases Nat.lt_or_ge j i with hji | hji
            · exact List.mem_append_left _ (mc j o (by omega) hjo)
            · have : j = i := by omega
              subst this
              rw [hx] at hjo; cases hjo
              exact List.mem_append_right _ (by simp)
        · have hin : mkAt marks x ∈ m'.map (mkAt marks) := by simpa using hin
          refine Ok.pure ⟨mM, ⟨more, mp⟩, fun j o hj hjo => ?_⟩
          rcases Nat.lt_or_ge j i with hji | hji
          · exact mc j o (by omega) hjo
          · have : j = i := by omega
            subst this
            rw [hx] at hjo; cases hjo
            exact hin
      · refine ⟨⟨by show 0 ≤ s.1 + 1; omega, ?_, fM, ?_, fun j l' hj hjl p' hp' o ho => ?_⟩, ?_⟩
        · show s.1 + 1 ≤ (met'.length : Int)
          rw [fp, List.length_append]; omega
        · show 1 ≤ met'.length
          rw [fp, List.length_append]; omega
        · have hj : (j : Int) < s.1 + 1 := hj
          have hjl : met'[j]? = some l' := hjl
          rw [fp, List.getElem?_append_left (by omega)] at hjl
          by_cases hjs : (j : Int) < s.1
          · have z := qcl j l' hjs hjl p' hp' o ho
            show mkAt marks o ∈ met'.map (mkAt marks)
            rw [fp, List.map_append]
            exact List.mem_append_left _ z
          · have ej : j = s.1.toNat := by omega
            subst ej
            rw [hl2] at hjl; cases hjl
            rw [hp2] at hp'; cases hp'
            obtain ⟨i, hi, e⟩ := List.getElem_of_mem ho
            exact fc i o (by omega) (by rw [← e]; exact List.getElem?_eq_getElem hi)
        · show n + 1 - (s.1 + 1).toNat < n + 1 - s.1.toNat
          have := qM.len
          omega
    · left
      rw [decide_eq_false hc]
  have hpl : s.1 = (s.2.length : Int) := by
    have z : ¬ (s.1 < (s.2.length : Int)) := by simpa using hend
    omega
  refine Ok.bind (Ok.mapE (g := mkAt marks) fun y hy => by
    obtain ⟨b, c⟩ := hM.rng y hy
    exact Ok.eq (mk_at hm b c) (Ok.pure rfl)) fun v19 e19 => ?_
  subst e19
  refine Ok.bind (Ok.mapM (Q := fun q : Bool × List Int => q.2.length = k ∧ ∀ o ∈ q.2, 0 ≤ o ∧ o < (s.2.length : Int)) fun l hl => ?_) fun M' ⟨r2, r3⟩ => Ok.pure ⟨s.2.length, ⟨r2, r3⟩, hz, hM.len⟩
  obtain ⟨b, c⟩ := hM.rng l hl
  obtain ⟨p, hp, hp2, hpm⟩ := atM l b c
  obtain ⟨j, hj, ej⟩ := List.getElem_of_mem hl
  refine Ok.eq hp (Ok.eq hp (Ok.bind (Ok.mapM (Q := fun o : Int => 0 ≤ o ∧ o < (s.2.length : Int)) fun o ho => ?_) fun os ⟨o2, o3⟩ => Ok.pure ⟨by show os.length = k; rw [o2]; exact (h.row p hpm).1, o3⟩))
  obtain ⟨b', c'⟩ := (h.row p hpm).2 o ho
  have hin : mkAt marks o ∈ s.2.map (mkAt marks) := hcl j l (by omega) (by rw [← ej]; exact List.getElem?_eq_getElem hj) p hp2 o ho
  obtain ⟨i, hi, hlt⟩ := idx_ex hin
  rw [List.length_map] at hlt
  exact Ok.eq (mk_at hm b' c') (Ok.eq hi (Ok.pure ⟨by omega, by omega⟩))
/-! signs -/
def sigs : List (List Nat) := [[97, 98], [97, 98, 99], [98, 100], [97, 98, 99, 100], [120, 121, 122]]
theorem signs_ok {s : LSt} (h : StOk s) : Ok (m__law_signs s) fun p => p.1 ∈ sigs ∧ StOk p.2 := by
  unfold m__law_signs
  refine Ok.bind (next_ok h (limit := 5) (by decide) (by decide)) fun p ⟨⟨h0, h1⟩, h2⟩ => ?_
  obtain ⟨x, hx, _, hm⟩ := at_ex (xs := sigs) (i := p.1) h0 (by show p.1 < 5; exact h1)
  exact Ok.eq (show _ = some x from hx) (Ok.pure ⟨hm, h2⟩)
theorem machine_ok {s : LSt} {sg : List Nat} {most : Nat} (h : StOk s) (h1 : 1 ≤ most) (h2 : most ≤ 60) : Ok (m__law_machine s sg (most : Int)) fun p => (∃ n, MOk n sg.length p.1 ∧ 1 ≤ n ∧ n ≤ most) ∧ StOk p.2 := by
  unfold m__law_machine
  refine Ok.bind (next_ok h (limit := (most : Int)) (by omega) (by omega)) fun q ⟨⟨v0, v1⟩, k1⟩ => ?_
  obtain ⟨N, hN⟩ : ∃ N : Nat, (1 : Int) + q.1 = (N : Int) := ⟨(1 + q.1).toNat, by omega⟩
  refine Ok.eq (v := (N : Int)) (by rw [hN]) (Ok.eq (rng1_nat (by omega)) ?_)
  refine Ok.bind (Ok.mapS StOk (fun (q : Bool × List Int) => q.2.length = sg.length ∧ ∀ o ∈ q.2, 0 ≤ o ∧ o < (N : Int)) k1 fun x t _ ht => ?_) fun r ⟨l2, p2, k2⟩ => ?_
  · refine Ok.bind (next_ok ht (limit := 2) (by decide) (by decide)) fun w ⟨_, a4⟩ => ?_
    refine Ok.bind (Ok.mapS StOk (fun o : Int => 0 ≤ o ∧ o < (N : Int)) a4 fun y u _ hu => Ok.bind (next_ok hu (limit := (N : Int)) (by omega) (by omega)) fun z hz => Ok.pure hz) fun os ⟨b2, b3, b4⟩ => Ok.pure ⟨⟨?_, b3⟩, b4⟩
    show os.1.length = sg.length
    rw [b2, List.length_map]
  · refine Ok.bind (least_ok (n := N) (k := sg.length) ⟨by rw [l2, rg_len], p2⟩ (by omega) (by omega)) fun M' ⟨n', r2, r3, r4⟩ => Ok.pure ⟨⟨n', r2, r3, by omega⟩, k2⟩
end LW
namespace LW
open PySem L2 TW
/-! ### dicts -/
section
variable {κ α : Type} [DecidableEq κ]
theorem dget_nil (k : κ) : dgetO ([] : List (κ × α)) k = none := rfl
theorem dget_cons (p : κ × α) (m : List (κ × α)) (k : κ) : dgetO (p :: m) k = if p.1 = k then some p.2 else dgetO m k := by
  unfold dgetO
  rw [List.find?_cons]
  by_cases e : p.1 = k
  · rw [if_pos e, decide_eq_true e]; rfl
  · rw [if_neg e, decide_eq_false e]
theorem dget_app (m m' : List (κ × α)) (k : κ) : dgetO (m ++ m') k = (dgetO m k).or (dgetO m' k) := by
  induction m with
  | nil => rfl
  | cons p m ih =>
    rw [List.cons_append, dget_cons, dget_cons, ih]
    by_cases e : p.1 = k
    · rw [if_pos e, if_pos e]; rfl
    · rw [if_neg e, if_neg e]
theorem dget_none {m : List (κ × α)} {k : κ} (h : (m.any fun p => decide (p.1 = k)) = false) : dgetO m k = none := by
  induction m with
  | nil => rfl
  | cons p m ih =>
    rw [List.any_cons, Bool.or_eq_false_iff] at h
    rw [dget_cons, if_neg (of_decide_eq_false h.1), ih h.2]
theorem dget_put (m : List (κ × α)) (k k' : κ) (x : α) : dgetO (dput m k x) k' = if k = k' then some x else dgetO m k' := by
  unfold dput
  split
  · rename_i h
    induction m with
    | nil => simp at h
    | cons p m ih =>
      rw [List.map_cons, dget_cons, dget_cons]
      by_cases e : p.1 = k
      · rw [if_pos e]
        by_cases e2 : k = k'
        · rw [if_pos (by show p.1 = k'; rw [e, e2]), if_pos e2]
        · have e3 : ¬ p.1 = k' := fun z => e2 (by rw [← e, z])
          rw [if_neg (show ¬ (p.1, x).1 = k' from e3), if_neg e2, if_neg e3]
          by_cases h2 : (m.any fun p => decide (p.1 = k)) = true
          · rw [ih h2, if_neg e2]
          · -- nothing more to change
            congr 1
            have h2 : (m.any fun p => decide (p.1 = k)) = false := eq_false_of_ne_true h2
            have : (m.map fun p => if p.1 = k then (p.1, x) else p) = m := by
              conv => rhs; rw [← List.map_id m]
              refine List.map_congr_left fun q hq => ?_
              have := List.any_eq_false.mp h2 q hq
              rw [if_neg (by simpa using this)]
              rfl
            rw [this]
      · rw [if_neg e]
        have h2 : (m.any fun p => decide (p.1 = k)) = true := by
          rw [List.any_cons, decide_eq_false e, Bool.false_or] at h
          exact h
        by_cases e2 : p.1 = k'
        · have e3 : ¬ k = k' := fun z => e (by rw [e2, z])
          rw [if_pos e2, if_pos e2, if_neg e3]
        · rw [if_neg e2, if_neg e2, ih h2]
  · rename_i h
    have h : (m.any fun p => decide (p.1 = k)) = false := eq_false_of_ne_true h
    rw [dget_app, dget_cons, dget_nil]
    by_cases e : k = k'
    · subst e
      rw [if_pos rfl, if_pos rfl, dget_none h]; rfl
    · rw [if_neg (show ¬ (k, x).1 = k' from e), if_neg e]
      cases dgetO m k' <;> rfl
theorem dput_len1 (m : List (κ × α)) (k : κ) (x : α) : (dput m k x).length ≤ m.length + 1 := dput_len m k x
theorem dput_ok {m : List (κ × α)} {k : κ} {x : α} (h : m.length < 16777216) : dputO m k x = some (dput m k x) := by
  unfold dputO
  rw [if_pos (by rw [sz16]; exact h)]
end
/-! ### literals -/
abbrev Gates := List (Int × Int)
abbrev Known := List ((Int × Int) × Int)
def lv (vs : List Bool) (l : Int) : Bool := !(decide ((vs.getD (l / 2).toNat false) = decide (l % 2 = 1)))
def ext : List Bool → Gates → List Bool
  | vs, [] => vs
  | vs, g :: gs => ext (vs ++ [lv vs g.1 && lv vs g.2]) gs
theorem ext_len : ∀ (gs : Gates) (vs : List Bool), (ext vs gs).length = vs.length + gs.length
  | [], _ => rfl
  | g :: gs, vs => by
    show (ext (vs ++ [_]) gs).length = _
    rw [ext_len gs]
    simp only [List.length_append, List.length_cons, List.length_nil]
    omega
theorem ext_app : ∀ (gs hs : Gates) (vs : List Bool), ext vs (gs ++ hs) = ext (ext vs gs) hs
  | [], _, _ => rfl
  | g :: gs, hs, vs => ext_app gs hs _
theorem ext_get : ∀ (gs : Gates) (vs : List Bool) (i : Nat), i < vs.length → (ext vs gs)[i]? = vs[i]?
  | [], _, _, _ => rfl
  | g :: gs, vs, i, h => by
    show (ext (vs ++ [_]) gs)[i]? = _
    rw [ext_get gs _ i (by rw [List.length_append]; omega), List.getElem?_append_left h]
theorem lv_ext {vs : List Bool} {gs : Gates} {l : Int} (h0 : 0 ≤ l) (h1 : l < 2 * (vs.length : Int)) : lv (ext vs gs) l = lv vs l := by
  unfold lv
  have e : (ext vs gs).getD (l / 2).toNat false = vs.getD (l / 2).toNat false := by
    rw [List.getD_eq_getElem?_getD, List.getD_eq_getElem?_getD, ext_get gs vs _ (by omega)]
  rw [e]
/-- a literal with its meaning over what the inputs and registers hold -/
structure Lit (F : Nat) (g : Gates) (l : Int) (f : List Bool → Bool) : Prop where
  lo : 0 ≤ l
  hi : l < 2 * ((F + g.length : Nat) : Int)
  val : ∀ env : List Bool, env.length = F → env[0]? = some false → lv (ext env g) l = f env
theorem Lit.mono {F : Nat} {g : Gates} {l : Int} {f : List Bool → Bool} (h : Lit F g l f) (m : Gates) : Lit F (g ++ m) l f :=
  ⟨h.lo, by have := h.hi; rw [List.length_append]; omega, fun env e1 e2 => by
    rw [ext_app, lv_ext h.lo (by rw [ext_len, e1]; exact h.hi)]
    exact h.val env e1 e2⟩
theorem Lit.to {F : Nat} {g : Gates} {l : Int} {f f' : List Bool → Bool} (h : Lit F g l f) (e : ∀ env : List Bool, env.length = F → env[0]? = some false → f env = f' env) : Lit F g l f' := ⟨h.lo, h.hi, fun env e1 e2 => (h.val env e1 e2).trans (e env e1 e2)⟩
structure BOk (F : Nat) (g : Gates) (kn : Known) : Prop where
  wf : ∀ (k : Nat) p, g[k]? = some p → (0 ≤ p.1 ∧ p.1 < 2 * ((F + k : Nat) : Int)) ∧ 0 ≤ p.2 ∧ p.2 < 2 * ((F + k : Nat) : Int)
  kd : ∀ key l, dgetO kn key = some l → ∃ k : Nat, g[k]? = some key ∧ l = 2 * ((F + k : Nat) : Int)
  kl : kn.length ≤ g.length
/-- what a step of building leaves -/
structure Grow (F : Nat) (g : Gates) (n : Nat) (g' : Gates) (k' : Known) : Prop where
  ok : BOk F g' k'
  ex : ∃ m, g' = g ++ m ∧ m.length ≤ n
theorem Grow.refl {F : Nat} {g : Gates} {k : Known} (h : BOk F g k) : Grow F g 0 g k := ⟨h, [], (List.append_nil _).symm, Nat.le_refl _⟩
theorem Grow.trans {F n m : Nat} {g g1 g2 : Gates} {k1 k2 : Known} (a : Grow F g n g1 k1) (b : Grow F g1 m g2 k2) : Grow F g (n + m) g2 k2 := by
  obtain ⟨x, e1, l1⟩ := a.ex
  obtain ⟨y, e2, l2⟩ := b.ex
  exact ⟨b.ok, x ++ y, by rw [e2, e1, List.append_assoc], by rw [List.length_append]; omega⟩
theorem Grow.le {F n m : Nat} {g g' : Gates} {k' : Known} (a : Grow F g n g' k') (h : n ≤ m) : Grow F g m g' k' := ⟨a.ok, let ⟨x, e, l⟩ := a.ex; ⟨x, e, Nat.le_trans l h⟩⟩
theorem Grow.lit {F n : Nat} {g g' : Gates} {k' : Known} {l : Int} {f : List Bool → Bool} (a : Grow F g n g' k') (h : Lit F g l f) : Lit F g' l f := by
  obtain ⟨x, e, _⟩ := a.ex
  rw [e]; exact h.mono x
theorem Grow.len {F n : Nat} {g g' : Gates} {k' : Known} (a : Grow F g n g' k') : g'.length ≤ g.length + n := by
  obtain ⟨x, e, l⟩ := a.ex
  rw [e, List.length_append]; omega
theorem lit0 {F : Nat} {g : Gates} (hF : 0 < F) : Lit F g 0 (fun _ => false) := ⟨by omega, by omega, fun env e1 e2 => by
  have h : (ext env g)[0]? = some false := by rw [ext_get g env 0 (by omega)]; exact e2
  unfold lv
  rw [List.getD_eq_getElem?_getD]
  simp [h]⟩
theorem lit1 {F : Nat} {g : Gates} (hF : 0 < F) : Lit F g 1 (fun _ => true) := ⟨by omega, by omega, fun env e1 e2 => by
  have h : (ext env g)[0]? = some false := by rw [ext_get g env 0 (by omega)]; exact e2
  unfold lv
  rw [List.getD_eq_getElem?_getD]
  simp [h]⟩
theorem lv_turn {vs : List Bool} {l : Int} (h : 0 ≤ l) : lv vs (l + 1 - 2 * (l % 2)) = !lv vs l := by
  unfold lv
  have e1 : ((l + 1 - 2 * (l % 2)) / 2) = l / 2 := by omega
  rw [e1]
  by_cases e : l % 2 = 1
  · have e2 : ¬ ((l + 1 - 2 * (l % 2)) % 2 = 1) := by omega
    rw [decide_eq_true e, decide_eq_false e2]
    cases vs.getD (l / 2).toNat false <;> rfl
  · have e2 : (l + 1 - 2 * (l % 2)) % 2 = 1 := by omega
    rw [decide_eq_false e, decide_eq_true e2]
    cases vs.getD (l / 2).toNat false <;> rfl
theorem turned_ok {F : Nat} {g : Gates} {l : Int} {f : List Bool → Bool} (h : Lit F g l f) : Ok (m_turned l) fun l' => Lit F g l' fun env => !f env := by
  unfold m_turned
  have h0 := h.lo
  have h1 := h.hi
  refine Ok.eq (modO_pos (by decide)) (Ok.eq (mulO_ok (by decide)) (Ok.pure ⟨by omega, by omega, fun env e1 e2 => ?_⟩))
  rw [lv_turn h0, h.val env e1 e2]
theorem lv_node {vs : List Bool} {k : Nat} {b : Bool} (h : vs[k]? = some b) : lv vs (2 * (k : Int)) = b := by
  unfold lv
  have e1 : (2 * (k : Int) / 2).toNat = k := by omega
  rw [e1, List.getD_eq_getElem?_getD, h, decide_eq_false (show ¬ (2 * (k : Int)) % 2 = 1 by omega)]
  cases b <;> rfl
/-- the value of a gate -/
theorem ext_gate {gs : Gates} {vs : List Bool} {k : Nat} {p : Int × Int} (wf : ∀ (k : Nat) p, gs[k]? = some p → (0 ≤ p.1 ∧ p.1 < 2 * ((vs.length + k : Nat) : Int)) ∧ 0 ≤ p.2 ∧ p.2 < 2 * ((vs.length + k : Nat) : Int)) (h : gs[k]? = some p) :
    (ext vs gs)[vs.length + k]? = some (lv (ext vs gs) p.1 && lv (ext vs gs) p.2) := by
  have hk : k < gs.length := (List.getElem?_eq_some_iff.mp h).1
  have es : gs = gs.take k ++ p :: gs.drop (k + 1) := split_at h
  obtain ⟨⟨a1, a2⟩, b1, b2⟩ := wf k p h
  have hl : (ext vs (gs.take k)).length = vs.length + k := by rw [ext_len, List.length_take]; omega
  have e1 : ext vs gs = ext (ext vs (gs.take k) ++ [lv (ext vs (gs.take k)) p.1 && lv (ext vs (gs.take k)) p.2]) (gs.drop (k + 1)) := by
    conv => lhs; rw [es, ext_app]
    rfl
  have c1 : lv (ext vs gs) p.1 = lv (ext vs (gs.take k)) p.1 := by
    conv => lhs; rw [es, ext_app]
    exact lv_ext a1 (by rw [hl]; exact a2)
  have c2 : lv (ext vs gs) p.2 = lv (ext vs (gs.take k)) p.2 := by
    conv => lhs; rw [es, ext_app]
    exact lv_ext b1 (by rw [hl]; exact b2)
  rw [c1, c2, e1, ext_get _ _ _ (by rw [List.length_append, hl]; simp), List.getElem?_append_right (by rw [hl]; exact Nat.le_refl _), hl, Nat.sub_self]
  rfl
section
variable {inp : List (List Nat)} {reg : List ((List Nat) × Bool)} {lits : List ((List Nat) × Int)}
theorem conj_ok {F : Nat} {g : Gates} {kn : Known} {a b : Int} {fa fb : List Bool → Bool} (hF : F = 1 + inp.length + reg.length) (B : BOk F g kn) (ha : Lit F g a fa) (hb : Lit F g b fb) (hl : g.length < 1000000) :
    Ok (m_Builder_conj inp reg lits g kn a b) fun r => Grow F g 1 r.2.1 r.2.2 ∧ Lit F r.2.1 r.1 fun env => fa env && fb env := by
  -- low and high
  have hh : ∃ (lo hi : Int) (f1 f2 : List Bool → Bool), min a b = lo ∧ max a b = hi ∧ Lit F g lo f1 ∧ Lit F g hi f2 ∧ lo ≤ hi ∧ ∀ env, (fa env && fb env) = (f1 env && f2 env) := by
    rcases Int.le_total a b with h | h
    · exact ⟨a, b, fa, fb, Int.min_eq_left h, Int.max_eq_right h, ha, hb, h, fun _ => rfl⟩
    · exact ⟨b, a, fb, fa, Int.min_eq_right h, Int.max_eq_left h, hb, ha, h, fun _ => Bool.and_comm _ _⟩
  obtain ⟨lo, hi, f1, f2, e1, e2, h1, h2, hle, hf⟩ := hh
  have hF0 : 0 < F := by omega
  unfold m_Builder_conj
  refine Ok.eq (v := lo) (by rw [e1]) (Ok.eq (v := hi) (by rw [e2]) ?_)
  have g0 := h1.lo
  have g1 := h1.hi
  have g2 := h2.lo
  have g3 := h2.hi
  have first : (orO (decide (lo = (0 : Int))) ((andO (decide (lo = (hi - (1 : Int)))) ((modO hi (2 : Int)).bind fun v1 => some (decide (v1 = (1 : Int))))).bind fun v2 => some v2)) = some (decide (lo = 0 ∨ (lo = hi - 1 ∧ hi % 2 = 1))) := by
    rw [modO_pos (by decide)]
    unfold orO andO
    by_cases z : lo = 0
    · rw [decide_eq_true z, if_pos rfl, decide_eq_true (Or.inl z)]
    · rw [decide_eq_false z, if_neg Bool.false_ne_true]
      by_cases z2 : lo = hi - 1
      · rw [decide_eq_true z2, if_pos rfl]
        simp [z2]
        intro z3; omega
      · rw [decide_eq_false z2, if_neg Bool.false_ne_true]
        simp [z, z2]
  refine Ok.eq first (Ok.ite (fun hc => ?_) fun hc => Ok.ite (fun hd => ?_) fun hd => ?_)
  · have hc := of_decide_eq_true hc
    refine Ok.pure ⟨(Grow.refl B).le (by decide), (lit0 hF0).to fun env n1 n2 => ?_⟩
    rw [hf]
    rcases hc with z | ⟨z, z2⟩
    · have := h1.val env n1 n2
      rw [z, (lit0 hF0 (g := g)).val env n1 n2] at this
      rw [← this]; rfl
    · have w1 := h1.val env n1 n2
      have w2 := h2.val env n1 n2
      have t := lv_turn (vs := ext env g) (l := hi) g2
      have e : hi + 1 - 2 * (hi % 2) = lo := by omega
      rw [e, w1, w2] at t
      rw [t]
      cases f2 env <;> rfl
  · rw [Bool.or_eq_true, decide_eq_true_eq, decide_eq_true_eq] at hd
    refine Ok.pure ⟨(Grow.refl B).le (by decide), h2.to fun env n1 n2 => ?_⟩
    rw [hf]
    rcases hd with z | z
    · have := h1.val env n1 n2
      rw [z, (lit1 hF0 (g := g)).val env n1 n2] at this
      rw [← this]; rfl
    · have w1 := h1.val env n1 n2
      have w2 := h2.val env n1 n2
      rw [z] at w1
      rw [← w1, w2]
      cases f2 env <;> rfl
  · -- a gate
    refine Ok.bind (Q := fun s => Grow F g 1 s.1 s.2 ∧ ∃ k : Nat, s.1[k]? = some (hi, lo) ∧ dgetO s.2 (hi, lo) = some (2 * ((F + k : Nat) : Int))) (Ok.ite (fun hn => ?_) fun hn => ?_) fun s ⟨gr, k, q1, q2⟩ => Ok.eq q2 (Ok.pure ⟨gr, ?_⟩)
    · have e4 : m_Builder_first inp reg lits g kn = some (((1 : Int) + (inp.length : Int)) + (reg.length : Int), g, kn) := rfl
      refine Ok.eq e4 (Ok.eq (mulO_ok (by decide)) (Ok.eq (dput_ok (by have := B.kl; show kn.length < 16777216; omega)) (Ok.eq (push_ok (by show g.length < 16777216; omega)) (Ok.pure ?_))))
      have e5 : (2 : Int) * (((1 : Int) + (inp.length : Int)) + (reg.length : Int) + (g.length : Int)) = 2 * ((F + g.length : Nat) : Int) := by omega
      refine ⟨⟨⟨fun k p hp => ?_, fun key l hk => ?_, ?_⟩, [(hi, lo)], rfl, Nat.le_refl _⟩, g.length, ?_, ?_⟩
      · have hp : (g ++ [(hi, lo)])[k]? = some p := hp
        by_cases hkg : k < g.length
        · rw [List.getElem?_append_left hkg] at hp
          exact B.wf k p hp
        · have hlt := (List.getElem?_eq_some_iff.mp hp).1
          rw [List.length_append, List.length_singleton] at hlt
          have ek : k = g.length := by omega
          subst ek
          rw [List.getElem?_append_right (Nat.le_refl _), Nat.sub_self] at hp
          cases hp
          exact ⟨⟨g2, g3⟩, g0, g1⟩
      · rw [dget_put] at hk
        split at hk
        · rename_i ek
          cases hk
          exact ⟨g.length, by rw [List.getElem?_append_right (Nat.le_refl _), Nat.sub_self, ← ek]; rfl, e5⟩
        · obtain ⟨k, h3, h4⟩ := B.kd key l hk
          exact ⟨k, by rw [List.getElem?_append_left (List.getElem?_eq_some_iff.mp h3).1]; exact h3, h4⟩
      · have := dput_len1 kn (hi, lo) (2 * (((1 : Int) + (inp.length : Int)) + (reg.length : Int) + (g.length : Int)))
        have := B.kl
        show (dput kn (hi, lo) (2 * (((1 : Int) + (inp.length : Int)) + (reg.length : Int) + (g.length : Int)))).length ≤ (g ++ [(hi, lo)]).length
        rw [List.length_append, List.length_singleton]; omega
      · rw [List.getElem?_append_right (Nat.le_refl _), Nat.sub_self]; rfl
      · rw [dget_put, if_pos rfl, e5]
    · have hn : (dgetO kn (hi, lo)).isSome = true := by simpa using hn
      obtain ⟨l, hl⟩ := Option.isSome_iff_exists.mp hn
      obtain ⟨k, h3, h4⟩ := B.kd _ _ hl
      exact Ok.pure ⟨(Grow.refl B).le (by decide), k, h3, by rw [hl, h4]⟩
    · have hk : k < s.1.length := (List.getElem?_eq_some_iff.mp q1).1
      refine ⟨by show (0 : Int) ≤ 2 * _; omega, by show 2 * ((F + k : Nat) : Int) < 2 * ((F + s.1.length : Nat) : Int); omega, fun env n1 n2 => ?_⟩
      have w := ext_gate (vs := env) (by rw [n1]; exact gr.ok.wf) q1
      rw [n1] at w
      show lv (ext env s.1) (2 * ((F + k : Nat) : Int)) = _
      rw [lv_node w, (gr.lit h1).val env n1 n2, (gr.lit h2).val env n1 n2, hf, Bool.and_comm]
theorem disj_ok {F : Nat} {g : Gates} {kn : Known} {a b : Int} {fa fb : List Bool → Bool} (hF : F = 1 + inp.length + reg.length) (B : BOk F g kn) (ha : Lit F g a fa) (hb : Lit F g b fb) (hl : g.length < 1000000) :
    Ok (m_Builder_disj inp reg lits g kn a b) fun r => Grow F g 1 r.2.1 r.2.2 ∧ Lit F r.2.1 r.1 fun env => fa env || fb env := by
  unfold m_Builder_disj
  refine Ok.bind (turned_ok ha) fun a' ha' => Ok.bind (turned_ok hb) fun b' hb' => Ok.bind (conj_ok hF B ha' hb' hl) fun r ⟨gr, h⟩ => Ok.bind (turned_ok h) fun l hl' => Ok.pure ⟨gr, hl'.to fun env _ _ => ?_⟩
  cases fa env <;> cases fb env <;> rfl
end
end LW
namespace LW
open PySem L2 TW
/-! ### numbers and names -/
theorem enL_of {α : Type} {xs : List α} {i : Nat} {p : Int × α} (h : (enL xs)[i]? = some p) : p.1 = (i : Int) ∧ xs[i]? = some p.2 := by
  rw [enL_get] at h
  cases e : xs[i]? with
  | none => rw [e] at h; cases h
  | some x =>
    rw [e] at h
    cases h
    exact ⟨rfl, rfl⟩
theorem power_ok {b : Nat} (h : b ≤ 60) : m_power (b : Int) = some (((2 ^ b : Nat) : Int)) := by
  unfold m_power
  refine Ok.one (Ok.eq (v := (1 : Int)) rfl (Ok.eq (rng1_nat (by omega)) (Ok.bind (Ok.fold (fun i (s : Int) => s = ((2 ^ i : Nat) : Int)) rfl fun i x s hx hs => ?_) fun s hs => Ok.pure ?_)))
  · have hi : i < b := by
      have := (List.getElem?_eq_some_iff.mp hx).1
      rw [rg_len] at this; exact this
    subst hs
    have h60 : 2 ^ i < 2 ^ 60 := Nat.pow_lt_pow_right (by decide) (by omega)
    refine Ok.eq (mulO_ok (by rw [Int.natAbs_natCast]; omega)) (Ok.pure ?_)
    rw [Nat.pow_succ]; omega
  · rw [hs, rg_len]
def bitN (n b : Nat) : Bool := decide (n / 2 ^ b % 2 = 1)
theorem bit_of_ok {n b : Nat} (h : b ≤ 20) : ∃ v, m_bit_of (n : Int) (b : Int) = some v ∧ decide (v = (1 : Int)) = bitN n b := by
  unfold m_bit_of
  rw [power_ok (by omega)]
  have h1 : 2 ^ b ≤ 2 ^ 20 := Nat.pow_le_pow_right (by decide) h
  have h0 : 0 < 2 ^ b := Nat.pow_pos (by decide)
  simp only [Option.bind_some]
  rw [fdivO_pos (by omega) (by omega)]
  simp only [Option.bind_some]
  rw [modO_pos (by decide)]
  refine ⟨_, rfl, ?_⟩
  unfold bitN
  have e : ((n : Int) / ((2 ^ b : Nat) : Int)) % 2 = ((n / 2 ^ b % 2 : Nat) : Int) := by
    rw [← Int.natCast_ediv]; omega
  rw [e]
  by_cases z : n / 2 ^ b % 2 = 1
  · rw [decide_eq_true z, z]; rfl
  · rw [decide_eq_false z, decide_eq_false (by omega)]
def wd (n : Nat) : Nat := if n ≤ 2 then 1 else if n ≤ 4 then 2 else 3
def nmS (w : Nat) : List (List Nat) := (List.range w).map fun i => [115, 46, 48 + i]
def nmQ (w : Nat) : List (List Nat) := (List.range w).map fun i => [113, 46, 48 + i]
theorem upto8 {P : Nat → Prop} (h : P 1 ∧ P 2 ∧ P 3 ∧ P 4 ∧ P 5 ∧ P 6 ∧ P 7 ∧ P 8) {n : Nat} (h1 : 1 ≤ n) (h8 : n ≤ 8) : P n := by
  obtain ⟨a, b, c, d, e, f, g, i⟩ := h
  match n, h1, h8 with
  | 1, _, _ => exact a
  | 2, _, _ => exact b
  | 3, _, _ => exact c
  | 4, _, _ => exact d
  | 5, _, _ => exact e
  | 6, _, _ => exact f
  | 7, _, _ => exact g
  | 8, _, _ => exact i
theorem width_ok {n : Nat} (h1 : 1 ≤ n) (h8 : n ≤ 8) : m_width_of ((n : Int) - 1) = some ((wd n : Nat) : Int) :=
  upto8 (P := fun n => m_width_of ((n : Int) - 1) = some ((wd n : Nat) : Int)) (by refine ⟨?_, ?_, ?_, ?_, ?_, ?_, ?_, ?_⟩ <;> decide +kernel) h1 h8
theorem wd_pos (n : Nat) : 1 ≤ wd n := by unfold wd; split <;> (try split) <;> omega
theorem wd_le (n : Nat) : wd n ≤ 3 := by unfold wd; split <;> (try split) <;> omega
theorem wd_two {n : Nat} (h : n ≤ 8) : n ≤ 2 ^ wd n := by
  unfold wd
  split
  · omega
  · split <;> omega
def sgnT (w : Nat) : Option (List (List Nat)) := (rng1O (w : Int)).bind fun v2 => (mapO (fun x1 : Int => (strO x1).bind fun v3 => (catO ([115, 46] : List Nat) v3).bind fun v4 => some v4) v2).bind fun v5 => some v5
def lnT (w : Nat) : Option (List (List Nat)) := (rng1O (w : Int)).bind fun v2 => (mapO (fun x1 : Int => (catO [113] ([46] : List Nat)).bind fun v3 => (strO x1).bind fun v4 => (catO v3 v4).bind fun v5 => some v5) v2).bind fun v6 => some v6
theorem sign_names_ok {sg : List Nat} {k : Nat} (h : sg.length = k) (h1 : 1 ≤ k) (h8 : k ≤ 8) : m_sign_names sg = some (nmS (wd k)) := by
  have e : m_sign_names sg = (m_width_of ((sg.length : Int) - 1)).bind fun v1 => (rng1O v1).bind fun v2 => (mapO (fun x1 : Int => (strO x1).bind fun v3 => (catO ([115, 46] : List Nat) v3).bind fun v4 => some v4) v2).bind fun v5 => some v5 := rfl
  rw [e, h, width_ok h1 h8]
  show sgnT (wd k) = _
  exact upto8 (P := fun k => sgnT (wd k) = some (nmS (wd k))) (by refine ⟨?_, ?_, ?_, ?_, ?_, ?_, ?_, ?_⟩ <;> decide +kernel) h1 h8
theorem line_names_ok {M : Mach} {n : Nat} (h : M.length = n) (h1 : 1 ≤ n) (h8 : n ≤ 8) : m_line_names M [113] = some (nmQ (wd n)) := by
  have e : m_line_names M [113] = (m_width_of ((M.length : Int) - 1)).bind fun v1 => (rng1O v1).bind fun v2 => (mapO (fun x1 : Int => (catO [113] ([46] : List Nat)).bind fun v3 => (strO x1).bind fun v4 => (catO v3 v4).bind fun v5 => some v5) v2).bind fun v6 => some v6 := rfl
  rw [e, h, width_ok h1 h8]
  show lnT (wd n) = _
  exact upto8 (P := fun k => lnT (wd k) = some (nmQ (wd k))) (by refine ⟨?_, ?_, ?_, ?_, ?_, ?_, ?_, ?_⟩ <;> decide +kernel) h1 h8
/-- the literals' names -/
def litsOf (ws wm : Nat) : List ((List Nat) × Int) := ((List.range ws).map fun i : Nat => (([115, 46, 48 + i] : List Nat), 2 * ((i : Int) + 1))) ++ (List.range wm).map fun i : Nat => (([113, 46, 48 + i] : List Nat), 2 * ((ws : Int) + (i : Int) + 1))
def regsOf (wm : Nat) : List ((List Nat) × Bool) := (nmQ wm).map fun x => (x, false)
theorem upto3 {P : Nat → Prop} (h : P 1 ∧ P 2 ∧ P 3) {n : Nat} (h1 : 1 ≤ n) (h3 : n ≤ 3) : P n := by
  obtain ⟨a, b, c⟩ := h
  match n, h1, h3 with
  | 1, _, _ => exact a
  | 2, _, _ => exact b
  | 3, _, _ => exact c
theorem builder_init_ok {ws wm : Nat} (h1 : 1 ≤ ws) (h3 : ws ≤ 3) (g1 : 1 ≤ wm) (g3 : wm ≤ 3) : m_Builder___init__ (nmS ws) (regsOf wm) = some (nmS ws, regsOf wm, [], [], litsOf ws wm) :=
  upto3 (P := fun wm => m_Builder___init__ (nmS ws) (regsOf wm) = some (nmS ws, regsOf wm, [], [], litsOf ws wm))
    (upto3 (P := fun ws => m_Builder___init__ (nmS ws) (regsOf 1) = some (nmS ws, regsOf 1, [], [], litsOf ws 1) ∧ m_Builder___init__ (nmS ws) (regsOf 2) = some (nmS ws, regsOf 2, [], [], litsOf ws 2) ∧ m_Builder___init__ (nmS ws) (regsOf 3) = some (nmS ws, regsOf 3, [], [], litsOf ws 3))
      (by refine ⟨⟨?_, ?_, ?_⟩, ⟨?_, ?_, ?_⟩, ⟨?_, ?_, ?_⟩⟩ <;> rfl) h1 h3) g1 g3
theorem lits_S {ws wm i : Nat} (h3 : ws ≤ 3) (h : i < ws) : dgetO (litsOf ws wm) [115, 46, 48 + i] = some (2 * ((i : Int) + 1)) := by
  unfold litsOf
  rw [dget_app]
  have e : dgetO ((List.range ws).map fun i : Nat => (([115, 46, 48 + i] : List Nat), 2 * ((i : Int) + 1))) [115, 46, 48 + i] = some (2 * ((i : Int) + 1)) := by
    match ws, h3 with
    | 0, _ => omega
    | 1, _ =>
      have : i = 0 := by omega
      subst this; decide
    | 2, _ =>
      rcases (by omega : i = 0 ∨ i = 1) with e | e <;> (subst e; decide)
    | 3, _ =>
      rcases (by omega : i = 0 ∨ i = 1 ∨ i = 2) with e | e | e <;> (subst e; decide)
  rw [e]; rfl
theorem lits_Q {ws wm i : Nat} (h3 : ws ≤ 3) (g3 : wm ≤ 3) (h : i < wm) : dgetO (litsOf ws wm) [113, 46, 48 + i] = some (2 * ((ws : Int) + (i : Int) + 1)) := by
  unfold litsOf
  rw [dget_app]
  have e0 : dgetO ((List.range ws).map fun i : Nat => (([115, 46, 48 + i] : List Nat), 2 * ((i : Int) + 1))) [113, 46, 48 + i] = none := by
    refine dget_none ?_
    rw [List.any_eq_false]
    intro p hp
    obtain ⟨j, _, rfl⟩ := List.mem_map.mp hp
    simp
  have e : dgetO ((List.range wm).map fun i : Nat => (([113, 46, 48 + i] : List Nat), 2 * ((ws : Int) + (i : Int) + 1))) [113, 46, 48 + i] = some (2 * ((ws : Int) + (i : Int) + 1)) := by
    match wm, g3 with
    | 0, _ => omega
    | 1, _ =>
      have : i = 0 := by omega
      subst this; rfl
    | 2, _ =>
      rcases (by omega : i = 0 ∨ i = 1) with e | e <;> (subst e; rfl)
    | 3, _ =>
      rcases (by omega : i = 0 ∨ i = 1 ∨ i = 2) with e | e | e <;> (subst e; rfl)
  rw [e0, e]; rfl
theorem nmS_len (w : Nat) : (nmS w).length = w := by simp [nmS]
theorem nmQ_len (w : Nat) : (nmQ w).length = w := by simp [nmQ]
theorem nmS_get {w i : Nat} {x : List Nat} (h : (nmS w)[i]? = some x) : i < w ∧ x = [115, 46, 48 + i] := by
  have hi := (List.getElem?_eq_some_iff.mp h).1
  rw [nmS_len] at hi
  unfold nmS at h
  rw [List.getElem?_map, List.getElem?_range hi] at h
  cases h
  exact ⟨hi, rfl⟩
theorem nmQ_get {w i : Nat} {x : List Nat} (h : (nmQ w)[i]? = some x) : i < w ∧ x = [113, 46, 48 + i] := by
  have hi := (List.getElem?_eq_some_iff.mp h).1
  rw [nmQ_len] at hi
  unfold nmQ at h
  rw [List.getElem?_map, List.getElem?_range hi] at h
  cases h
  exact ⟨hi, rfl⟩
theorem lc2_one {α β γ : Type} {inner : α → Option (List γ)} {f : α → γ → Option β} {x : α} {ys : List γ} {zs : List β} (h1 : inner x = some ys) (h2 : mapO (f x) ys = some zs) (h3 : zs.length ≤ sizeLine) : lc2O inner f [x] = some zs := by
  have e : mapO (fun x => (inner x).bind fun ys => mapO (f x) ys) [x] = some [zs] := by
    unfold mapO
    rw [h1]
    simp only [Option.bind_some]
    rw [h2]
    rfl
  unfold lc2O
  rw [e]
  simp only [Option.bind_some, List.flatten_cons, List.flatten_nil, List.append_nil]
  rw [if_pos h3]
theorem making_init_ok {M : Mach} {sg : List Nat} {n k : Nat} (hM : M.length = n) (hs : sg.length = k) (h1 : 1 ≤ n) (h8 : n ≤ 8) (g1 : 1 ≤ k) (g8 : k ≤ 8) :
    m_Making___init__ M [113] sg = some (sg, nmS (wd k), regsOf (wd n), [], [], litsOf (wd k) (wd n)) := by
  unfold m_Making___init__
  have e : lc2O (fun x1 : (List Nat) => (dgetO [(([] : List Nat), M)] x1).bind fun v1 => (dgetO [(([] : List Nat), ([113] : List Nat))] x1).bind fun v2 => (m_line_names v1 v2).bind fun v3 => some v3) (fun (x1 : (List Nat)) (x2 : (List Nat)) => some (x2, false)) [[]] = some (regsOf (wd n)) := by
    have e0 : ((dgetO [(([] : List Nat), M)] ([] : List Nat)).bind fun v1 => (dgetO [(([] : List Nat), ([113] : List Nat))] ([] : List Nat)).bind fun v2 => (m_line_names v1 v2).bind fun v3 => some v3) = some (nmQ (wd n)) := by
      rw [dget_cons, if_pos rfl, dget_cons, if_pos rfl]
      simp only [Option.bind_some]
      rw [line_names_ok hM h1 h8]
      rfl
    have e1 : mapO (fun x2 : List Nat => some (x2, false)) (nmQ (wd n)) = some (regsOf (wd n)) := mapO_eq (g := fun x : List Nat => (x, false)) fun x _ => rfl
    have e2 : (regsOf (wd n)).length ≤ sizeLine := by
      have := wd_le n
      rw [regsOf, List.length_map, nmQ_len, sz16]; omega
    exact lc2_one e0 e1 e2
  rw [e]
  simp only [Option.bind_some]
  rw [sign_names_ok hs g1 g8]
  simp only [Option.bind_some]
  rw [builder_init_ok (wd_pos k) (wd_le k) (wd_pos n) (wd_le n)]
  rfl
end LW
namespace LW
open PySem L2 TW
section
variable {α β S : Type}
/-- loops by what is behind them -/
theorem Ok.foldP {f : S → α → Option S} (I : List α → S → Prop) {xs : List α} {s : S} (h : I [] s) (k : ∀ (i : Nat) pre x s, xs[i]? = some x → pre = xs.take i → pre.length = i → I pre s → Ok (f s x) (I (pre ++ [x]))) : Ok (foldO f s xs) (I xs) := by
  have z := Ok.fold (f := f) (fun i s => I (xs.take i) s) (xs := xs) (s := s) h fun i x s hx hs => by
    have hi := (List.getElem?_eq_some_iff.mp hx).1
    have e : xs.take (i + 1) = xs.take i ++ [x] := by rw [List.take_succ, hx]; rfl
    show Ok (f s x) fun s' => I (xs.take (i + 1)) s'
    rw [e]
    exact k i _ x s hx rfl (by rw [List.length_take]; omega) hs
  rw [show (fun s => I (xs.take xs.length) s) = I xs by rw [List.take_length]] at z
  exact z
theorem Ok.mapSI {f : S → α → Option (β × S)} (I : List β → S → Prop) : ∀ {xs : List α} {s : S} (ys : List β), I ys s → (∀ i x ys' s, xs[i]? = some x → ys'.length = ys.length + i → I ys' s → Ok (f s x) fun p => I (ys' ++ [p.1]) p.2) → Ok (TW.mapS f s xs) fun q => q.1.length = xs.length ∧ I (ys ++ q.1) q.2
  | [], s, ys, h, _ => ⟨([], s), rfl, rfl, by rw [List.append_nil]; exact h⟩
  | x :: xs, s, ys, h, k => by
    obtain ⟨⟨y, s1⟩, e1, h1⟩ := k 0 x ys s rfl rfl h
    obtain ⟨⟨zs, s2⟩, e2, l2, h2⟩ := Ok.mapSI I (xs := xs) (s := s1) (ys ++ [y]) h1 fun i x' ys' s' hx hl hs => k (i + 1) x' ys' s' (by simpa using hx) (by rw [hl, List.length_append, List.length_singleton]; omega) hs
    refine ⟨(y :: zs, s2), ?_, by show zs.length + 1 = xs.length + 1; rw [show zs.length = xs.length from l2], ?_⟩
    · unfold TW.mapS
      rw [e1]
      simp only [Option.bind_some]
      rw [e2]
      rfl
    · show I (ys ++ y :: zs) s2
      rw [show ys ++ y :: zs = ys ++ [y] ++ zs by simp]
      exact h2
end
theorem lit_in {F : Nat} {g : Gates} {i : Nat} (h : i < F) : Lit F g (2 * (i : Int)) fun env => env.getD i false := ⟨by omega, by omega, fun env e1 e2 => by
  unfold lv
  have e : (2 * (i : Int) / 2).toNat = i := by omega
  rw [e, decide_eq_false (show ¬ (2 * (i : Int)) % 2 = 1 by omega), List.getD_eq_getElem?_getD, ext_get g env i (by omega), ← List.getD_eq_getElem?_getD]
  cases env.getD i false <;> rfl⟩
def codeF (b w N : Nat) (env : List Bool) : Bool := (List.range w).all fun i => env.getD (b + i) false == bitN N i
section
variable {inp : List (List Nat)} {reg : List ((List Nat) × Bool)} {lits : List ((List Nat) × Int)} {sg : List Nat}
theorem coded_ok {F : Nat} {g : Gates} {kn : Known} {nms : List (List Nat)} {b N : Nat} (hF : F = 1 + inp.length + reg.length) (B : BOk F g kn) (hn : ∀ (i : Nat) x, nms[i]? = some x → dgetO lits x = some (2 * ((b + i : Nat) : Int)) ∧ b + i < F) (h20 : nms.length ≤ 20) (hl : g.length + nms.length < 1000000) :
    Ok (m_Making_coded sg inp reg lits g kn nms (N : Int)) fun r => Grow F g nms.length r.2.1 r.2.2 ∧ Lit F r.2.1 r.1 (codeF b nms.length N) := by
  unfold m_Making_coded
  refine Ok.eq (v := (1 : Int)) rfl ?_
  refine Ok.bind (Ok.fold (fun i (s : Int × Gates × Known) => Grow F g i s.2.1 s.2.2 ∧ Lit F s.2.1 s.1 (codeF b i N)) ⟨Grow.refl B, (lit1 (by omega)).to fun env _ _ => rfl⟩ fun i x s hx ⟨gr, h⟩ => ?_) fun s hs => Ok.pure ?_
  · obtain ⟨e1, e2⟩ := enL_of hx
    have hi := (List.getElem?_eq_some_iff.mp e2).1
    obtain ⟨d1, d2⟩ := hn i _ e2
    obtain ⟨v, w1, w2⟩ := bit_of_ok (n := N) (b := i) (by omega)
    refine Ok.eq d1 (Ok.eq (by rw [e1]; exact w1) ?_)
    have hlen := gr.len
    refine Ok.bind (Q := fun l => Lit F s.2.1 l fun env => env.getD (b + i) false == bitN N i) (Ok.ite (fun hv => Ok.pure ((lit_in d2).to fun env _ _ => ?_)) fun hv => ?_) fun l hl' => ?_
    · rw [← w2, hv]; cases env.getD (b + i) false <;> rfl
    · refine Ok.bind (turned_ok (lit_in d2)) fun l' hl' => Ok.pure (hl'.to fun env _ _ => ?_)
      rw [← w2, hv]; cases env.getD (b + i) false <;> rfl
    · refine Ok.bind (conj_ok hF gr.ok h hl' (by omega)) fun r ⟨g2, h2⟩ => Ok.pure ⟨gr.trans g2, h2.to fun env _ _ => ?_⟩
      unfold codeF
      rw [List.range_succ, List.all_append]
      simp
  · rw [enL_len] at hs
    exact hs
theorem any_congr' {α : Type} {p q : α → Bool} : ∀ {ls : List α}, (∀ l ∈ ls, p l = q l) → ls.any p = ls.any q
  | [], _ => rfl
  | l :: ls, h => by rw [List.any_cons, List.any_cons, h l List.mem_cons_self, any_congr' fun x hx => h x (List.mem_cons_of_mem _ hx)]
/-- any of these -/
structure AnyLit (F : Nat) (g : Gates) (ls : List Int) (f : List Bool → Bool) : Prop where
  bd : ∀ l ∈ ls, 0 ≤ l ∧ l < 2 * ((F + g.length : Nat) : Int)
  val : ∀ env : List Bool, env.length = F → env[0]? = some false → (ls.any fun l => lv (ext env g) l) = f env
theorem AnyLit.mono {F : Nat} {g : Gates} {ls : List Int} {f : List Bool → Bool} (h : AnyLit F g ls f) (m : Gates) : AnyLit F (g ++ m) ls f :=
  ⟨fun l hl => by obtain ⟨a, b⟩ := h.bd l hl; rw [List.length_append]; omega, fun env e1 e2 => by
    rw [← h.val env e1 e2, ext_app]
    refine any_congr' fun l hl => ?_
    obtain ⟨a, b⟩ := h.bd l hl
    exact lv_ext a (by rw [ext_len, e1]; exact b)⟩
theorem AnyLit.to {F : Nat} {g : Gates} {ls : List Int} {f f' : List Bool → Bool} (h : AnyLit F g ls f) (e : ∀ env, f env = f' env) : AnyLit F g ls f' := ⟨h.bd, fun env e1 e2 => (h.val env e1 e2).trans (e env)⟩
theorem AnyLit.nil {F : Nat} {g : Gates} : AnyLit F g [] fun _ => false := ⟨fun l hl => (by cases hl), fun _ _ _ => rfl⟩
theorem AnyLit.app {F : Nat} {g : Gates} {ls ms : List Int} {f f' : List Bool → Bool} (h : AnyLit F g ls f) (h' : AnyLit F g ms f') : AnyLit F g (ls ++ ms) fun env => f env || f' env :=
  ⟨fun l hl => (List.mem_append.mp hl).elim (h.bd l) (h'.bd l), fun env e1 e2 => by rw [List.any_append, h.val env e1 e2, h'.val env e1 e2]⟩
theorem AnyLit.one {F : Nat} {g : Gates} {l : Int} {f : List Bool → Bool} (h : Lit F g l f) : AnyLit F g [l] f :=
  ⟨fun m hm => by rw [List.mem_singleton.mp hm]; exact ⟨h.lo, h.hi⟩, fun env e1 e2 => by rw [List.any_cons, List.any_nil, Bool.or_false, h.val env e1 e2]⟩
theorem Grow.any {F n : Nat} {g g' : Gates} {k' : Known} {ls : List Int} {f : List Bool → Bool} (a : Grow F g n g' k') (h : AnyLit F g ls f) : AnyLit F g' ls f := by
  obtain ⟨x, e, _⟩ := a.ex
  rw [e]; exact h.mono x
theorem one_of_ok {F : Nat} {g : Gates} {kn : Known} {ls : List Int} {f : List Bool → Bool} (hF : F = 1 + inp.length + reg.length) (B : BOk F g kn) (h : AnyLit F g ls f) (hl : g.length + ls.length < 1000000) :
    Ok (m_Making_one_of sg inp reg lits g kn ls) fun r => Grow F g ls.length r.2.1 r.2.2 ∧ Lit F r.2.1 r.1 f := by
  unfold m_Making_one_of
  refine Ok.eq (v := (0 : Int)) rfl ?_
  refine Ok.bind (Ok.foldP (fun (pre : List Int) (s : Int × Gates × Known) => Grow F g pre.length s.2.1 s.2.2 ∧ Lit F s.2.1 s.1 fun env => pre.any fun l => lv (ext env g) l) ⟨Grow.refl B, lit0 (by omega)⟩ fun i pre x s hx hp hpl ⟨gr, h2⟩ => ?_) fun s ⟨h1, h2⟩ => Ok.pure ⟨h1, h2.to fun env e1 e2 => h.val env e1 e2⟩
  have hi := (List.getElem?_eq_some_iff.mp hx).1
  obtain ⟨b0, b1⟩ := h.bd x (List.mem_of_getElem? hx)
  have hx1 : Lit F g x fun env => lv (ext env g) x := ⟨b0, b1, fun _ _ _ => rfl⟩
  have hlen := gr.len
  refine Ok.bind (disj_ok hF gr.ok h2 (gr.lit hx1) (by omega)) fun r ⟨g2, h3⟩ => Ok.pure ⟨by rw [List.length_append, List.length_singleton]; exact gr.trans g2, h3.to fun env _ _ => ?_⟩
  rw [List.any_append, List.any_cons, List.any_nil, Bool.or_false]
end
end LW
namespace LW
open PySem L2 TW
abbrev Ctr := List (Nat × (List Bool → Bool))
def anyF (k ws : Nat) (env : List Bool) : Bool := (List.range k).any fun c => codeF 1 ws c env
def stepC (ws wm i : Nat) (e : Int × Int) : Nat × (List Bool → Bool) := (e.2.toNat, fun env => codeF (1 + ws) wm i env && codeF 1 ws e.1.toNat env)
def contr0 (n k ws wm : Nat) : Ctr := (List.range n).map fun q => (q, fun env => codeF (1 + ws) wm q env && !anyF k ws env)
def contrM (M : Mach) (ws wm : Nat) : Ctr := (enL M).flatMap fun p => (enL p.2.2).map (stepC ws wm p.1.toNat)
def accF (M : Mach) (ws wm : Nat) (env : List Bool) : Bool := (enL M).any fun p => p.2.1 && codeF (1 + ws) wm p.1.toNat env
theorem ixN_ok {n : Nat} {i : Int} (h0 : 0 ≤ i) (h : i < (n : Int)) : ixN n i = some i.toNat := by
  unfold ixN
  simp [h0, h]
structure Comes (F : Nat) (g : Gates) (n : Nat) (comes : List (List Int)) (cs : Ctr) : Prop where
  len : comes.length = n
  any : ∀ (q : Nat) l, comes[q]? = some l → AnyLit F g l (fun env => cs.any fun c => c.1 == q && c.2 env) ∧ l.length ≤ cs.length
theorem Grow.comes {F m n : Nat} {g g' : Gates} {k' : Known} {co : List (List Int)} {cs : Ctr} (a : Grow F g m g' k') (h : Comes F g n co cs) : Comes F g' n co cs := ⟨h.len, fun q l hq => ⟨a.any (h.any q l hq).1, (h.any q l hq).2⟩⟩
theorem Comes.push {F n : Nat} {g : Gates} {co : List (List Int)} {cs : Ctr} {o l : Int} {f : List Bool → Bool} (h : Comes F g n co cs) (hl : Lit F g l f) (h0 : 0 ≤ o) (h1 : o < (n : Int)) (hb : cs.length < 16777216) : Ok (pushAt co o l) fun co' => Comes F g n co' (cs ++ [(o.toNat, f)]) := by
  obtain ⟨x, hx⟩ : ∃ x, co[o.toNat]? = some x := ⟨_, List.getElem?_eq_getElem (by rw [h.len]; omega)⟩
  obtain ⟨a1, a2⟩ := h.any _ _ hx
  unfold pushAt
  refine Ok.eq (ixN_ok h0 (by rw [h.len]; exact h1)) (Ok.eq hx ?_)
  rw [push_ok (by omega)]
  refine Ok.pure ⟨by rw [List.length_set]; exact h.len, fun q y hy => ?_⟩
  rw [List.getElem?_set] at hy
  split at hy
  · rename_i eq
    split at hy
    · cases hy
      refine ⟨(a1.app (AnyLit.one hl)).to fun env => ?_, by rw [List.length_append, List.length_append]; simpa using a2⟩
      rw [List.any_append, List.any_cons, List.any_nil, eq]
      simp
    · cases hy
  · rename_i ne
    obtain ⟨b1, b2⟩ := h.any _ _ hy
    refine ⟨b1.to fun env => ?_, by rw [List.length_append]; omega⟩
    rw [List.any_append, List.any_cons, List.any_nil]
    have : (o.toNat == q) = false := by simpa using ne
    simp [this]
/-- what the machine's literals mean -/
structure NetOk (F : Nat) (M : Mach) (k ws wm : Nat) (g : Gates) (acc : Int) (nx : List Int) : Prop where
  acc : Lit F g acc (accF M ws wm)
  len : nx.length = wm
  nx : ∀ (b : Nat) l, nx[b]? = some l → Lit F g l fun env => (contr0 M.length k ws wm ++ contrM M ws wm).any fun c => bitN c.1 b && c.2 env
theorem flat_len (M : Mach) (ws wm k : Nat) (h : ∀ p ∈ M, p.2.length = k) : (contrM M ws wm).length = M.length * k := by
  unfold contrM
  rw [List.length_flatMap]
  have : ((enL M).map fun p => ((enL p.2.2).map (stepC ws wm p.1.toNat)).length) = (enL M).map fun _ => k := by
    refine List.map_congr_left fun p hp => ?_
    rw [List.length_map, enL_len]
    obtain ⟨i, hi, e⟩ := List.getElem_of_mem hp
    have := enL_of (xs := M) (i := i) (p := p) (by rw [← e]; exact List.getElem?_eq_getElem hi)
    exact h _ (List.mem_of_getElem? this.2)
  have e2 : ∀ {α : Type} (xs : List α), (xs.map fun _ => k).sum = xs.length * k := fun xs => by
    induction xs with
    | nil => simp
    | cons x xs ih => rw [List.map_cons, List.sum_cons, ih, List.length_cons, Nat.add_mul]; omega
  exact (congrArg List.sum this).trans ((e2 _).trans (by rw [enL_len]))
section
variable {sg : List Nat} {M : Mach}
theorem making_ok {n k F : Nat} (hM : MOk n k M) (hk : sg.length = k) (n1 : 1 ≤ n) (n8 : n ≤ 8) (k1 : 1 ≤ k) (k8 : k ≤ 8) (hF : F = 1 + wd k + wd n) :
    Ok (m_Making_machine sg (nmS (wd k)) (regsOf (wd n)) (litsOf (wd k) (wd n)) [] [] M [113]) fun r => BOk F r.2.1 r.2.2 ∧ r.2.1.length ≤ 10000 ∧ NetOk F M k (wd k) (wd n) r.2.1 r.1.1 r.1.2 := by
  have hws := wd_le k
  have hwm := wd_le n
  have hF' : F = 1 + (nmS (wd k)).length + (regsOf (wd n)).length := by rw [nmS_len, regsOf, List.length_map, nmQ_len]; exact hF
  have hln : ∀ (i : Nat) x, (nmQ (wd n))[i]? = some x → dgetO (litsOf (wd k) (wd n)) x = some (2 * (((1 + wd k) + i : Nat) : Int)) ∧ (1 + wd k) + i < F := fun i x hx => by
    obtain ⟨a, rfl⟩ := nmQ_get hx
    refine ⟨?_, by omega⟩
    rw [lits_Q hws hwm a]
    congr 1; omega
  have hsn : ∀ (i : Nat) x, (nmS (wd k))[i]? = some x → dgetO (litsOf (wd k) (wd n)) x = some (2 * ((1 + i : Nat) : Int)) ∧ 1 + i < F := fun i x hx => by
    obtain ⟨a, rfl⟩ := nmS_get hx
    refine ⟨?_, by omega⟩
    rw [lits_S hws a]
    congr 1; omega
  have B0 : BOk F [] [] := ⟨fun k p h => by simp at h, fun key l h => by simp [dgetO] at h, Nat.le_refl _⟩
  unfold m_Making_machine
  refine Ok.eq (line_names_ok hM.len n1 n8) (Ok.eq (v := rg n) (by rw [hM.len]; exact rng1_nat (by omega)) ?_)
  -- the lines
  refine Ok.bind (Ok.mapSI (fun (ys : List Int) (s : Gates × Known) => Grow F [] (3 * ys.length) s.1 s.2 ∧ ∀ (j : Nat) l, ys[j]? = some l → Lit F s.1 l (codeF (1 + wd k) (wd n) j)) [] ⟨Grow.refl B0, fun j l h => by simp at h⟩ fun i x ys s hx hl ⟨gr, h⟩ => ?_) fun v4 ⟨l4, G4, L4⟩ => ?_
  · have hi : i < n := by have := (List.getElem?_eq_some_iff.mp hx).1; rw [rg_len] at this; exact this
    rw [rg_get hi] at hx; cases hx
    have e0 : ys.length = i := by rw [hl]; simp
    have hlen := gr.len
    refine Ok.bind (coded_ok (N := i) hF' gr.ok hln (by rw [nmQ_len]; omega) (by rw [nmQ_len]; simp at hlen; omega)) fun r ⟨g2, h2⟩ => Ok.pure ⟨(gr.trans g2).le (by rw [nmQ_len]; simp; omega), fun j l hj => ?_⟩
    rw [nmQ_len] at h2
    by_cases hji : j < ys.length
    · rw [List.getElem?_append_left hji] at hj
      exact g2.lit (h j l hj)
    · have := (List.getElem?_eq_some_iff.mp hj).1
      rw [List.length_append, List.length_singleton] at this
      have ej : j = ys.length := by omega
      subst ej
      rw [List.getElem?_append_right (Nat.le_refl _), Nat.sub_self] at hj
      cases hj
      rw [e0]
      exact h2
  rw [List.nil_append] at G4 L4
  rw [rg_len] at l4
  have H4 := G4.len
  refine Ok.eq (v := rg k) (by rw [hk]; exact rng1_nat (by omega)) ?_
  -- the signs
  refine Ok.bind (Ok.mapSI (fun (ys : List Int) (s : Gates × Known) => Grow F v4.2.1 (3 * ys.length) s.1 s.2 ∧ ∀ (j : Nat) l, ys[j]? = some l → Lit F s.1 l (codeF 1 (wd k) j)) [] ⟨Grow.refl G4.ok, fun j l h => by simp at h⟩ fun i x ys s hx hl ⟨gr, h⟩ => ?_) fun v8 ⟨l8, G8, L8⟩ => ?_
  · have hi : i < k := by have := (List.getElem?_eq_some_iff.mp hx).1; rw [rg_len] at this; exact this
    rw [rg_get hi] at hx; cases hx
    have e0 : ys.length = i := by rw [hl]; simp
    have hlen := gr.len
    refine Ok.eq (sign_names_ok hk k1 k8) (Ok.bind (coded_ok (N := i) hF' gr.ok hsn (by rw [nmS_len]; omega) (by rw [nmS_len]; simp at H4; omega)) fun r ⟨g2, h2⟩ => Ok.pure ⟨(gr.trans g2).le (by rw [nmS_len]; simp; omega), fun j l hj => ?_⟩)
    rw [nmS_len] at h2
    by_cases hji : j < ys.length
    · rw [List.getElem?_append_left hji] at hj
      exact g2.lit (h j l hj)
    · have := (List.getElem?_eq_some_iff.mp hj).1
      rw [List.length_append, List.length_singleton] at this
      have ej : j = ys.length := by omega
      subst ej
      rw [List.getElem?_append_right (Nat.le_refl _), Nat.sub_self] at hj
      cases hj
      rw [e0]
      exact h2
  rw [List.nil_append] at G8 L8
  rw [rg_len] at l8
  have H8 := G8.len
  simp only [List.length_nil] at H4
  have A8 : AnyLit F v8.2.1 v8.1 (anyF k (wd k)) := ⟨fun l hl => by
      obtain ⟨j, hj, e⟩ := List.getElem_of_mem hl
      have z := L8 j l (by rw [← e]; exact List.getElem?_eq_getElem hj)
      exact ⟨z.lo, z.hi⟩, fun env e1 e2 => by
      have : v8.1.map (fun l => lv (ext env v8.2.1) l) = (List.range k).map fun c => codeF 1 (wd k) c env := by
        refine List.ext_getElem? fun j => ?_
        rw [List.getElem?_map, List.getElem?_map]
        by_cases hj : j < k
        · obtain ⟨l, hl⟩ : ∃ l, v8.1[j]? = some l := ⟨_, List.getElem?_eq_getElem (by omega)⟩
          rw [hl, List.getElem?_range hj]
          show some (lv (ext env v8.2.1) l) = some _
          rw [(L8 j l hl).val env e1 e2]
        · rw [List.getElem?_eq_none (by omega), List.getElem?_eq_none (by simp; omega)]; rfl
      unfold anyF
      have z : ∀ {α : Type} (p : α → Bool) (xs : List α), xs.any p = (xs.map p).any id := fun p xs => by rw [List.any_map]; rfl
      rw [z, this, ← z]⟩
  refine Ok.bind (one_of_ok hF' G8.ok A8 (by rw [l8]; omega)) fun v9 ⟨G9, L9⟩ => ?_
  have H9 := G9.len
  refine Ok.bind (turned_ok L9) fun v10 L10 => ?_
  -- what passes
  have G49 := G8.trans G9
  have hat : ∀ (i : Nat), i < n → ∃ l, atI v4.1 (i : Int) = some l ∧ v4.1[i]? = some l := fun i hi => ⟨v4.1[i], at_nat (List.getElem?_eq_getElem (by omega)), List.getElem?_eq_getElem (by omega)⟩
  refine Ok.eq (filtO_eq (q := fun p : Int × (Bool × List Int) => p.2.1) (g := fun p => (v4.1[p.1.toNat]?).getD 0) (fun p _ => rfl) fun p hp _ => ?_) ?_
  · obtain ⟨i, hi, e⟩ := List.getElem_of_mem hp
    obtain ⟨e1, e2⟩ := enL_of (xs := M) (i := i) (p := p) (by rw [← e]; exact List.getElem?_eq_getElem hi)
    rw [enL_len, hM.len] at hi
    obtain ⟨l, a, b⟩ := hat i hi
    rw [e1, a]
    show some l = some ((v4.1[((i : Nat) : Int).toNat]?).getD 0)
    rw [Int.toNat_natCast, b]; rfl
  have hline : ∀ p ∈ enL M, Lit F v9.2.1 ((v4.1[p.1.toNat]?).getD 0) (codeF (1 + wd k) (wd n) p.1.toNat) := fun p hp => by
    obtain ⟨i, hi, e⟩ := List.getElem_of_mem hp
    obtain ⟨e1, e2⟩ := enL_of (xs := M) (i := i) (p := p) (by rw [← e]; exact List.getElem?_eq_getElem hi)
    rw [enL_len, hM.len] at hi
    obtain ⟨l, a, b⟩ := hat i hi
    rw [e1, Int.toNat_natCast, b]
    exact G49.lit (L4 i l b)
  have A12 : AnyLit F v9.2.1 (((enL M).filter fun p => p.2.1).map fun p => (v4.1[p.1.toNat]?).getD 0) (accF M (wd k) (wd n)) := ⟨fun l hl => by
      obtain ⟨p, hp, rfl⟩ := List.mem_map.mp hl
      have z := hline p (List.mem_filter.mp hp).1
      exact ⟨z.lo, z.hi⟩, fun env e1 e2 => by
      rw [List.any_map, List.any_filter]
      unfold accF
      refine any_congr' fun p hp => ?_
      show (p.2.1 && lv (ext env v9.2.1) ((v4.1[p.1.toNat]?).getD 0)) = _
      rw [(hline p hp).val env e1 e2]⟩
  have hl12 : (((enL M).filter fun p => p.2.1).map fun p : Int × (Bool × List Int) => (v4.1[p.1.toNat]?).getD 0).length ≤ n := by
    rw [List.length_map]
    refine Nat.le_trans (List.length_filter_le _ _) ?_
    rw [enL_len, hM.len]; exact Nat.le_refl _
  refine Ok.bind (one_of_ok hF' G9.ok A12 (by omega)) fun v13 ⟨G13, L13⟩ => ?_
  have H13 := G13.len
  refine Ok.eq (v := rg n) (by rw [hM.len]; exact rng1_nat (by omega)) ?_
  -- the lines that stay
  have L10' : Lit F v13.2.1 v10 fun env => !anyF k (wd k) env := G13.lit L10
  have G413 := G49.trans G13
  refine Ok.bind (Ok.mapSI (fun (ys : List (List Int)) (s : Gates × Known) => Grow F v13.2.1 ys.length s.1 s.2 ∧ ∀ (j : Nat) l, ys[j]? = some l → ∃ x, l = [x] ∧ Lit F s.1 x fun env => codeF (1 + wd k) (wd n) j env && !anyF k (wd k) env) [] ⟨Grow.refl G13.ok, fun j l h => by simp at h⟩ fun i x ys s hx hl ⟨gr, h⟩ => ?_) fun v17 ⟨l17, G17, L17⟩ => ?_
  · have hi : i < n := by have := (List.getElem?_eq_some_iff.mp hx).1; rw [rg_len] at this; exact this
    rw [rg_get hi] at hx; cases hx
    have e0 : ys.length = i := by rw [hl]; simp
    have hlen := gr.len
    obtain ⟨l, a, b⟩ := hat i hi
    refine Ok.eq a (Ok.bind (conj_ok hF' gr.ok (gr.lit (G413.lit (L4 i l b))) (gr.lit L10') (by omega)) fun r ⟨g2, h2⟩ => Ok.pure ⟨(gr.trans g2).le (by simp), fun j l hj => ?_⟩)
    by_cases hji : j < ys.length
    · rw [List.getElem?_append_left hji] at hj
      obtain ⟨x, e, z⟩ := h j l hj
      exact ⟨x, e, g2.lit z⟩
    · have := (List.getElem?_eq_some_iff.mp hj).1
      rw [List.length_append, List.length_singleton] at this
      have ej : j = ys.length := by omega
      subst ej
      rw [List.getElem?_append_right (Nat.le_refl _), Nat.sub_self] at hj
      cases hj
      rw [e0]
      exact ⟨_, rfl, h2⟩
  rw [List.nil_append] at G17 L17
  rw [rg_len] at l17
  have H17 := G17.len
  have G417 := G413.trans G17
  have G817 := (G9.trans G13).trans G17
  have C17 : Comes F v17.2.1 n v17.1 (contr0 n k (wd k) (wd n)) := ⟨l17, fun q l hq => by
    obtain ⟨x, e, z⟩ := L17 q l hq
    have hq' : q < n := by have := (List.getElem?_eq_some_iff.mp hq).1; omega
    subst e
    refine ⟨(AnyLit.one z).to fun env => ?_, by unfold contr0; rw [List.length_map, List.length_range]; show 1 ≤ n; omega⟩
    unfold contr0
    rw [List.any_map]
    rw [Bool.eq_iff_iff, List.any_eq_true]
    constructor
    · intro hh
      exact ⟨q, List.mem_range.mpr hq', by simpa using hh⟩
    · rintro ⟨r, _, hr⟩
      simp only [Function.comp_apply, Bool.and_eq_true, beq_iff_eq] at hr
      obtain ⟨rfl, hr⟩ := hr
      simpa using hr⟩
  -- the steps
  have lc0 : (contr0 n k (wd k) (wd n)).length = n := by unfold contr0; rw [List.length_map, List.length_range]
  refine Ok.bind (Ok.foldP (fun (pre : List (Int × (Bool × List Int))) (s : Gates × Known × List (List Int)) => Grow F v17.2.1 (k * pre.length) s.1 s.2.1 ∧ Comes F s.1 n s.2.2 (contr0 n k (wd k) (wd n) ++ pre.flatMap fun p => (enL p.2.2).map (stepC (wd k) (wd n) p.1.toNat)) ∧ (pre.flatMap fun p => (enL p.2.2).map (stepC (wd k) (wd n) p.1.toNat)).length = k * pre.length)
    ⟨Grow.refl G17.ok, by rw [List.flatMap_nil, List.append_nil]; exact C17, by simp⟩ fun i pre p s hp hpre hpl ⟨gr, co, ll⟩ => ?_) fun s7 ⟨G7, C7, _⟩ => ?_
  · obtain ⟨e1, e2⟩ := enL_of hp
    have hi : i < n := by have := (List.getElem?_eq_some_iff.mp e2).1; rw [hM.len] at this; exact this
    obtain ⟨r1, r2⟩ := hM.row p.2 (List.mem_of_getElem? e2)
    obtain ⟨l, a, b⟩ := hat i hi
    have hgl := gr.len
    have hki : k * i ≤ 64 := Nat.mul_le_mul k8 (by omega : i ≤ 8)
    refine Ok.bind (Ok.foldP (fun (pr : List (Int × Int)) (t : Gates × Known × List (List Int)) => Grow F s.1 pr.length t.1 t.2.1 ∧ Comes F t.1 n t.2.2 ((contr0 n k (wd k) (wd n) ++ pre.flatMap fun p => (enL p.2.2).map (stepC (wd k) (wd n) p.1.toNat)) ++ ((enL p.2.2).take pr.length).map (stepC (wd k) (wd n) p.1.toNat)))
      ⟨Grow.refl gr.ok, by simpa using co⟩ fun j pr x t hx hpr hprl ⟨gt, ct⟩ => ?_) fun t ⟨gt, ct⟩ => Ok.pure ⟨(gr.trans gt).le (by rw [List.length_zip, l8, r1, List.length_append, List.length_singleton, Nat.min_self, Nat.mul_add]; omega), ?_, ?_⟩
    · obtain ⟨z1, z2⟩ := List.getElem?_zip_eq_some.mp hx
      have hjk : j < k := by have := (List.getElem?_eq_some_iff.mp z1).1; omega
      obtain ⟨o0, o1⟩ := r2 x.2 (List.mem_of_getElem? z2)
      have hgt := gt.len
      refine Ok.eq (by rw [e1]; exact a) (Ok.bind (conj_ok hF' gt.ok (gt.lit (gr.lit (G417.lit (L4 i l b)))) (gt.lit (gr.lit (G817.lit (L8 j x.1 z1)))) (by rw [hpl] at hgl; omega)) fun r ⟨g2, h2⟩ => ?_)
      refine Ok.bind ((g2.comes ct).push h2 o0 o1 ?_) fun co' hco => Ok.pure ⟨by rw [List.length_append, List.length_singleton]; exact gt.trans g2, ?_⟩
      · rw [List.length_append, List.length_append, ll, hpl, lc0, List.length_map, List.length_take, enL_len]
        omega
      · have e3 : (enL p.2.2)[j]? = some ((j : Int), x.2) := by rw [enL_get, z2]; rfl
        rw [List.length_append, List.length_singleton, hprl, List.take_succ, e3, List.map_append, ← List.append_assoc]
        rw [hprl] at hco
        have e4 : stepC (wd k) (wd n) p.1.toNat ((j : Int), x.2) = (x.2.toNat, fun env => codeF (1 + wd k) (wd n) i env && codeF 1 (wd k) j env) := by
          unfold stepC
          rw [e1, Int.toNat_natCast, Int.toNat_natCast]
        show Comes F _ n co' (_ ++ [stepC (wd k) (wd n) p.1.toNat ((j : Int), x.2)])
        rw [e4]
        exact hco
    · rw [List.length_zip, l8, r1, Nat.min_self, List.take_of_length_le (by rw [enL_len, r1]; exact Nat.le_refl _)] at ct
      rw [List.flatMap_append, List.flatMap_singleton, ← List.append_assoc]
      exact ct
    · rw [List.flatMap_append, List.flatMap_singleton, List.length_append, ll, List.length_map, enL_len, r1, List.length_append, List.length_singleton, Nat.mul_add]; omega
  have H7 := G7.len
  have hnk : k * n ≤ 64 := Nat.mul_le_mul k8 n8
  rw [enL_len, hM.len] at H7
  refine Ok.eq (v := rg (wd n)) (by rw [nmQ_len]; exact rng1_nat (by omega)) ?_
  -- the next numbers
  have lcM : (contrM M (wd k) (wd n)).length = n * k := by rw [flat_len M _ _ k fun p hp => (hM.row p hp).1, hM.len]
  have hCL : (contr0 n k (wd k) (wd n) ++ contrM M (wd k) (wd n)).length ≤ 72 := by rw [List.length_append, lc0, lcM, Nat.mul_comm n k]; omega
  have C7' : Comes F s7.1 n s7.2.2 (contr0 n k (wd k) (wd n) ++ contrM M (wd k) (wd n)) := C7
  refine Ok.bind (Ok.fold (fun b (s : Gates × Known × List Int) => Grow F s7.1 (1000 * b) s.1 s.2.1 ∧ s.2.2.length = b ∧ ∀ (j : Nat) l, s.2.2[j]? = some l → Lit F s.1 l fun env => (contr0 n k (wd k) (wd n) ++ contrM M (wd k) (wd n)).any fun c => bitN c.1 j && c.2 env) ⟨Grow.refl G7.ok, rfl, fun j l h => by simp at h⟩ fun b x s hx ⟨gr, sl, h⟩ => ?_) fun s ⟨gs, sl, hs⟩ => Ok.pure ⟨gs.ok, ?_, (gs.lit (G7.lit (G17.lit L13))), by rw [sl, rg_len], by rw [hM.len]; exact hs⟩
  · have hb : b < wd n := by have := (List.getElem?_eq_some_iff.mp hx).1; rw [rg_len] at this; exact this
    rw [rg_get hb] at hx; cases hx
    have hgl := gr.len
    refine Ok.bind (Ok.fold (fun q (ls : List Int) => AnyLit F s.1 ls (fun env => (contr0 n k (wd k) (wd n) ++ contrM M (wd k) (wd n)).any fun c => decide (c.1 < q) && (bitN c.1 b && c.2 env)) ∧ ls.length ≤ 72 * q) ⟨AnyLit.nil.to fun env => by simp, Nat.le_refl _⟩ fun q x ls hx ⟨hA, hl⟩ => ?_) fun ls ⟨hA, hl⟩ => ?_
    · obtain ⟨e1, e2⟩ := enL_of hx
      have hq : q < n := by have := (List.getElem?_eq_some_iff.mp e2).1; rw [C7.len] at this; exact this
      obtain ⟨v, w1, w2⟩ := bit_of_ok (n := q) (b := b) (by omega)
      obtain ⟨c1, c2⟩ := C7'.any q x.2 e2
      refine Ok.eq (by rw [e1]; exact w1) ?_
      rw [w2]
      have hAdd : AnyLit F s.1 (ls ++ (if bitN q b = true then x.2 else [])) (fun env => (contr0 n k (wd k) (wd n) ++ contrM M (wd k) (wd n)).any fun c => decide (c.1 < q + 1) && (bitN c.1 b && c.2 env)) := by
        have key : ∀ env, (((contr0 n k (wd k) (wd n) ++ contrM M (wd k) (wd n)).any fun c => decide (c.1 < q) && (bitN c.1 b && c.2 env)) || (bitN q b && ((contr0 n k (wd k) (wd n) ++ contrM M (wd k) (wd n)).any fun c => c.1 == q && c.2 env))) = ((contr0 n k (wd k) (wd n) ++ contrM M (wd k) (wd n)).any fun c => decide (c.1 < q + 1) && (bitN c.1 b && c.2 env)) := fun env => by
          rw [Bool.eq_iff_iff]
          simp only [Bool.or_eq_true, Bool.and_eq_true, List.any_eq_true, decide_eq_true_eq, beq_iff_eq]
          constructor
          · rintro (⟨c, m, h1, h2, h3⟩ | ⟨hb, c, m, rfl, h3⟩)
            · exact ⟨c, m, by omega, h2, h3⟩
            · exact ⟨c, m, by omega, hb, h3⟩
          · rintro ⟨c, m, h1, h2, h3⟩
            by_cases e : c.1 = q
            · exact .inr ⟨by rw [← e]; exact h2, c, m, e, h3⟩
            · exact .inl ⟨c, m, by omega, h2, h3⟩
        cases hbit : bitN q b with
        | true =>
          rw [if_pos rfl]
          exact (hA.app (gr.any c1)).to fun env => by rw [← key env, hbit, Bool.true_and]
        | false =>
          rw [if_neg Bool.false_ne_true, List.append_nil]
          exact hA.to fun env => by rw [← key env, hbit, Bool.false_and, Bool.or_false]
      have hlen2 : (if bitN q b = true then x.2 else ([] : List Int)).length ≤ 72 := by
        split
        · omega
        · exact Nat.zero_le _
      exact Ok.eq (app_ok (by omega)) (Ok.pure ⟨hAdd, by rw [List.length_append]; omega⟩)
    · rw [enL_len, C7.len] at hA hl
      have hn72 : 72 * n ≤ 600 := by omega
      have hA' : AnyLit F s.1 ls fun env => (contr0 n k (wd k) (wd n) ++ contrM M (wd k) (wd n)).any fun c => bitN c.1 b && c.2 env := hA.to fun env => by
        refine any_congr' fun c hc => ?_
        have : c.1 < n := by
          rcases List.mem_append.mp hc with z | z
          · obtain ⟨q, hq, rfl⟩ := List.mem_map.mp z
            exact List.mem_range.mp hq
          · obtain ⟨p, hp, hz⟩ := List.mem_flatMap.mp z
            obtain ⟨e, he, rfl⟩ := List.mem_map.mp hz
            obtain ⟨i, hi, ei⟩ := List.getElem_of_mem hp
            obtain ⟨_, e2⟩ := enL_of (xs := M) (i := i) (p := p) (by rw [← ei]; exact List.getElem?_eq_getElem hi)
            obtain ⟨j, hj, ej⟩ := List.getElem_of_mem he
            obtain ⟨_, e3⟩ := enL_of (xs := p.2.2) (i := j) (p := e) (by rw [← ej]; exact List.getElem?_eq_getElem hj)
            obtain ⟨a, b⟩ := (hM.row p.2 (List.mem_of_getElem? e2)).2 e.2 (List.mem_of_getElem? e3)
            show e.2.toNat < n
            omega
        rw [decide_eq_true this, Bool.true_and]
      refine Ok.bind (one_of_ok hF' gr.ok hA' (by omega)) fun r ⟨g2, h2⟩ => ?_
      refine Ok.eq (push_ok (by omega)) (Ok.pure ⟨(gr.trans g2).le (by omega), by rw [List.length_append, sl]; rfl, fun j l hj => ?_⟩)
      by_cases hji : j < b
      · rw [List.getElem?_append_left (by omega)] at hj
        exact g2.lit (h j l hj)
      · have := (List.getElem?_eq_some_iff.mp hj).1
        rw [List.length_append, List.length_singleton] at this
        have ej : j = s.2.2.length := by omega
        subst ej
        rw [List.getElem?_append_right (Nat.le_refl _), Nat.sub_self] at hj
        cases hj
        rw [sl]
        exact h2
  · have := gs.len
    rw [rg_len] at this
    show s.1.length ≤ 10000
    omega
end
end LW
namespace LW
open PySem L2 TW
/-! ### the net without the gates that nothing reads -/
abbrev Net := (List (List Nat)) × (List ((List Nat) × Bool)) × Gates × (List ((List Nat) × Int)) × (List Int)
def Wf (F : Nat) (g : Gates) : Prop := ∀ (k : Nat) p, g[k]? = some p → (0 ≤ p.1 ∧ p.1 < 2 * ((F + k : Nat) : Int)) ∧ 0 ≤ p.2 ∧ p.2 < 2 * ((F + k : Nat) : Int)
def Has {α : Type} (u : List (Int × α)) (k : Int) : Prop := (dgetO u k).isSome = true
theorem Has.put {α : Type} {u : List (Int × α)} {k k' : Int} {x : α} (h : Has u k) : Has (dput u k' x) k := by
  unfold Has at h ⊢
  rw [dget_put]
  split
  · rfl
  · exact h
theorem Has.new {α : Type} {u : List (Int × α)} {k : Int} {x : α} : Has (dput u k x) k := by
  unfold Has
  rw [dget_put, if_pos rfl]; rfl
theorem Has.of_put {α : Type} {u : List (Int × α)} {k k' : Int} {x : α} (h : Has (dput u k' x) k) : k' = k ∨ Has u k := by
  unfold Has at h ⊢
  rw [dget_put] at h
  by_cases e : k' = k
  · exact .inl e
  · rw [if_neg e] at h; exact .inr h
theorem dput_le {κ α : Type} [DecidableEq κ] (m : List (κ × α)) (k : κ) (x : α) : (dput m k x).length ≤ m.length + 1 := dput_len1 m k x
section
variable {inp : List (List Nat)} {reg : List ((List Nat) × Bool)}
theorem used_ok {F : Nat} {g : Gates} {outs : List ((List Nat) × Int)} {nx : List Int} (hF : F = 1 + inp.length + reg.length) (wf : Wf F g) (hl : g.length ≤ 100000) (ho : outs.length + nx.length ≤ 1000) (hb : ∀ l ∈ outs.map (·.2) ++ nx, 0 ≤ l ∧ l < 2 * ((F + g.length : Nat) : Int)) :
    Ok (m_used (inp, reg, g, outs, nx)) fun u => (∀ l ∈ outs.map (·.2) ++ nx, Has u (l / 2)) ∧ ∀ (j : Nat) p, g[j]? = some p → Has u ((F + j : Nat) : Int) → Has u (p.1 / 2) ∧ Has u (p.2 / 2) := by
  unfold m_used
  refine Ok.eq (v := (F : Int)) (congrArg some (show (1 : Int) + (inp.length : Int) + (reg.length : Int) = (F : Int) by omega)) ?_
  refine Ok.eq (v := outs.map (·.2) ++ nx) (by
    unfold m_roots
    rw [mapO_eq (g := fun x : (List Nat) × Int => x.2) fun x _ => rfl]
    simp only [Option.bind_some]
    rw [app_ok (by rw [List.length_map]; omega)]
    rfl) ?_
  unfold dictO
  refine Ok.bind (Ok.foldP (fun (pre : List Int) (u : List (Int × Bool)) => (∀ l ∈ pre, Has u (l / 2)) ∧ u.length ≤ pre.length) ⟨fun l h => (by cases h), Nat.le_refl _⟩ fun i pre x u hx hp hpl ⟨h1, h2⟩ => ?_) fun u0 ⟨a1, a2⟩ => ?_
  · have hi := (List.getElem?_eq_some_iff.mp hx).1
    rw [List.length_append, List.length_map] at hi
    refine Ok.bind (Q := fun p => p = (x / 2, true)) (Ok.eq (fdivO_pos (by decide) (by decide)) (Ok.pure rfl)) fun p ep => ?_
    subst ep
    refine ⟨_, dput_ok (by show u.length < 16777216; omega), fun l hl => ?_, ?_⟩
    · rcases List.mem_append.mp hl with z | z
      · exact (h1 l z).put
      · rw [List.mem_singleton.mp z]; exact Has.new
    · have := dput_le u (x / 2) true
      rw [List.length_append, List.length_singleton]
      show (dput u (x / 2) true).length ≤ _
      omega
  · have ha2 : u0.length ≤ 1000 := by rw [List.length_append, List.length_map] at a2; omega
    have hr : rngDO ((g.length : Int) - 1) (-1) = some (rngD ((g.length : Int) - 1) (-1)) := by
      unfold rngDO
      rw [if_pos (by omega)]
    have hrl : (rngD ((g.length : Int) - 1) (-1)).length = g.length := by
      unfold rngD; simp
    have hrg : ∀ (i : Nat) x, (rngD ((g.length : Int) - 1) (-1))[i]? = some x → i < g.length ∧ x = (((g.length - 1 - i : Nat)) : Int) := fun i x hx => by
      have hi := (List.getElem?_eq_some_iff.mp hx).1
      rw [hrl] at hi
      unfold rngD at hx
      rw [List.getElem?_map, List.getElem?_range (by omega)] at hx
      cases hx
      exact ⟨hi, by show (g.length : Int) - 1 - (i : Int) = _; omega⟩
    refine Ok.eq hr ?_
    refine Ok.bind (Ok.fold (fun i (u : List (Int × Bool)) => (∀ l ∈ outs.map (·.2) ++ nx, Has u (l / 2)) ∧ u.length ≤ 1000 + 2 * i ∧ ∀ (j : Nat) p, g.length ≤ j + i → g[j]? = some p → Has u ((F + j : Nat) : Int) → Has u (p.1 / 2) ∧ Has u (p.2 / 2))
      ⟨a1, by omega, fun j p hj hp => by have := (List.getElem?_eq_some_iff.mp hp).1; omega⟩ fun i x u hx ⟨h1, h2, h3⟩ => ?_) fun u ⟨h1, _, h3⟩ => Ok.pure ⟨h1, fun j p hp hh => h3 j p (by rw [hrl]; omega) hp hh⟩
    obtain ⟨hi, ex⟩ := hrg i x hx
    obtain ⟨p, hp⟩ : ∃ p, g[g.length - 1 - i]? = some p := ⟨_, List.getElem?_eq_getElem (by omega)⟩
    obtain ⟨⟨b1, b2⟩, b3, b4⟩ := wf _ _ hp
    refine Ok.ite (fun hc => ?_) fun hc => Ok.pure ⟨h1, by omega, fun j q hj hq hh => ?_⟩
    · refine Ok.eq (by rw [ex]; exact at_nat hp) ?_
      refine Ok.bind (Q := fun u' => u' = dput (dput u (p.1 / 2) true) (p.2 / 2) true) ?_ fun u' e => Ok.pure ?_
      · refine Ok.is ?_
        have q1 := dput_le u (p.1 / 2) true
        unfold foldO
        rw [fdivO_pos (by decide) (by decide)]
        simp only [Option.bind_some]
        rw [dput_ok (by omega)]
        simp only [Option.bind_some]
        unfold foldO
        rw [fdivO_pos (by decide) (by decide)]
        simp only [Option.bind_some]
        rw [dput_ok (by omega)]
        rfl
      · subst e
        have q1 := dput_le u (p.1 / 2) true
        have q2 := dput_le (dput u (p.1 / 2) true) (p.2 / 2) true
        refine ⟨fun l hl => (h1 l hl).put.put, by omega, fun j q hj hq hh => ?_⟩
        by_cases ej : j = g.length - 1 - i
        · subst ej
          rw [hp] at hq; cases hq
          exact ⟨Has.new.put, Has.new⟩
        · have hj2 : g.length ≤ j + i := by omega
          have hh' : Has u ((F + j : Nat) : Int) := by
            rcases hh.of_put with z | z
            · omega
            · rcases z.of_put with z | z
              · omega
              · exact z
          obtain ⟨c1, c2⟩ := h3 j q hj2 hq hh'
          exact ⟨c1.put.put, c2.put.put⟩
    · by_cases ej : j = g.length - 1 - i
      · subst ej
        exfalso
        have hh : (dgetO u ((F : Int) + x)).isSome = true := by rw [ex]; exact hh
        rw [hc] at hh; cases hh
      · exact h3 j q (by omega) hq hh
/-- a literal of the new net tells as one of the old did -/
structure Sim (F : Nat) (g g' : Gates) (l l' : Int) : Prop where
  lo : 0 ≤ l'
  hi : l' < 2 * ((F + g'.length : Nat) : Int)
  val : ∀ env : List Bool, env.length = F → lv (ext env g') l' = lv (ext env g) l
theorem Sim.lit {F : Nat} {g g' : Gates} {l l' : Int} {f : List Bool → Bool} (h : Sim F g g' l l') (k : Lit F g l f) : Lit F g' l' f := ⟨h.lo, h.hi, fun env e1 e2 => (h.val env e1).trans (k.val env e1 e2)⟩
/-- the new numbers of the nodes -/
structure Num (F : Nat) (g : Gates) (nu : List (Int × Int)) (kept : Gates) (v : Int) : Prop where
  ex : ∃ u : Int, dgetO nu v = some u ∧ 0 ≤ u ∧ u < ((F + kept.length : Nat) : Int) ∧ ∀ env : List Bool, env.length = F → (ext env kept).getD u.toNat false = (ext env g).getD v.toNat false
theorem Num.moved {F : Nat} {g : Gates} {nu : List (Int × Int)} {kept : Gates} {l : Int} (h : Num F g nu kept (l / 2)) (h0 : 0 ≤ l) : Ok (m_moved l nu) fun l' => Sim F g kept l l' := by
  obtain ⟨u, e1, e2, e3, e4⟩ := h.ex
  unfold m_moved
  refine Ok.eq (fdivO_pos (by decide) (by decide)) (Ok.eq e1 (Ok.eq (mulO_ok (by decide)) (Ok.eq (modO_pos (by decide)) (Ok.pure ⟨by omega, by omega, fun env hn => ?_⟩))))
  have z := e4 env hn
  unfold lv
  have w1 : (2 * u + l % 2) / 2 = u := by omega
  have w2 : (2 * u + l % 2) % 2 = l % 2 := by omega
  rw [w1, w2, z]
theorem trimmed_ok {F : Nat} {g : Gates} {outs : List ((List Nat) × Int)} {nx : List Int} (hF : F = 1 + inp.length + reg.length) (hF8 : F ≤ 1000) (wf : Wf F g) (hl : g.length ≤ 100000) (ho : outs.length + nx.length ≤ 1000) (hb : ∀ l ∈ outs.map (·.2) ++ nx, 0 ≤ l ∧ l < 2 * ((F + g.length : Nat) : Int)) :
    Ok (m_trimmed (inp, reg, g, outs, nx)) fun net => ∃ g' outs' nx', net = (inp, reg, g', outs', nx') ∧ Wf F g' ∧ g'.length ≤ g.length ∧ outs'.length = outs.length ∧ (∀ (i : Nat) o o', outs[i]? = some o → outs'[i]? = some o' → o'.1 = o.1 ∧ Sim F g g' o.2 o'.2) ∧ nx'.length = nx.length ∧ ∀ (i : Nat) o o', nx[i]? = some o → nx'[i]? = some o' → Sim F g g' o o' := by
  unfold m_trimmed
  refine Ok.eq (v := (F : Int)) (congrArg some (show (1 : Int) + (inp.length : Int) + (reg.length : Int) = (F : Int) by omega)) ?_
  refine Ok.bind (used_ok hF wf hl ho hb) fun used ⟨u1, u2⟩ => ?_
  refine Ok.eq (rng1_nat (by omega)) ?_
  unfold dictO
  refine Ok.bind (Ok.foldP (fun (pre : List Int) (m : List (Int × Int)) => (∀ v ∈ pre, dgetO m v = some v) ∧ m.length ≤ pre.length) ⟨fun l h => (by cases h), Nat.le_refl _⟩ fun i pre x m hx hp hpl ⟨h1, h2⟩ => ?_) fun m0 ⟨a1, a2⟩ => ?_
  · have hi := (List.getElem?_eq_some_iff.mp hx).1
    rw [rg_len] at hi
    refine ⟨_, dput_ok (by show m.length < 16777216; omega), fun v hv => ?_, ?_⟩
    · rw [dget_put]
      rcases List.mem_append.mp hv with z | z
      · split
        · rename_i e; rw [show (x, x).2 = x from rfl]; exact congrArg some e
        · exact h1 v z
      · rw [List.mem_singleton.mp z, if_pos rfl]
    · have := dput_le m x x
      rw [List.length_append, List.length_singleton]
      show (dput m x x).length ≤ _
      omega
  rw [rg_len] at a2
  refine Ok.bind (Ok.fold (fun i (s : List (Int × Int) × Gates) => s.1.length ≤ F + i ∧ s.2.length ≤ i ∧ Wf F s.2 ∧ (∀ v : Nat, v < F → Num F g s.1 s.2 v) ∧ ∀ j : Nat, j < i → Has used ((F + j : Nat) : Int) → Num F g s.1 s.2 ((F + j : Nat) : Int))
    ⟨a2, Nat.le_refl _, fun k p h => by simp at h, fun v hv => ⟨(v : Int), a1 _ (List.mem_map.mpr ⟨v, List.mem_range.mpr hv, rfl⟩), by omega, by show (v : Int) < ((F + 0 : Nat) : Int); omega, fun env hn => ?_⟩, fun j hj => absurd hj (Nat.not_lt_zero _)⟩ fun i x s hx ⟨h1, h2, h3, h4, h5⟩ => ?_) fun s ⟨h1, h2, h3, h4, h5⟩ => ?_
  · rw [List.getD_eq_getElem?_getD, List.getD_eq_getElem?_getD, ext_get g env _ (by omega)]; rfl
  · obtain ⟨e1, e2⟩ := enL_of hx
    have e2 : g[i]? = some x.2 := e2
    have hi : i < g.length := (List.getElem?_eq_some_iff.mp e2).1
    obtain ⟨⟨b1, b2⟩, b3, b4⟩ := wf _ _ e2
    have ek : (F : Int) + x.1 = ((F + i : Nat) : Int) := by rw [e1]; omega
    refine Ok.ite (fun hc => ?_) fun hc => Ok.pure ⟨by show s.1.length ≤ F + (i + 1); omega, by show s.2.length ≤ i + 1; omega, h3, h4, fun j hj hh => ?_⟩
    · rw [ek] at hc ⊢
      obtain ⟨c1, c2⟩ := u2 i x.2 e2 hc
      have hnum : ∀ l : Int, 0 ≤ l → l < 2 * ((F + i : Nat) : Int) → Has used (l / 2) → Num F g s.1 s.2 (l / 2) := fun l l0 l1 lh => by
        by_cases hlF : l / 2 < (F : Int)
        · have z := h4 (l / 2).toNat (by omega)
          rw [show (((l / 2).toNat : Nat) : Int) = l / 2 by omega] at z
          exact z
        · have e : l / 2 = ((F + ((l / 2).toNat - F) : Nat) : Int) := by omega
          rw [e] at lh ⊢
          exact h5 _ (by omega) lh
      -- a new number harms no old one
      have keep : ∀ (kept' : Gates) v, (∃ m, kept' = s.2 ++ m) → v ≠ ((F + i : Nat) : Int) → Num F g s.1 s.2 v → Num F g (dput s.1 ((F + i : Nat) : Int) (F + (s.2.length : Int))) kept' v := fun kept' v ⟨m, em⟩ ne ⟨u, d1, d2, d3, d4⟩ => by
        refine ⟨u, ?_, d2, by rw [em, List.length_append]; omega, fun env hn => ?_⟩
        · rw [dget_put, if_neg (fun z => ne z.symm)]; exact d1
        · rw [← d4 env hn, em, ext_app, List.getD_eq_getElem?_getD, List.getD_eq_getElem?_getD, ext_get _ _ _ (by rw [ext_len, hn]; omega)]
      refine Ok.eq (dput_ok (by omega)) ?_
      refine Ok.bind ((keep s.2 _ ⟨[], (List.append_nil _).symm⟩ (by omega) (hnum _ b1 b2 c1)).moved b1) fun l1 s1 => ?_
      refine Ok.bind ((keep s.2 _ ⟨[], (List.append_nil _).symm⟩ (by omega) (hnum _ b3 b4 c2)).moved b3) fun l2 s2 => ?_
      refine Ok.eq (push_ok (by omega)) (Ok.pure ⟨?_, ?_, ?_, fun v hv => keep _ _ ⟨_, rfl⟩ (by omega) (h4 v hv), fun j hj hh => ?_⟩)
      · have := dput_le s.1 ((F + i : Nat) : Int) ((F : Int) + (s.2.length : Int))
        show (dput s.1 ((F + i : Nat) : Int) ((F : Int) + (s.2.length : Int))).length ≤ F + (i + 1)
        omega
      · show (s.2 ++ [(l1, l2)]).length ≤ i + 1
        rw [List.length_append, List.length_singleton]; omega
      · intro k p hp
        have hp : (s.2 ++ [(l1, l2)])[k]? = some p := hp
        by_cases hk : k < s.2.length
        · rw [List.getElem?_append_left hk] at hp
          exact h3 k p hp
        · have := (List.getElem?_eq_some_iff.mp hp).1
          rw [List.length_append, List.length_singleton] at this
          have ek : k = s.2.length := by omega
          subst ek
          rw [List.getElem?_append_right (Nat.le_refl _), Nat.sub_self] at hp
          cases hp
          exact ⟨⟨s1.lo, s1.hi⟩, s2.lo, s2.hi⟩
      · by_cases ej : j = i
        · subst ej
          refine ⟨(F : Int) + (s.2.length : Int), by rw [dget_put, if_pos rfl], by omega, by show (F : Int) + (s.2.length : Int) < ((F + (s.2 ++ [(l1, l2)]).length : Nat) : Int); rw [List.length_append, List.length_singleton]; omega, fun env hn => ?_⟩
          have w := ext_gate (vs := env) (gs := g) (by rw [hn]; exact wf) e2
          rw [hn] at w
          have e3 : ((F : Int) + (s.2.length : Int)).toNat = F + s.2.length := by omega
          rw [e3, Int.toNat_natCast, List.getD_eq_getElem?_getD, List.getD_eq_getElem?_getD, w, ext_app]
          show ((ext env s.2 ++ [lv (ext env s.2) l1 && lv (ext env s.2) l2])[F + s.2.length]?).getD false = _
          rw [List.getElem?_append_right (by rw [ext_len, hn]; exact Nat.le_refl _), ext_len, hn, Nat.sub_self, s1.val env hn, s2.val env hn]
          rfl
        · exact keep _ _ ⟨_, rfl⟩ (by omega) (h5 j (by omega) hh)
    · by_cases ej : j = i
      · subst ej
        rw [ek] at hc
        unfold Has at hh
        rw [hc] at hh; cases hh
      · exact h5 j (by omega) hh
  have el : (enL (inp, reg, g, outs, nx).2.2.1).length = g.length := enL_len g
  rw [el] at h1 h2 h5
  have hnum : ∀ l ∈ outs.map (·.2) ++ nx, Num F g s.1 s.2 (l / 2) := fun l hl => by
    obtain ⟨l0, l1⟩ := hb l hl
    have lh := u1 l hl
    by_cases hlF : l / 2 < (F : Int)
    · have z := h4 (l / 2).toNat (by omega)
      rw [show (((l / 2).toNat : Nat) : Int) = l / 2 by omega] at z
      exact z
    · have e : l / 2 = ((F + ((l / 2).toNat - F) : Nat) : Int) := by omega
      rw [e] at lh ⊢
      exact h5 _ (by omega) lh
  refine Ok.bind (Ok.map (Q := fun o o' => o'.1 = o.1 ∧ Sim F g s.2 o.2 o'.2) fun o ho' => ?_) fun outs' ⟨ol, oq⟩ => ?_
  · have hm : o.2 ∈ outs.map (·.2) ++ nx := List.mem_append_left _ (List.mem_map.mpr ⟨o, ho', rfl⟩)
    exact Ok.bind ((hnum _ hm).moved (hb _ hm).1) fun l' hl' => Ok.pure ⟨rfl, hl'⟩
  refine Ok.bind (Ok.map (Q := fun o o' => Sim F g s.2 o o') fun o ho' => ?_) fun nx' ⟨nl, nq⟩ => Ok.pure ⟨s.2, outs', nx', rfl, h3, h2, ol, oq, nl, nq⟩
  have hm : o ∈ outs.map (·.2) ++ nx := List.mem_append_right _ ho'
  exact Ok.bind ((hnum _ hm).moved (hb _ hm).1) fun l' hl' => Ok.pure hl'
end
end LW
namespace LW
open PySem L2 TW
/-! ### what the net does in one clock -/
def bitsN (N w : Nat) : List Bool := (List.range w).map fun i => bitN N i
theorem bitsN_len (N w : Nat) : (bitsN N w).length = w := by simp [bitsN]
theorem bitsN_get {N w i : Nat} (h : i < w) : (bitsN N w)[i]? = some (bitN N i) := by
  unfold bitsN
  rw [List.getElem?_map, List.getElem?_range h]; rfl
def ac (M : Mach) (q : Nat) : Bool := ((M[q]?).map fun p => p.1).getD false
def dl (M : Mach) (q x : Nat) : Nat := match M[q]? with
  | some p => match p.2[x]? with
    | some o => o.toNat
    | none => q
  | none => q
def dlw (M : Mach) : Nat → List Nat → Nat
  | q, [] => q
  | q, x :: xs => dlw M (dl M q x) xs
theorem dlw_app (M : Mach) : ∀ (xs ys : List Nat) (q : Nat), dlw M q (xs ++ ys) = dlw M (dlw M q xs) ys
  | [], _, _ => rfl
  | x :: xs, ys, q => dlw_app M xs ys _
theorem dl_lt {M : Mach} {n k q x : Nat} (h : MOk n k M) (hq : q < n) : dl M q x < n := by
  unfold dl
  cases e : M[q]? with
  | none => exact hq
  | some p =>
    show (match p.2[x]? with | some o => o.toNat | none => q) < n
    cases e2 : p.2[x]? with
    | none => exact hq
    | some o =>
      obtain ⟨a, b⟩ := (h.row p (List.mem_of_getElem? e)).2 o (List.mem_of_getElem? e2)
      show o.toNat < n
      omega
theorem dlw_lt {M : Mach} {n k : Nat} (h : MOk n k M) : ∀ (xs : List Nat) {q : Nat}, q < n → dlw M q xs < n
  | [], _, hq => hq
  | x :: xs, _, hq => dlw_lt h xs (dl_lt h hq)
theorem codes : ∀ w : Fin 4, ∀ a b : Fin 8, a.val < 2 ^ w.val → b.val < 2 ^ w.val → ((List.range w.val).all fun i => bitN b.val i == bitN a.val i) = decide (a.val = b.val) := by decide +kernel
theorem all_congr' {α : Type} {p q : α → Bool} : ∀ {ls : List α}, (∀ l ∈ ls, p l = q l) → ls.all p = ls.all q
  | [], _ => rfl
  | l :: ls, h => by rw [List.all_cons, List.all_cons, h l List.mem_cons_self, all_congr' fun x hx => h x (List.mem_cons_of_mem _ hx)]
theorem two_le {w : Nat} (h : w ≤ 3) : 2 ^ w ≤ 8 := Nat.pow_le_pow_right (n := 2) (by decide) h
theorem codeF_eq {w b v N : Nat} {env : List Bool} (hw : w ≤ 3) (hv : v < 2 ^ w) (hN : N < 2 ^ w) (he : ∀ i, i < w → env.getD (b + i) false = bitN v i) : codeF b w N env = decide (N = v) := by
  unfold codeF
  rw [all_congr' fun i hi => by rw [he i (List.mem_range.mp hi)]]
  have := two_le hw
  exact codes ⟨w, by omega⟩ ⟨N, by omega⟩ ⟨v, by omega⟩ hN hv
structure GoodE (ws wm q x : Nat) (env : List Bool) : Prop where
  len : env.length = 1 + ws + wm
  z : env[0]? = some false
  ix : ∀ i, i < ws → env.getD (1 + i) false = bitN x i
  iq : ∀ i, i < wm → env.getD (1 + ws + i) false = bitN q i
theorem good_mk (ws wm q x : Nat) : GoodE ws wm q x ([false] ++ bitsN x ws ++ bitsN q wm) := ⟨by simp [bitsN_len]; omega, rfl, fun i hi => by
    rw [List.getD_eq_getElem?_getD, List.append_assoc, List.getElem?_append_right (by simp), List.getElem?_append_left (by rw [bitsN_len]; simp; omega)]
    rw [show 1 + i - [false].length = i by simp, bitsN_get hi]; rfl, fun i hi => by
    rw [List.getD_eq_getElem?_getD, List.getElem?_append_right (by simp [bitsN_len]; omega)]
    rw [show 1 + ws + i - ([false] ++ bitsN x ws).length = i by simp [bitsN_len]; omega, bitsN_get hi]; rfl⟩
theorem mem_enL {α : Type} {xs : List α} {p : Int × α} (h : p ∈ enL xs) : ∃ i : Nat, i < xs.length ∧ p.1 = (i : Int) ∧ xs[i]? = some p.2 := by
  obtain ⟨i, hi, e⟩ := List.getElem_of_mem h
  obtain ⟨a, b⟩ := enL_of (xs := xs) (i := i) (p := p) (by rw [← e]; exact List.getElem?_eq_getElem hi)
  exact ⟨i, by rw [enL_len] at hi; exact hi, a, b⟩
theorem enL_mem {α : Type} {xs : List α} {i : Nat} {x : α} (h : xs[i]? = some x) : ((i : Int), x) ∈ enL xs := List.mem_of_getElem? (i := i) (by rw [enL_get, h]; rfl)
section
variable {M : Mach} {n k q x : Nat} {env : List Bool}
theorem acc_val (hM : MOk n k M) (n8 : n ≤ 8) (hq : q < n) (g : GoodE (wd k) (wd n) q x env) : accF M (wd k) (wd n) env = ac M q := by
  have hn := wd_two n8
  have hc : ∀ i, i < n → codeF (1 + wd k) (wd n) i env = decide (i = q) := fun i hi => codeF_eq (wd_le n) (by omega) (by omega) g.iq
  obtain ⟨p, hp⟩ : ∃ p, M[q]? = some p := ⟨_, List.getElem?_eq_getElem (by rw [hM.len]; exact hq)⟩
  unfold ac
  rw [hp]
  show _ = p.1
  rw [Bool.eq_iff_iff]
  unfold accF
  rw [List.any_eq_true]
  constructor
  · rintro ⟨r, hr, e⟩
    obtain ⟨i, hi, e1, e2⟩ := mem_enL hr
    rw [hM.len] at hi
    rw [Bool.and_eq_true, e1, Int.toNat_natCast, hc i hi, decide_eq_true_eq] at e
    obtain ⟨e3, rfl⟩ := e
    rw [hp] at e2; cases e2
    exact e3
  · intro h
    refine ⟨_, enL_mem hp, ?_⟩
    rw [Bool.and_eq_true]
    exact ⟨h, by rw [Int.toNat_natCast, hc q hq, decide_eq_true rfl]⟩
theorem nx_val {b : Nat} (hM : MOk n k M) (n8 : n ≤ 8) (k8 : k ≤ 8) (hq : q < n) (hx : x < 2 ^ wd k) (g : GoodE (wd k) (wd n) q x env) :
    ((contr0 M.length k (wd k) (wd n) ++ contrM M (wd k) (wd n)).any fun c => bitN c.1 b && c.2 env) = bitN (dl M q x) b := by
  have hn := wd_two n8
  have hk := wd_two k8
  have hc : ∀ i, i < n → codeF (1 + wd k) (wd n) i env = decide (i = q) := fun i hi => codeF_eq (wd_le n) (by omega) (by omega) g.iq
  have hs : ∀ i, i < k → codeF 1 (wd k) i env = decide (i = x) := fun i hi => codeF_eq (wd_le k) hx (by omega) g.ix
  obtain ⟨p, hp⟩ : ∃ p, M[q]? = some p := ⟨_, List.getElem?_eq_getElem (by rw [hM.len]; exact hq)⟩
  have hpr := (hM.row p (List.mem_of_getElem? hp)).1
  have hany : anyF k (wd k) env = decide (x < k) := by
    unfold anyF
    rw [any_congr' fun i hi => hs i (List.mem_range.mp hi), Bool.eq_iff_iff, List.any_eq_true, decide_eq_true_eq]
    constructor
    · rintro ⟨i, hi, e⟩
      rw [decide_eq_true_eq] at e
      rw [← e]; exact List.mem_range.mp hi
    · intro h
      exact ⟨x, List.mem_range.mpr h, decide_eq_true rfl⟩
  have hd : dl M q x = match p.2[x]? with | some o => o.toNat | none => q := by unfold dl; rw [hp]
  rw [Bool.eq_iff_iff, List.any_eq_true]
  constructor
  · rintro ⟨c, hcm, e⟩
    rw [Bool.and_eq_true] at e
    obtain ⟨e1, e2⟩ := e
    rcases List.mem_append.mp hcm with z | z
    · obtain ⟨i, hi, rfl⟩ := List.mem_map.mp z
      have hi := List.mem_range.mp hi
      rw [hM.len] at hi
      simp only [Bool.and_eq_true, hany, hc i hi, decide_eq_true_eq, Bool.not_eq_true', decide_eq_false_iff_not] at e2
      obtain ⟨rfl, e3⟩ := e2
      rw [hd, List.getElem?_eq_none (by omega)]
      exact e1
    · obtain ⟨r, hr, hz⟩ := List.mem_flatMap.mp z
      obtain ⟨y, hy, rfl⟩ := List.mem_map.mp hz
      obtain ⟨i, hi, i1, i2⟩ := mem_enL hr
      obtain ⟨j, hj, j1, j2⟩ := mem_enL hy
      rw [hM.len] at hi
      have hrr := (hM.row r.2 (List.mem_of_getElem? i2)).1
      have e2 : (codeF (1 + wd k) (wd n) r.1.toNat env && codeF 1 (wd k) y.1.toNat env) = true := e2
      rw [i1, j1, Int.toNat_natCast, Int.toNat_natCast, hc i hi, hs j (by omega), Bool.and_eq_true, decide_eq_true_eq, decide_eq_true_eq] at e2
      obtain ⟨rfl, rfl⟩ := e2
      rw [hp] at i2; cases i2
      rw [hd, j2]
      exact e1
  · intro h
    rw [hd] at h
    cases e : p.2[x]? with
    | none =>
      rw [e] at h
      have hxk : ¬ x < k := fun z => by rw [List.getElem?_eq_getElem (by omega)] at e; cases e
      refine ⟨_, List.mem_append_left _ (List.mem_map.mpr ⟨q, List.mem_range.mpr (by rw [hM.len]; exact hq), rfl⟩), ?_⟩
      show (bitN q b && (codeF (1 + wd k) (wd n) q env && !anyF k (wd k) env)) = true
      rw [hc q hq, hany, decide_eq_true rfl, decide_eq_false hxk]
      simpa using h
    | some o =>
      rw [e] at h
      have hxk : x < k := by have := (List.getElem?_eq_some_iff.mp e).1; omega
      refine ⟨_, List.mem_append_right _ (List.mem_flatMap.mpr ⟨_, enL_mem hp, List.mem_map.mpr ⟨_, enL_mem e, rfl⟩⟩), ?_⟩
      show (bitN o.toNat b && (codeF (1 + wd k) (wd n) ((q : Nat) : Int).toNat env && codeF 1 (wd k) ((x : Nat) : Int).toNat env)) = true
      rw [Int.toNat_natCast, Int.toNat_natCast, hc q hq, hs x hxk, decide_eq_true rfl, decide_eq_true rfl]
      simpa using h
end
theorem lit_value {vs : List Bool} {l : Int} (h0 : 0 ≤ l) (h1 : l < 2 * (vs.length : Int)) : m_literal_value vs l = some (lv vs l) := by
  unfold m_literal_value
  rw [fdivO_pos (by decide) (by decide)]
  simp only [Option.bind_some]
  obtain ⟨b, e1, e2, _⟩ := at_ex (xs := vs) (i := l / 2) (by omega) (by omega)
  rw [e1]
  simp only [Option.bind_some]
  rw [modO_pos (by decide)]
  simp only [Option.bind_some]
  unfold lv
  rw [List.getD_eq_getElem?_getD, e2]
  rfl
theorem node_values_ok {inp : List (List Nat)} {reg : List ((List Nat) × Bool)} {F : Nat} {g : Gates} {outs : List ((List Nat) × Int)} {nx : List Int} {xs ss : List Bool} (hF : 1 + xs.length + ss.length = F) (hF8 : F ≤ 1000) (hl : g.length ≤ 100000) (wf : Wf F g) : m_node_values (inp, reg, g, outs, nx) xs ss = some (ext ([false] ++ xs ++ ss) g) := by
  unfold m_node_values
  refine Ok.one (Ok.eq (app_ok (by simp; omega)) (Ok.eq (app_ok (by simp; omega)) ?_))
  refine Ok.bind (Ok.foldP (fun (pre : Gates) (s : List Bool) => s = ext ([false] ++ xs ++ ss) pre) rfl fun i pre p s hp hpre hpl hs => ?_) fun s hs => Ok.pure hs
  have hp : g[i]? = some p := hp
  have hi := (List.getElem?_eq_some_iff.mp hp).1
  subst hs
  have hlen : (ext ([false] ++ xs ++ ss) pre).length = F + i := by rw [ext_len, hpl]; simp; omega
  obtain ⟨⟨b1, b2⟩, b3, b4⟩ := wf i p hp
  refine Ok.eq (lit_value b1 (by rw [hlen]; exact b2)) ?_
  refine Ok.eq (v := lv (ext ([false] ++ xs ++ ss) pre) p.1 && lv (ext ([false] ++ xs ++ ss) pre) p.2) ?_ (Ok.eq (push_ok (by rw [hlen]; omega)) (Ok.pure ?_))
  · rw [lit_value b3 (by rw [hlen]; exact b4)]
    cases lv (ext ([false] ++ xs ++ ss) pre) p.1 <;> rfl
  · rw [ext_app]; rfl
structure NOk (n k : Nat) (M : Mach) (net : Net) : Prop where
  inp : net.1.length = wd k
  reg : net.2.1 = regsOf (wd n)
  step : ∀ q x, q < n → x < 2 ^ wd k → m_clocked net (bitsN x (wd k)) (bitsN q (wd n)) = some ([ac M q], bitsN (dl M q x) (wd n))
theorem net_ok {M : Mach} {sg : List Nat} {n k : Nat} (hM : MOk n k M) (hk : sg.length = k) (n1 : 1 ≤ n) (n8 : n ≤ 8) (k1 : 1 ≤ k) (k8 : k ≤ 8) : Ok (m_net_of M sg) (NOk n k M) := by
  have w1 := wd_le n
  have w2 := wd_le k
  unfold m_net_of
  refine Ok.eq (making_init_ok hM.len hk n1 n8 k1 k8) ?_
  refine Ok.bind (making_ok hM hk n1 n8 k1 k8 rfl) fun r ⟨B, hg, N⟩ => ?_
  unfold m_Builder_net
  have hF : 1 + wd k + wd n = 1 + (nmS (wd k)).length + (regsOf (wd n)).length := by rw [nmS_len, regsOf, List.length_map, nmQ_len]
  have hNx := N.len
  refine Ok.bind (Q := fun t => NOk n k M t.1) (Ok.bind (trimmed_ok hF (by omega) B.wf (by omega) (by show 1 + r.1.2.length ≤ 1000; omega) fun l hl => ?_) fun net ⟨g', outs', nx', e, wf, gl, ol, oq, nl, nq⟩ => Ok.pure ?_) fun t ht => Ok.pure ht
  · rcases List.mem_append.mp hl with z | z
    · have : l = r.1.1 := by simpa using z
      rw [this]; exact ⟨N.acc.lo, N.acc.hi⟩
    · obtain ⟨i, hi, ei⟩ := List.getElem_of_mem z
      have z := N.nx i l (by rw [← ei]; exact List.getElem?_eq_getElem hi)
      exact ⟨z.lo, z.hi⟩
  · subst e
    refine ⟨nmS_len _, rfl, fun q x hq hx => ?_⟩
    have hg := good_mk (wd k) (wd n) q x
    have el : (ext ([false] ++ bitsN x (wd k) ++ bitsN q (wd n)) g').length = 1 + wd k + wd n + g'.length := by rw [ext_len]; simp [bitsN_len]; omega
    unfold m_clocked
    refine Ok.one (Ok.iteF (by
      have e1 : ((bitsN x (wd k)).length : Int) = ((nmS (wd k)).length : Int) := by rw [bitsN_len, nmS_len]
      have e2 : ((bitsN q (wd n)).length : Int) = ((regsOf (wd n)).length : Int) := by rw [bitsN_len, regsOf, List.length_map, nmQ_len]
      show ((!decide (((bitsN x (wd k)).length : Int) = ((nmS (wd k)).length : Int))) || (!decide (((bitsN q (wd n)).length : Int) = ((regsOf (wd n)).length : Int)))) = false
      rw [decide_eq_true e1, decide_eq_true e2]; rfl) (Ok.eq (node_values_ok (by rw [bitsN_len, bitsN_len]) (by omega) (by omega) wf) ?_))
    have hov : ∀ o ∈ outs', 0 ≤ o.2 ∧ o.2 < 2 * ((ext ([false] ++ bitsN x (wd k) ++ bitsN q (wd n)) g').length : Int) ∧ lv (ext ([false] ++ bitsN x (wd k) ++ bitsN q (wd n)) g') o.2 = ac M q := fun o ho => by
      obtain ⟨i, hi, ei⟩ := List.getElem_of_mem ho
      have hi0 : i = 0 := by rw [ol] at hi; simpa using hi
      subst hi0
      have z := ((oq 0 _ o rfl (by rw [← ei]; exact List.getElem?_eq_getElem hi)).2).lit N.acc
      exact ⟨z.lo, by rw [el]; exact z.hi, by rw [z.val _ hg.len hg.z]; exact acc_val hM n8 hq hg⟩
    have hout : mapO (fun x1 : (List Nat) × Int => (m_literal_value (ext ([false] ++ bitsN x (wd k) ++ bitsN q (wd n)) g') x1.2).bind fun v2 => some v2) outs' = some [ac M q] := by
      rw [mapO_eq (g := fun _ => ac M q) fun o ho => by
        obtain ⟨a, b, c⟩ := hov o ho
        rw [lit_value a b, c]; rfl]
      match outs', ol with
      | [o], _ => rfl
    have hnx : mapO (fun x2 : Int => (m_literal_value (ext ([false] ++ bitsN x (wd k) ++ bitsN q (wd n)) g') x2).bind fun v4 => some v4) nx' = some (bitsN (dl M q x) (wd n)) := by
      have key : ∀ (i : Nat) l, nx'[i]? = some l → m_literal_value (ext ([false] ++ bitsN x (wd k) ++ bitsN q (wd n)) g') l = some (bitN (dl M q x) i) := fun i l hl => by
        have hi := (List.getElem?_eq_some_iff.mp hl).1
        obtain ⟨l0, hl0⟩ : ∃ l0, r.1.2[i]? = some l0 := ⟨_, List.getElem?_eq_getElem (by omega)⟩
        have z := (nq i l0 l hl0 hl).lit (N.nx i l0 hl0)
        rw [lit_value z.lo (by rw [el]; exact z.hi), z.val _ hg.len hg.z, nx_val hM n8 k8 hq hx hg]
      rw [mapO_eq (g := fun l => lv (ext ([false] ++ bitsN x (wd k) ++ bitsN q (wd n)) g') l) fun l hl => by
        obtain ⟨i, hi, ei⟩ := List.getElem_of_mem hl
        have e : nx'[i]? = some l := by rw [← ei]; exact List.getElem?_eq_getElem hi
        have hi2 := hi
        obtain ⟨l0, hl0⟩ : ∃ l0, r.1.2[i]? = some l0 := ⟨_, List.getElem?_eq_getElem (by omega)⟩
        have z := (nq i l0 l hl0 e).lit (N.nx i l0 hl0)
        rw [lit_value z.lo (by rw [el]; exact z.hi)]; rfl]
      congr 1
      refine List.ext_getElem? fun i => ?_
      by_cases hi : i < wd n
      · obtain ⟨l, hl⟩ : ∃ l, nx'[i]? = some l := ⟨_, List.getElem?_eq_getElem (by omega)⟩
        rw [List.getElem?_map, hl, bitsN_get hi]
        have a := key i l hl
        obtain ⟨l0, hl0⟩ : ∃ l0, r.1.2[i]? = some l0 := ⟨_, List.getElem?_eq_getElem (by omega)⟩
        have z := (nq i l0 l hl0 hl).lit (N.nx i l0 hl0)
        rw [lit_value z.lo (by rw [el]; exact z.hi)] at a
        exact a
      · rw [List.getElem?_eq_none (by rw [List.length_map]; omega), List.getElem?_eq_none (by rw [bitsN_len]; omega)]
    exact Ok.eq hout (Ok.eq hnx (Ok.pure rfl))
end LW
namespace LW
open PySem L2 TW
/-! ### what the law asks of the net -/
structure SgOk (sg : List Nat) (k : Nat) : Prop where
  len : sg.length = k
  k2 : 2 ≤ k
  k4 : k ≤ 4
  nd : sg.Nodup
  ix : ∀ c ∈ sg, sidxO sg [c] = some ((sg.idxOf c : Nat) : Int)
  asc : ∀ c ∈ sg, c < 128
theorem sigs_ok : ∀ sg ∈ sigs, SgOk sg sg.length := by
  intro sg h
  have z : ∀ sg ∈ sigs, 2 ≤ sg.length ∧ sg.length ≤ 4 ∧ sg.Nodup ∧ (∀ c ∈ sg, c < 128) := by decide
  have y : ∀ sg ∈ sigs, ∀ c ∈ sg, sidxO sg [c] = some ((sg.idxOf c : Nat) : Int) := by decide +kernel
  obtain ⟨a, b, c, d⟩ := z sg h
  exact ⟨rfl, a, b, c, y sg h, d⟩
theorem idx_lt {sg : List Nat} {c : Nat} (h : c ∈ sg) : sg.idxOf c < sg.length := List.idxOf_lt_length_of_mem h
theorem wide_ok {k : Nat} (h2 : 2 ≤ k) (h4 : k ≤ 4) : m__law_wide (k : Int) = some ((wd k : Nat) : Int) := by
  have : k = 2 ∨ k = 3 ∨ k = 4 := by omega
  rcases this with rfl | rfl | rfl <;> decide
theorem law_bits_ok {N w : Nat} (h : w ≤ 3) : m__law_bits (N : Int) (w : Int) = some (bitsN N w) := by
  unfold m__law_bits
  refine Ok.one (Ok.eq (rng1_nat (by omega)) ?_)
  refine Ok.eq (mapO_eq (g := fun i : Int => bitN N i.toNat) fun x hx => ?_) (Ok.pure ?_)
  · obtain ⟨i, hi, rfl⟩ := mem_rg hx
    have h2 : atI ([(1 : Int), (2 : Int), (4 : Int), (8 : Int)] : List Int) (i : Int) = some (((2 ^ i : Nat)) : Int) := by
      have : i = 0 ∨ i = 1 ∨ i = 2 := by omega
      rcases this with rfl | rfl | rfl <;> decide
    have h8 : 2 ^ i ≤ 8 := two_le (by omega)
    have h0 : 0 < 2 ^ i := Nat.pow_pos (by decide)
    rw [h2]
    simp only [Option.bind_some]
    rw [fdivO_pos (by omega) (by omega)]
    simp only [Option.bind_some]
    rw [modO_pos (by decide)]
    simp only [Option.bind_some]
    congr 1
    rw [Int.toNat_natCast]
    unfold bitN
    have e : ((N : Int) / ((2 ^ i : Nat) : Int)) % 2 = ((N / 2 ^ i % 2 : Nat) : Int) := by
      rw [← Int.natCast_ediv]; omega
    rw [e]
    by_cases z : N / 2 ^ i % 2 = 1
    · rw [decide_eq_true z, z]; rfl
    · rw [decide_eq_false z, decide_eq_false (by omega)]
  · unfold rg bitsN
    rw [List.map_map]
    rfl
def ixs (sg w : List Nat) : List Nat := w.map fun c => sg.idxOf c
theorem inputs_ok {sg w : List Nat} {k : Nat} (h : SgOk sg k) (hw : ∀ c ∈ w, c ∈ sg) : m__law_inputs sg w = some ((ixs sg w).map fun x => bitsN x (wd k)) := by
  unfold m__law_inputs
  refine Ok.one (Ok.eq (mapO_eq (g := fun c : List Nat => bitsN (sg.idxOf (c.headD 0)) (wd k)) fun x hx => ?_) (Ok.pure ?_))
  · obtain ⟨c, hc, rfl⟩ := List.mem_map.mp hx
    show (sidxO sg [c]).bind _ = _
    rw [h.ix c (hw c hc), h.len]
    simp only [Option.bind_some]
    rw [wide_ok h.k2 h.k4]
    simp only [Option.bind_some]
    rw [law_bits_ok (wd_le k)]
    rfl
  · unfold ixs
    rw [List.map_map, List.map_map]
    rfl
def tr (M : Mach) : Nat → List Nat → List (List Bool)
  | _, [] => []
  | q, x :: xs => [ac M q] :: tr M (dl M q x) xs
theorem tr_len (M : Mach) : ∀ (xs : List Nat) (q : Nat), (tr M q xs).length = xs.length
  | [], _ => rfl
  | x :: xs, q => congrArg (· + 1) (tr_len M xs _)
theorem tr_app (M : Mach) : ∀ (xs ys : List Nat) (q : Nat), tr M q (xs ++ ys) = tr M q xs ++ tr M (dlw M q xs) ys
  | [], _, _ => rfl
  | x :: xs, ys, q => congrArg ([ac M q] :: ·) (tr_app M xs ys _)
section
variable {M : Mach} {n k : Nat} {net : Net}
theorem run_go (hM : MOk n k M) (N : NOk n k M net) : ∀ (xs : List Nat) (q : Nat) (acc : List (List Bool)), q < n → (∀ x ∈ xs, x < 2 ^ wd k) → acc.length + xs.length < 16777216 →
    foldO (fun (s1 : (List Bool) × (List (List Bool))) (x1 : (List Bool)) => (m_clocked net x1 s1.1).bind fun v2 => (pushO s1.2 v2.1).bind fun v3 => some (v2.2, v3)) (bitsN q (wd n), acc) (xs.map fun x => bitsN x (wd k)) = some (bitsN (dlw M q xs) (wd n), acc ++ tr M q xs)
  | [], q, acc, _, _, _ => by rw [show acc ++ tr M q [] = acc from List.append_nil _]; rfl
  | x :: xs, q, acc, hq, hx, hl => by
    rw [List.map_cons]
    unfold foldO
    rw [N.step q x hq (hx x List.mem_cons_self)]
    simp only [Option.bind_some]
    rw [push_ok (by simp at hl; omega)]
    simp only [Option.bind_some]
    rw [run_go hM N xs (dl M q x) (acc ++ [[ac M q]]) (dl_lt hM hq) (fun y hy => hx y (List.mem_cons_of_mem _ hy)) (by simp at hl ⊢; omega)]
    show some (bitsN (dlw M (dl M q x) xs) (wd n), _) = some (bitsN (dlw M (dl M q x) xs) (wd n), acc ++ ([ac M q] :: tr M (dl M q x) xs))
    simp
theorem run_ok (hM : MOk n k M) (N : NOk n k M net) (n1 : 1 ≤ n) {xs : List Nat} (hx : ∀ x ∈ xs, x < 2 ^ wd k) (hl : xs.length < 1000000) : m_run net (xs.map fun x => bitsN x (wd k)) = some (tr M 0 xs) := by
  unfold m_run
  have hb : m_begun net = some (bitsN 0 (wd n)) := by
    unfold m_begun
    rw [N.reg, mapO_eq (g := fun x : (List Nat) × Bool => x.2) fun x _ => rfl]
    simp only [Option.bind_some]
    congr 1
    unfold regsOf nmQ bitsN
    rw [List.map_map, List.map_map]
    refine List.map_congr_left fun i _ => ?_
    show false = bitN 0 i
    unfold bitN
    simp
  rw [hb]
  simp only [Option.bind_some]
  rw [run_go hM N xs 0 [] (by omega) hx (by simp; omega)]
  rfl
theorem at_last {α : Type} (xs : List α) (x : α) : atI (xs ++ [x]) (-1) = some x := by
  unfold atI ixN
  have : (xs ++ [x]).length = xs.length + 1 := by simp
  rw [this]
  rw [if_neg (by decide), if_pos (by omega)]
  simp only [Option.bind_some]
  rw [show (-1 + ((xs.length + 1 : Nat) : Int)).toNat = xs.length by omega, List.getElem?_append_right (Nat.le_refl _), Nat.sub_self]
  rfl
theorem told_run {β : Type} (hM : MOk n k M) (N : NOk n k M net) (n1 : 1 ≤ n) {xs : List Nat} (hx : ∀ x ∈ xs, x < 2 ^ wd k) (hl : xs.length < 900000) {P : β → Prop} {f : Bool → Option β} (h : Ok (f (ac M (dlw M 0 xs))) P) :
    Ok ((appO (xs.map fun x => bitsN x (wd k)) ([bitsN 0 (wd k)] : List (List Bool))).bind fun v4 => (m_run net v4).bind fun v5 => (atI v5 (-(1 : Int))).bind fun v6 => (atI v6 (0 : Int)).bind f) P := by
  refine Ok.eq (app_ok (by simp; omega)) ?_
  have e : (xs.map fun x => bitsN x (wd k)) ++ [bitsN 0 (wd k)] = (xs ++ [0]).map fun x => bitsN x (wd k) := by simp
  rw [e]
  refine Ok.eq (run_ok hM N n1 (fun x hx' => ?_) (by simp; omega)) ?_
  · rcases List.mem_append.mp hx' with z | z
    · exact hx x z
    · rw [List.mem_singleton.mp z]; exact Nat.pow_pos (by decide)
  rw [tr_app]
  exact Ok.eq (at_last _ _) (Ok.eq rfl h)
theorem told_ok {sg w : List Nat} (hM : MOk n k M) (N : NOk n k M net) (n1 : 1 ≤ n) (h : SgOk sg k) (hw : ∀ c ∈ w, c ∈ sg) (hl : w.length < 900000) : m__law_told net sg w = some (ac M (dlw M 0 (ixs sg w))) := by
  unfold m__law_told
  have hx : ∀ x ∈ ixs sg w, x < 2 ^ wd k := fun x hx => by
    obtain ⟨c, hc, rfl⟩ := List.mem_map.mp hx
    have := idx_lt (hw c hc)
    rw [h.len] at this
    have := wd_two (n := k) (by have := h.k4; omega)
    show sg.idxOf c < _
    omega
  refine Ok.one (Ok.eq (inputs_ok h hw) (Ok.eq (v := ((wd k : Nat) : Int)) (by rw [h.len]; exact wide_ok h.k2 h.k4) (Ok.eq (law_bits_ok (N := 0) (wd_le k)) (told_run hM N n1 hx (by unfold ixs; rw [List.length_map]; exact hl) (Ok.pure rfl)))))
theorem step_ok {sg : List Nat} {c q : Nat} (hM : MOk n k M) (h : SgOk sg k) (hc : c ∈ sg) (hq : q < n) : ∃ p, atI M (q : Int) = some p ∧ M[q]? = some p ∧ p.2.length = k ∧ atI p.2 ((sg.idxOf c : Nat) : Int) = some ((dl M q (sg.idxOf c) : Nat) : Int) := by
  obtain ⟨p, hp⟩ : ∃ p, M[q]? = some p := ⟨_, List.getElem?_eq_getElem (by rw [hM.len]; exact hq)⟩
  obtain ⟨r1, r2⟩ := hM.row p (List.mem_of_getElem? hp)
  have hi := idx_lt hc
  obtain ⟨o, ho⟩ : ∃ o, p.2[sg.idxOf c]? = some o := ⟨_, List.getElem?_eq_getElem (by rw [r1, ← h.len]; exact hi)⟩
  refine ⟨p, at_nat hp, hp, r1, ?_⟩
  rw [at_nat ho]
  unfold dl
  rw [hp]
  show some o = some (((match p.2[sg.idxOf c]? with | some o => o.toNat | none => q) : Nat) : Int)
  rw [ho]
  have := (r2 o (List.mem_of_getElem? ho)).1
  show some o = some ((o.toNat : Nat) : Int)
  congr 1; omega
theorem ac_at {q : Nat} (hM : MOk n k M) (hq : q < n) : ∃ p, atI M (q : Int) = some p ∧ M[q]? = some p ∧ p.1 = ac M q := by
  obtain ⟨p, hp⟩ : ∃ p, M[q]? = some p := ⟨_, List.getElem?_eq_getElem (by rw [hM.len]; exact hq)⟩
  refine ⟨p, at_nat hp, hp, ?_⟩
  unfold ac
  rw [hp]; rfl
theorem behind_ok {sg : List Nat} (hM : MOk n k M) (h : SgOk sg k) : ∀ (w : List Nat) (q : Nat), q < n → (∀ c ∈ w, c ∈ sg) → foldO (fun (s1 : Int) (x1 : (List Nat)) => (atI M s1).bind fun v1 => (sidxO sg x1).bind fun v2 => (atI v1.2 v2).bind fun v3 => some v3) (q : Int) (w.map fun k => [k]) = some ((dlw M q (ixs sg w) : Nat) : Int)
  | [], q, _, _ => rfl
  | c :: w, q, hq, hw => by
    obtain ⟨p, a, _, _, d⟩ := step_ok hM h (hw c List.mem_cons_self) hq
    rw [List.map_cons]
    unfold foldO
    rw [a]
    simp only [Option.bind_some]
    rw [h.ix c (hw c List.mem_cons_self)]
    simp only [Option.bind_some]
    rw [d]
    simp only [Option.bind_some]
    exact behind_ok hM h w _ (dl_lt hM hq) fun c hc => hw c (List.mem_cons_of_mem _ hc)
theorem passes_ok {sg w : List Nat} (hM : MOk n k M) (n1 : 1 ≤ n) (h : SgOk sg k) (hw : ∀ c ∈ w, c ∈ sg) : m__law_passes M sg w = some (ac M (dlw M 0 (ixs sg w))) := by
  unfold m__law_passes m__law_behind
  have z := behind_ok hM h w 0 (by omega) hw
  obtain ⟨p, a, _, b⟩ := ac_at hM (dlw_lt hM (ixs sg w) (q := 0) (by omega))
  refine Ok.one (Ok.bind (Q := fun v => v = ((dlw M 0 (ixs sg w) : Nat) : Int)) (Ok.eq z (Ok.pure rfl)) fun v e => ?_)
  subst e
  exact Ok.eq a (Ok.pure b)
end
end LW
namespace LW
open PySem L2 TW
/-! ### words and how many pass -/
def words (sg : List Nat) : Nat → List (List Nat)
  | 0 => [[]]
  | l + 1 => sg.flatMap fun c => (words sg l).map fun w => c :: w
theorem words_app (sg : List Nat) : ∀ l : Nat, ((words sg l).map fun w => sg.map fun c => w ++ [c]).flatten = words sg (l + 1)
  | 0 => by
    show ((([[]] : List (List Nat)).map fun w => sg.map fun c => w ++ [c]).flatten) = sg.flatMap fun c => ([[]] : List (List Nat)).map fun w => c :: w
    simp [List.flatMap]
    induction sg with
    | nil => rfl
    | cons c sg ih => simp [ih]
  | l + 1 => by
    have ih := words_app sg l
    show ((sg.flatMap fun c => (words sg l).map fun w => c :: w).map fun w => sg.map fun c => w ++ [c]).flatten = sg.flatMap fun c => (words sg (l + 1)).map fun w => c :: w
    rw [← ih]
    generalize words sg l = ws
    have key : ∀ c, ((ws.map fun w => c :: w).map fun w => sg.map fun d => w ++ [d]).flatten = ((ws.map fun w => sg.map fun d => w ++ [d]).flatten).map fun w => c :: w := fun c => by
      rw [List.map_flatten, List.map_map, List.map_map]
      congr 1
      refine List.map_congr_left fun w _ => ?_
      show (sg.map fun d => (c :: w) ++ [d]) = (sg.map fun d => w ++ [d]).map fun w => c :: w
      rw [List.map_map]; rfl
    have gen : ∀ s : List Nat, ((s.flatMap fun c => ws.map fun w => c :: w).map fun w => sg.map fun d => w ++ [d]).flatten = s.flatMap fun c => ((ws.map fun w => sg.map fun d => w ++ [d]).flatten).map fun w => c :: w := fun s => by
      induction s with
      | nil => rfl
      | cons c s ih => rw [List.flatMap_cons, List.flatMap_cons, List.map_append, List.flatten_append, ih, key c]
    exact gen sg
theorem words_len (sg : List Nat) : ∀ l, ∀ w ∈ words sg l, w.length = l ∧ ∀ c ∈ w, c ∈ sg
  | 0, w, h => by rw [List.mem_singleton.mp h]; exact ⟨rfl, fun c hc => by cases hc⟩
  | l + 1, w, h => by
    obtain ⟨c, hc, h⟩ := List.mem_flatMap.mp h
    obtain ⟨u, hu, rfl⟩ := List.mem_map.mp h
    obtain ⟨a, b⟩ := words_len sg l u hu
    refine ⟨by rw [List.length_cons, a], fun d hd => ?_⟩
    rcases List.mem_cons.mp hd with e | hd
    · rw [e]; exact hc
    · exact b d hd
theorem sum_const {α : Type} (xs : List α) (k : Nat) : (xs.map fun _ => k).sum = xs.length * k := by
  induction xs with
  | nil => simp
  | cons x xs ih => rw [List.map_cons, List.sum_cons, ih, List.length_cons, Nat.add_mul]; omega
theorem words_many (sg : List Nat) : ∀ l, (words sg l).length = sg.length ^ l
  | 0 => rfl
  | l + 1 => by
    show (sg.flatMap fun c => (words sg l).map fun w => c :: w).length = _
    rw [List.length_flatMap]
    have : (sg.map fun c => ((words sg l).map fun w => c :: w).length) = sg.map fun _ => sg.length ^ l := List.map_congr_left fun c _ => by rw [List.length_map, words_many sg l]
    rw [this, sum_const, Nat.pow_succ, Nat.mul_comm]
def accW (M : Mach) (sg : List Nat) (q : Nat) (w : List Nat) : Bool := ac M (dlw M q (ixs sg w))
def pas (M : Mach) (sg : List Nat) (l q : Nat) : List (List Nat) := (words sg l).filter (accW M sg q)
theorem pas_zero (M : Mach) (sg : List Nat) (q : Nat) : pas M sg 0 q = if ac M q = true then [[]] else [] := by
  unfold pas
  show ([[]] : List (List Nat)).filter (accW M sg q) = _
  rw [List.filter_cons]
  rfl
theorem pas_succ (M : Mach) (sg : List Nat) (l q : Nat) : pas M sg (l + 1) q = sg.flatMap fun c => (pas M sg l (dl M q (sg.idxOf c))).map fun w => c :: w := by
  unfold pas
  show (sg.flatMap fun c => (words sg l).map fun w => c :: w).filter (accW M sg q) = _
  rw [List.filter_flatMap]
  have : ∀ c, ((words sg l).map fun w => c :: w).filter (accW M sg q) = ((words sg l).filter (accW M sg (dl M q (sg.idxOf c)))).map fun w => c :: w := fun c => by
    rw [List.filter_map]; rfl
  simp only [this]
def cnt (M : Mach) (sg : List Nat) (l q : Nat) : Nat := (pas M sg l q).length
theorem cnt_succ (M : Mach) (sg : List Nat) (l q : Nat) : cnt M sg (l + 1) q = (sg.map fun c => cnt M sg l (dl M q (sg.idxOf c))).sum := by
  unfold cnt
  rw [pas_succ, List.length_flatMap]
  congr 1
  refine List.map_congr_left fun c _ => ?_
  rw [List.length_map]
theorem pas_mem {M : Mach} {sg : List Nat} {l q : Nat} {w : List Nat} (h : w ∈ pas M sg l q) : w.length = l ∧ (∀ c ∈ w, c ∈ sg) ∧ accW M sg q w = true := by
  obtain ⟨a, b⟩ := List.mem_filter.mp h
  obtain ⟨c, d⟩ := words_len sg l w a
  exact ⟨c, d, b⟩
theorem mem_words {sg : List Nat} : ∀ {w : List Nat}, (∀ c ∈ w, c ∈ sg) → w ∈ words sg w.length
  | [], _ => List.mem_singleton.mpr rfl
  | c :: w, h => List.mem_flatMap.mpr ⟨c, h c List.mem_cons_self, List.mem_map.mpr ⟨w, mem_words fun d hd => h d (List.mem_cons_of_mem _ hd), rfl⟩⟩
/-- where an item of a flattened list comes from -/
theorem flat_get {α β : Type} {f : α → List β} : ∀ {xs : List α} {r : Nat} {y : β}, (xs.flatMap f)[r]? = some y → ∃ (j : Nat) (x : α) (r' : Nat), xs[j]? = some x ∧ (f x)[r']? = some y ∧ r = ((xs.take j).map fun x => (f x).length).sum + r'
  | [], r, y, h => by simp at h
  | x :: xs, r, y, h => by
    rw [List.flatMap_cons] at h
    by_cases hr : r < (f x).length
    · rw [List.getElem?_append_left hr] at h
      exact ⟨0, x, r, rfl, h, by simp⟩
    · rw [List.getElem?_append_right (by omega)] at h
      obtain ⟨j, z, r', a, b, c⟩ := flat_get h
      exact ⟨j + 1, z, r', by simpa using a, b, by rw [List.take_succ_cons, List.map_cons, List.sum_cons]; omega⟩
theorem idxOf_get {sg : List Nat} (nd : sg.Nodup) {j c : Nat} (h : sg[j]? = some c) : sg.idxOf c = j := by
  obtain ⟨hj, e⟩ := List.getElem?_eq_some_iff.mp h
  rw [← e]
  exact nd.idxOf_getElem j hj
theorem sum_cast : ∀ xs : List Nat, ((xs.sum : Nat) : Int) = (xs.map fun x : Nat => (x : Int)).sum
  | [] => rfl
  | x :: xs => by rw [List.sum_cons, List.map_cons, List.sum_cons, ← sum_cast xs]; push_cast; rfl
section
variable {M : Mach} {n k : Nat} {sg : List Nat}
def vec (M : Mach) (sg : List Nat) (n l : Nat) : List Int := (List.range n).map fun q => ((cnt M sg l q : Nat) : Int)
theorem vec_at {l : Nat} {o : Int} (h0 : 0 ≤ o) (h1 : o < (n : Int)) : atI (vec M sg n l) o = some ((cnt M sg l o.toNat : Nat) : Int) := by
  refine at_int h0 ?_
  unfold vec
  rw [List.getElem?_map, List.getElem?_range (by omega)]; rfl
/-- a line's row, sign by sign -/
theorem row_eq (hM : MOk n k M) (h : SgOk sg k) {q : Nat} {p : Bool × List Int} (hp : M[q]? = some p) : p.2 = sg.map fun c => ((dl M q (sg.idxOf c) : Nat) : Int) := by
  have hq : q < n := by have := (List.getElem?_eq_some_iff.mp hp).1; rw [hM.len] at this; exact this
  refine List.ext_getElem? fun j => ?_
  rw [List.getElem?_map]
  have hr := (hM.row p (List.mem_of_getElem? hp)).1
  by_cases hj : j < k
  · obtain ⟨c, hc⟩ : ∃ c, sg[j]? = some c := ⟨_, List.getElem?_eq_getElem (by rw [h.len]; exact hj)⟩
    obtain ⟨p', a, b, c', d⟩ := step_ok hM h (List.mem_of_getElem? hc) hq
    rw [hp] at b; cases b
    rw [hc]
    rw [idxOf_get h.nd hc] at d
    obtain ⟨o, ho⟩ : ∃ o, p.2[j]? = some o := ⟨_, List.getElem?_eq_getElem (by omega)⟩
    rw [at_nat ho] at d
    rw [ho, d]
    show some ((dl M q j : Nat) : Int) = some ((dl M q (sg.idxOf c) : Nat) : Int)
    rw [idxOf_get h.nd hc]
  · rw [List.getElem?_eq_none (by omega), List.getElem?_eq_none (by rw [h.len]; omega)]; rfl
theorem counted_ok (hM : MOk n k M) (h : SgOk sg k) {l : Nat} (hl : l ≤ 1000) : m_counted M (l : Int) = some (vec M sg n l) := by
  unfold m_counted
  refine Ok.one (Ok.eq (mapO_eq (g := fun x : Bool × List Int => b2i' x.1) fun x _ => rfl) (Ok.eq (rng1_nat (by omega)) (Ok.bind (Ok.fold (fun i (s : List Int) => s = vec M sg n i) ?_ fun i x s hx hs => ?_) fun s hs => Ok.pure ?_)))
  · refine List.ext_getElem? fun q => ?_
    unfold vec
    rw [List.getElem?_map, List.getElem?_map]
    by_cases hq : q < n
    · obtain ⟨p, _, b, c⟩ := ac_at hM hq
      rw [b, List.getElem?_range hq]
      show some (b2i' p.1) = some ((cnt M sg 0 q : Nat) : Int)
      unfold cnt
      rw [pas_zero, c]
      cases ac M q <;> rfl
    · rw [List.getElem?_eq_none (by rw [hM.len]; omega), List.getElem?_eq_none (by simp; omega)]; rfl
  · subst hs
    refine Ok.eq (v := vec M sg n (i + 1)) ?_ (Ok.pure rfl)
    unfold m_stepped
    refine Ok.one (Ok.eq (mapO_eq (g := fun p : Bool × List Int => (p.2.map fun o => ((cnt M sg i o.toNat : Nat) : Int)).sum) fun p hp => ?_) (Ok.pure ?_))
    · refine Ok.one (Ok.eq (mapO_eq (g := fun o : Int => ((cnt M sg i o.toNat : Nat) : Int)) fun o ho => ?_) (Ok.pure rfl))
      obtain ⟨a, b⟩ := (hM.row p hp).2 o ho
      rw [vec_at a b]; rfl
    · refine List.ext_getElem? fun q => ?_
      rw [List.getElem?_map]
      unfold vec
      rw [List.getElem?_map]
      by_cases hq : q < n
      · obtain ⟨p, _, b, c⟩ := ac_at hM hq
        rw [b, List.getElem?_range hq]
        show some ((p.2.map fun o => ((cnt M sg i o.toNat : Nat) : Int)).sum) = some ((cnt M sg (i + 1) q : Nat) : Int)
        rw [row_eq hM h b, cnt_succ, sum_cast, List.map_map, List.map_map]
        congr 2
      · rw [List.getElem?_eq_none (by rw [hM.len]; omega), List.getElem?_eq_none (by simp; omega)]; rfl
  · rw [hs, rg_len]
theorem count_ok (hM : MOk n k M) (n1 : 1 ≤ n) (h : SgOk sg k) {l : Nat} (hl : l ≤ 1000) : m_count M (l : Int) = some ((cnt M sg l 0 : Nat) : Int) := by
  unfold m_count
  rw [counted_ok hM h hl]
  simp only [Option.bind_some]
  rw [vec_at (by decide) (by omega)]
  rfl
/-! a row by its number among those of its length -/
theorem row_of_length_ok (hM : MOk n k M) (n1 : 1 ≤ n) (h : SgOk sg k) {l r : Nat} {w : List Nat} (hl : l ≤ 1000) (hr : (pas M sg l 0)[r]? = some w) : m_row_of_length M sg (l : Int) (r : Int) = some w := by
  unfold m_row_of_length
  refine Ok.one (Ok.eq (v := ([] : List Nat)) rfl (Ok.eq (v := (0 : Int)) rfl (Ok.eq (rng1_nat (by omega)) ?_)))
  refine Ok.bind (Q := fun st => st = .nx ((0 : Int), w, (st.go (fun s => some s.2.2) (fun _ => none)).getD 0)) ?_ fun st hst => ?_
  · refine Exists.elim (foldB_inv (ρ := List Nat) (f := fun (s1 : Int × (List Nat) × Int) (x1 : Int) => (m_counted M (((l : Int) - x1) - (1 : Int))).bind fun v2 => (atI M s1.2.2).bind fun v3 => (foldB (ρ := (List Nat)) (fun (s2 : Int × (List Nat) × Int) (x2 : ((List Nat) × Int)) => (atI v2 x2.2).bind fun v4 => if (decide (s2.1 < v4)) = true then (catO s2.2.1 x2.1).bind fun v5 => some (.bk (s2.1, v5, x2.2)) else (atI v2 x2.2).bind fun v6 => (some (s2.1 - v6)).bind fun x_number_1 => some (.nx (x_number_1, s2.2.1, s2.2.2))) (s1.1, s1.2.1, s1.2.2) ((sg.map fun k => [k]).zip v3.2)).bind fun s3 => Stp.go s3 (fun (s2 : Int × (List Nat) × Int) => some (.nx (s2.1, s2.2.1, s2.2.2))) (fun (y1 : (List Nat)) => none))
      (fun i (s : Int × (List Nat) × Int) => ∃ r q : Nat, q < n ∧ s.1 = (r : Int) ∧ s.2.2 = (q : Int) ∧ ∃ w', (pas M sg (l - i) q)[r]? = some w' ∧ w = s.2.1 ++ w') (xs := rg l) (s := ((r : Int), ([] : List Nat), (0 : Int))) 0 ⟨r, 0, by omega, rfl, rfl, w, hr, rfl⟩ fun i x s hx ⟨r, q, hq, e1, e2, w', hw, ew⟩ => ?_) fun s' ⟨e, r', q, hq, e1, e2, w', hw, ew⟩ => ?_
    · rw [Nat.zero_add] at hw ⊢
      have hi : i < l := by have := (List.getElem?_eq_some_iff.mp hx).1; rw [rg_len] at this; exact this
      rw [rg_get hi] at hx; cases hx
      obtain ⟨L, hL⟩ : ∃ L, l - i = L + 1 := ⟨l - i - 1, by omega⟩
      have eL : ((l : Int) - (i : Int)) - 1 = (L : Int) := by omega
      rw [hL, pas_succ] at hw
      obtain ⟨p, a, b, c⟩ := ac_at hM hq
      have hrow := row_eq hM h b
      have hwl := (pas_mem (List.mem_of_getElem? hr)).1
      have hsl : s.2.1.length ≤ 1000 := by have := congrArg List.length ew; rw [List.length_append] at this; omega
      -- the signs of this place
      have inner : ∀ (cs : List Nat) (r : Nat), (∀ c ∈ cs, c ∈ sg) → (cs.flatMap fun c => (pas M sg L (dl M q (sg.idxOf c))).map fun w => c :: w)[r]? = some w' → ∃ (r' q' : Nat) (w'' : List Nat) (c : Nat), q' < n ∧ (foldB (ρ := (List Nat)) (fun (s2 : Int × (List Nat) × Int) (x2 : ((List Nat) × Int)) => (atI (vec M sg n L) x2.2).bind fun v4 => if (decide (s2.1 < v4)) = true then (catO s2.2.1 x2.1).bind fun v5 => some (.bk (s2.1, v5, x2.2)) else (atI (vec M sg n L) x2.2).bind fun v6 => (some (s2.1 - v6)).bind fun x_number_1 => some (.nx (x_number_1, s2.2.1, s2.2.2))) ((r : Int), s.2.1, s.2.2) ((cs.map fun k => [k]).zip (cs.map fun c => ((dl M q (sg.idxOf c) : Nat) : Int)))) = some (.bk ((r' : Int), s.2.1 ++ [c], (q' : Int))) ∧ (pas M sg L q')[r']? = some w'' ∧ w' = c :: w'' := fun cs => by
        induction cs with
        | nil => intro r _ hf; simp at hf
        | cons c cs ih =>
          intro r hcs hf
          have hd : dl M q (sg.idxOf c) < n := dl_lt hM hq
          rw [List.flatMap_cons] at hf
          rw [List.map_cons, List.map_cons, List.zip_cons_cons]
          by_cases hrl : r < (pas M sg L (dl M q (sg.idxOf c))).length
          · rw [List.getElem?_append_left (by rw [List.length_map]; exact hrl), List.getElem?_map] at hf
            obtain ⟨w'', hw''⟩ : ∃ w'', (pas M sg L (dl M q (sg.idxOf c)))[r]? = some w'' := ⟨_, List.getElem?_eq_getElem hrl⟩
            rw [hw''] at hf
            cases hf
            refine ⟨r, dl M q (sg.idxOf c), w'', c, hd, ?_, hw'', rfl⟩
            unfold foldB
            rw [vec_at (by show (0 : Int) ≤ ((dl M q (sg.idxOf c) : Nat) : Int); omega) (by show ((dl M q (sg.idxOf c) : Nat) : Int) < (n : Int); omega)]
            simp only [Option.bind_some]
            rw [if_pos (decide_eq_true (by show (r : Int) < ((cnt M sg L (dl M q (sg.idxOf c)) : Nat) : Int); unfold cnt; omega))]
            unfold catO
            rw [if_pos (by rw [sz16]; simp; omega)]
            rfl
          · rw [List.getElem?_append_right (by rw [List.length_map]; omega), List.length_map] at hf
            obtain ⟨r', q', w'', c', x1, x2, x3, x4⟩ := ih (r - (pas M sg L (dl M q (sg.idxOf c))).length) (fun d hd => hcs d (List.mem_cons_of_mem _ hd)) hf
            refine ⟨r', q', w'', c', x1, ?_, x3, x4⟩
            rw [← x2]
            conv => lhs; unfold foldB
            rw [vec_at (by show (0 : Int) ≤ ((dl M q (sg.idxOf c) : Nat) : Int); omega) (by show ((dl M q (sg.idxOf c) : Nat) : Int) < (n : Int); omega)]
            simp only [Option.bind_some]
            rw [if_neg (by rw [decide_eq_true_eq]; show ¬ ((r : Int) < ((cnt M sg L (dl M q (sg.idxOf c)) : Nat) : Int)); unfold cnt; omega)]
            have : ((r : Int) - ((cnt M sg L (dl M q (sg.idxOf c)) : Nat) : Int)) = ((r - (pas M sg L (dl M q (sg.idxOf c))).length : Nat) : Int) := by unfold cnt; omega
            show foldB _ (((r : Int) - ((cnt M sg L ((dl M q (sg.idxOf c) : Nat) : Int).toNat : Nat) : Int)), s.2.1, s.2.2) _ = _
            rw [Int.toNat_natCast, this]
      obtain ⟨r', q', w'', c', x1, x2, x3, x4⟩ := inner sg r (fun c hc => hc) hw
      refine ⟨((r' : Int), s.2.1 ++ [c'], (q' : Int)), ?_, r', q', x1, rfl, rfl, w'', by rw [show l - (i + 1) = L by omega]; exact x3, by rw [ew, x4]; simp⟩
      exact Ok.one (Ok.eq (by rw [eL]; exact counted_ok hM h (by omega)) (Ok.eq (by rw [e2]; exact a) (Ok.eq (v := Stp.bk ((r' : Int), s.2.1 ++ [c'], (q' : Int))) (by rw [hrow, e1]; exact x2) ⟨_, rfl, rfl⟩)))
    · rw [Nat.zero_add, rg_len, Nat.sub_self, pas_zero] at hw
      have hw' : r' = 0 ∧ w' = [] := by
        split at hw
        · cases r' with
          | zero => simp at hw; exact ⟨rfl, hw⟩
          | succ r' => simp at hw
        · simp at hw
      obtain ⟨rfl, rfl⟩ := hw'
      refine ⟨_, e, ?_⟩
      rw [List.append_nil] at ew
      obtain ⟨a, b, c⟩ := s'
      subst ew
      have e1 : a = 0 := e1
      subst e1
      rfl
  · rw [hst]
    exact Ok.pure rfl
/-! a row's number -/
theorem number_of_ok (hM : MOk n k M) (n1 : 1 ≤ n) (h : SgOk sg k) {l r : Nat} {w : List Nat} (hl : l ≤ 1000) (hr : (pas M sg l 0)[r]? = some w) : m_number_of M sg w = some (((((List.range l).map fun j => cnt M sg j 0).sum + r : Nat)) : Int) := by
  obtain ⟨wl, ws, _⟩ := pas_mem (List.mem_of_getElem? hr)
  unfold m_number_of
  refine Ok.one (Ok.eq (v := (0 : Int)) rfl (Ok.eq (v := rg l) (by rw [wl]; exact rng1_nat (by omega)) (Ok.eq (mapO_eq (g := fun x : Int => ((cnt M sg x.toNat 0 : Nat) : Int)) fun x hx => ?_) ?_)))
  · obtain ⟨i, hi, rfl⟩ := mem_rg hx
    rw [count_ok hM n1 h (by omega)]; rfl
  have hsum : ((rg l).map fun x : Int => ((cnt M sg x.toNat 0 : Nat) : Int)).sum = ((((List.range l).map fun j => cnt M sg j 0).sum : Nat) : Int) := by
    rw [sum_cast, List.map_map]
    unfold rg
    rw [List.map_map]; rfl
  rw [hsum]
  refine Ok.bind (Ok.fold (fun i (s : Int × Int) => ∃ r' q : Nat, q < n ∧ s.1 = (q : Int) ∧ s.2 + (r' : Int) = ((((List.range l).map fun j => cnt M sg j 0).sum + r : Nat) : Int) ∧ (pas M sg (l - i) q)[r']? = some (w.drop i)) ⟨r, 0, by omega, rfl, by push_cast; rfl, hr⟩ fun i x s hx ⟨r', q, hq, e1, e2, hp⟩ => ?_) fun s ⟨r', q, hq, e1, e2, hp⟩ => ?_
  · obtain ⟨f1, f2⟩ := enL_of hx
    rw [List.getElem?_map] at f2
    obtain ⟨c, hc, ec⟩ : ∃ c, w[i]? = some c ∧ x.2 = [c] := by
      cases e : w[i]? with
      | none => rw [e] at f2; cases f2
      | some c => rw [e] at f2; exact ⟨c, rfl, (Option.some.inj f2).symm⟩
    have hi : i < l := by have := (List.getElem?_eq_some_iff.mp hc).1; omega
    obtain ⟨L, hL⟩ : ∃ L, l - i = L + 1 := ⟨l - i - 1, by omega⟩
    have eL : ((w.length : Int) - x.1) - 1 = (L : Int) := by rw [wl, f1]; omega
    rw [hL, pas_succ] at hp
    obtain ⟨j, c', r'', g1, g2, g3⟩ := flat_get hp
    rw [List.getElem?_map] at g2
    obtain ⟨u, hu, eu⟩ : ∃ u, (pas M sg L (dl M q (sg.idxOf c')))[r'']? = some u ∧ c' :: u = w.drop i := by
      cases e : (pas M sg L (dl M q (sg.idxOf c')))[r'']? with
      | none => rw [e] at g2; cases g2
      | some u => rw [e] at g2; exact ⟨u, rfl, Option.some.inj g2⟩
    have hwd : w.drop i = c :: w.drop (i + 1) := by
      obtain ⟨hlt, e⟩ := List.getElem?_eq_some_iff.mp hc
      rw [← e]; exact List.drop_eq_getElem_cons hlt
    rw [hwd] at eu
    cases eu
    have hcs : c ∈ sg := ws c (List.mem_of_getElem? hc)
    have hj := idxOf_get h.nd g1
    obtain ⟨p, a, b, c3, d⟩ := step_ok hM h hcs hq
    refine Ok.eq (by rw [eL]; exact counted_ok hM h (by omega)) (Ok.eq (by rw [ec]; exact h.ix c hcs) (Ok.eq (by rw [e1]; exact a) ?_))
    have hcut : cut p.2 none (some ((sg.idxOf c : Nat) : Int)) = (sg.take j).map fun c => ((dl M q (sg.idxOf c) : Nat) : Int) := by
      unfold cut
      rw [HT.sIx_none, HT.sIx_nat, List.drop_zero, Nat.sub_zero, row_eq hM h b, List.length_map, ← List.map_take, hj, Nat.min_eq_left (by have := (List.getElem?_eq_some_iff.mp g1).1; omega)]
    rw [hcut]
    refine Ok.eq (mapO_eq (g := fun o : Int => ((cnt M sg L o.toNat : Nat) : Int)) fun o ho => ?_) ?_
    · obtain ⟨d', _, rfl⟩ := List.mem_map.mp ho
      rw [vec_at (by omega) (by have := dl_lt hM hq (x := sg.idxOf d'); omega)]; rfl
    · refine Ok.eq rfl (Ok.eq (by rw [e1]; exact a) (Ok.eq d (Ok.pure ⟨r'', dl M q (sg.idxOf c), dl_lt hM hq, rfl, ?_, ?_⟩)))
      · rw [List.map_map]
        have : (((sg.take j).map ((fun o : Int => ((cnt M sg L o.toNat : Nat) : Int)) ∘ fun c => ((dl M q (sg.idxOf c) : Nat) : Int))).sum) = ((((sg.take j).map fun x => ((pas M sg L (dl M q (sg.idxOf x))).map fun w => x :: w).length).sum : Nat) : Int) := by
          rw [sum_cast, List.map_map]
          congr 1
          refine List.map_congr_left fun d' _ => ?_
          show ((cnt M sg L ((dl M q (sg.idxOf d') : Nat) : Int).toNat : Nat) : Int) = ((((pas M sg L (dl M q (sg.idxOf d'))).map fun w => d' :: w).length : Nat) : Int)
          rw [List.length_map, Int.toNat_natCast]; rfl
        show (s.2 + _) + (r'' : Int) = _
        rw [this, ← e2, g3]
        push_cast
        omega
      · rw [show l - (i + 1) = L by omega]; exact hu
  · rw [enL_len, List.length_map, wl, Nat.sub_self, pas_zero] at hp
    obtain ⟨p, a, b, c⟩ := ac_at hM hq
    have hz : r' = 0 ∧ ac M q = true := by
      split at hp
      · rename_i hacc
        cases r' with
        | zero => exact ⟨rfl, hacc⟩
        | succ r' => simp at hp
      · simp at hp
    obtain ⟨rfl, hacc⟩ := hz
    refine Ok.eq (by rw [e1]; exact a) (Ok.iteF (by rw [c, hacc]; rfl) (Ok.pure ?_))
    rw [← e2]; simp
end
end LW
namespace LW
open PySem L2 TW
section
variable {α β S ρ : Type}
theorem Ok.forB {f : S → α → Option (Stp S ρ)} {k : S → Option β} {r : ρ → Option β} {P : β → Prop} (I : List α → S → Prop) {xs : List α} {s : S} (h : I [] s) (step : ∀ (i : Nat) pre x s, xs[i]? = some x → pre = xs.take i → pre.length = i → I pre s → Ok (f s x) fun t => ∃ s', t = .nx s' ∧ I (pre ++ [x]) s') (kk : ∀ s, I xs s → Ok (k s) P) :
    Ok ((foldB f s xs).bind fun st => Stp.go st k r) P := by
  obtain ⟨s', e, hI⟩ := foldB_inv (f := f) (fun i s => I (xs.take i) s) (xs := xs) (s := s) 0 h fun i x s hx hs => by
    rw [Nat.zero_add] at hs ⊢
    have hi := (List.getElem?_eq_some_iff.mp hx).1
    obtain ⟨t, e, s', rfl, hI⟩ := step i _ x s hx rfl (by rw [List.length_take]; omega) hs
    refine ⟨s', e, ?_⟩
    show I (xs.take (i + 1)) s'
    rw [show xs.take (i + 1) = xs.take i ++ [x] by rw [List.take_succ, hx]; rfl]
    exact hI
  rw [Nat.zero_add, List.take_length] at hI
  exact Ok.eq e (kk s' hI)
theorem whileB_rt {cnd : S → Option Bool} {f : S → Option (Stp S ρ)} {n : Nat} {s : S} {y : ρ} (h : cnd s = some true) (hf : f s = some (.rt y)) : whileB cnd f (n + 1) s = some (.rt y) := by
  rw [whileB, h]
  simp only
  rw [hf]
theorem whileB_nx {cnd : S → Option Bool} {f : S → Option (Stp S ρ)} {n : Nat} {s s' : S} (h : cnd s = some true) (hf : f s = some (.nx s')) : whileB cnd f (n + 1) s = whileB cnd f n s' := by
  rw [whileB, h]
  simp only
  rw [hf]
end
theorem maxL_ge : ∀ {xs : List Int} {x : Int}, x ∈ xs → x ≤ maxL xs
  | [y], x, h => by rw [List.mem_singleton.mp h]; exact Int.le_refl _
  | y :: z :: r, x, h => by
    show x ≤ max y (maxL (z :: r))
    rcases List.mem_cons.mp h with e | h
    · rw [e]; exact Int.le_max_left _ _
    · exact Int.le_trans (maxL_ge h) (Int.le_max_right _ _)
section
variable {M : Mach} {n k : Nat} {sg : List Nat}
theorem cnt_pos {l : Nat} : 0 < cnt M sg l 0 ↔ ∃ w : List Nat, w.length = l ∧ (∀ c ∈ w, c ∈ sg) ∧ ac M (dlw M 0 (ixs sg w)) = true := by
  constructor
  · intro h
    obtain ⟨w, hw⟩ := List.exists_mem_of_length_pos h
    obtain ⟨a, b, c⟩ := pas_mem hw
    exact ⟨w, a, b, c⟩
  · rintro ⟨w, rfl, b, c⟩
    exact List.length_pos_of_mem (List.mem_filter.mpr ⟨mem_words b, c⟩)
theorem pigeon {f : Nat → Nat} (n : Nat) (h : ∀ i, i ≤ n → f i < n) : ∃ i j, i < j ∧ j ≤ n ∧ f i = f j := by
  refine Classical.byContradiction fun no => ?_
  have nd : ((List.range (n + 1)).map fun i => ((f i : Nat) : Int)).Nodup := by
    show List.Pairwise (· ≠ ·) _
    rw [List.pairwise_map]
    refine List.Pairwise.imp_of_mem (R := fun a b => a < b) (fun {a b} ha hb hab e => no ⟨a, b, hab, ?_, ?_⟩) List.pairwise_lt_range
    · have := List.mem_range.mp hb; omega
    · have : ((f a : Nat) : Int) = ((f b : Nat) : Int) := e
      omega
  have := nodup_bound (n := n) (fun x hx => by
    obtain ⟨i, hi, rfl⟩ := List.mem_map.mp hx
    have := h i (by have := List.mem_range.mp hi; omega)
    show (0 : Int) ≤ ((f i : Nat) : Int) ∧ ((f i : Nat) : Int) < (n : Int)
    omega) nd
  simp at this
  omega
theorem pump (hM : MOk n k M) (n1 : 1 ≤ n) : ∀ (d : Nat) (w : List Nat), w.length ≤ n + d → n ≤ w.length → (∀ c ∈ w, c ∈ sg) → ac M (dlw M 0 (ixs sg w)) = true → ∃ l, n ≤ l ∧ l < 2 * n ∧ 0 < cnt M sg l 0
  | 0, w, h1, h2, h3, h4 => ⟨w.length, h2, by omega, cnt_pos.mpr ⟨w, rfl, h3, h4⟩⟩
  | d + 1, w, h1, h2, h3, h4 => by
    by_cases h5 : w.length < 2 * n
    · exact ⟨w.length, h2, h5, cnt_pos.mpr ⟨w, rfl, h3, h4⟩⟩
    · obtain ⟨i, j, hij, hj, e⟩ := pigeon (f := fun i => dlw M 0 (ixs sg (w.take i))) n fun i _ => dlw_lt hM _ (by omega)
      refine pump hM n1 d (w.take i ++ w.drop j) (by rw [List.length_append, List.length_take, List.length_drop]; omega) (by rw [List.length_append, List.length_take, List.length_drop]; omega) (fun c hc => ?_) ?_
      · rcases List.mem_append.mp hc with z | z
        · exact h3 c (List.mem_of_mem_take z)
        · exact h3 c (List.mem_of_mem_drop z)
      · rw [← h4]
        have a : ixs sg (w.take i ++ w.drop j) = ixs sg (w.take i) ++ ixs sg (w.drop j) := by unfold ixs; rw [List.map_append]
        have b : ixs sg w = ixs sg (w.take j) ++ ixs sg (w.drop j) := by unfold ixs; rw [← List.map_append, List.take_append_drop]
        have e : dlw M 0 (ixs sg (w.take i)) = dlw M 0 (ixs sg (w.take j)) := e
        rw [a, b, dlw_app, dlw_app, e]
theorem longest_ok (hM : MOk n k M) (n1 : 1 ≤ n) (n8 : n ≤ 8) (h : SgOk sg k) : Ok (m_longest M) fun v => v = none ∨ ∃ y : Int, v = some y ∧ ∀ t : Nat, 0 < cnt M sg t 0 → (t : Int) ≤ y := by
  unfold m_longest
  refine Ok.eq (v := (n : Int)) (by rw [hM.len]) (Ok.eq (mulO_ok (by decide)) (Ok.eq (v := rg (2 * n)) (by rw [show (2 : Int) * (n : Int) = ((2 * n : Nat) : Int) by push_cast; rfl]; exact rng1_nat (by omega)) ?_))
  refine Ok.eq (mapO_eq (g := fun x : Int => ((cnt M sg x.toNat 0 : Nat) : Int)) fun x hx => ?_) ?_
  · obtain ⟨i, hi, rfl⟩ := mem_rg hx
    rw [count_ok hM n1 h (by omega)]; rfl
  have hget : ∀ i, i < 2 * n → ((rg (2 * n)).map fun x : Int => ((cnt M sg x.toNat 0 : Nat) : Int))[i]? = some ((cnt M sg i 0 : Nat) : Int) := fun i hi => by
    rw [List.getElem?_map, rg_get hi]; rfl
  refine Ok.eq (mapO_eq (g := fun x : Int => decide (0 < x)) fun x _ => rfl) (Ok.ite (fun hc => Ok.pure (.inl rfl)) fun hc => ?_)
  have hc := of_decide_eq_false hc
  refine Ok.eq (rng1_nat (by omega)) ?_
  refine Ok.eq (filtO_eq (q := fun x : Int => decide (0 < ((cnt M sg x.toNat 0 : Nat) : Int))) (g := fun x => x) (fun x hx => ?_) fun x _ _ => rfl) ?_
  · obtain ⟨i, hi, rfl⟩ := mem_rg hx
    rw [at_nat (hget i (by omega))]; rfl
  rw [List.map_id']
  refine Ok.eq (app_ok (by
    have := List.length_filter_le (fun x : Int => decide (0 < ((cnt M sg x.toNat 0 : Nat) : Int))) (rg n)
    rw [rg_len] at this
    simp only [List.length_singleton]
    omega)) (Ok.eq (v := maxL _) (if_neg (by simp)) (Ok.pure (.inr ⟨_, rfl, fun t ht => ?_⟩)))
  have hcut : ∀ i, n ≤ i → i < 2 * n → ¬ 0 < cnt M sg i 0 := fun i a b hp => by
    refine hc (List.mem_map.mpr ⟨((cnt M sg i 0 : Nat) : Int), ?_, decide_eq_true (by omega)⟩)
    refine List.mem_of_getElem? (i := i - n) ?_
    unfold cut
    rw [HT.sIx_none, HT.sIx_nat, List.length_map, rg_len, List.getElem?_take, if_pos (by omega), List.getElem?_drop, Nat.min_eq_left (by omega), show n + (i - n) = i by omega]
    exact hget i b
  have htn : t < n := by
    refine Classical.byContradiction fun hn => ?_
    obtain ⟨w, rfl, b, c⟩ := cnt_pos.mp ht
    obtain ⟨l, l1, l2, l3⟩ := pump hM n1 (w.length) w (by omega) (by omega) b c
    exact hcut l l1 l2 l3
  refine maxL_ge (List.mem_append_right _ (List.mem_filter.mpr ⟨List.mem_map.mpr ⟨t, List.mem_range.mpr htn, rfl⟩, decide_eq_true ?_⟩))
  show 0 < ((cnt M sg ((t : Nat) : Int).toNat 0 : Nat) : Int)
  rw [Int.toNat_natCast]; omega
def upto (M : Mach) (sg : List Nat) (l : Nat) : Nat := ((List.range l).map fun j => cnt M sg j 0).sum
theorem upto_succ (M : Mach) (sg : List Nat) (l : Nat) : upto M sg (l + 1) = upto M sg l + cnt M sg l 0 := by
  unfold upto
  rw [List.range_succ, List.map_append, List.sum_append]
  simp
theorem upto_mono (M : Mach) (sg : List Nat) {l t : Nat} (h : l ≤ t) : upto M sg l ≤ upto M sg t := by
  induction h with
  | refl => exact Nat.le_refl _
  | step _ ih => rw [upto_succ]; omega
theorem row_numbered_ok (hM : MOk n k M) (n1 : 1 ≤ n) (n8 : n ≤ 8) (h : SgOk sg k) {t r : Nat} {w : List Nat} (ht : t ≤ 1000) (hr : (pas M sg t 0)[r]? = some w) : m_row_numbered M sg ((upto M sg t + r : Nat) : Int) = some w := by
  have hrl : r < cnt M sg t 0 := (List.getElem?_eq_some_iff.mp hr).1
  unfold m_row_numbered
  refine Ok.one (Ok.bind (longest_ok hM n1 n8 h) fun v1 hv => Ok.eq (v := (0 : Int)) rfl ?_)
  have cond : ∀ l : Nat, l ≤ t → (orO (Option.isNone v1) ((v1).bind fun y1 => some (decide ((l : Int) ≤ y1)))).bind (fun v2 => some v2) = some true := fun l hl => by
    rcases hv with rfl | ⟨y, rfl, hy⟩
    · rfl
    · have := hy t (by omega)
      show some (decide ((l : Int) ≤ y)) = some true
      rw [decide_eq_true (by omega)]
  have go : ∀ (d l left fuel : Nat), l + d = t → d < fuel → upto M sg l + left = upto M sg t + r → whileB (ρ := (List Nat)) (fun (s1 : Int × Int) => (orO (Option.isNone v1) ((v1).bind fun y1 => some (decide (s1.1 ≤ y1)))).bind fun v2 => some v2) (fun (s1 : Int × Int) => (m_count M s1.1).bind fun v3 => if (decide (s1.2 < v3)) = true then (m_row_of_length M sg s1.1 s1.2).bind fun v4 => some (.rt v4) else (some (s1.2 - v3)).bind fun x_left_1 => (some (s1.1 + (1 : Int))).bind fun x_length_2 => some (.nx (x_length_2, x_left_1))) fuel ((l : Int), (left : Int)) = some (.rt w) := fun d => by
    induction d with
    | zero =>
      intro l left fuel hl hf hs
      have : l = t := by omega
      subst this
      have : left = r := by omega
      subst this
      obtain ⟨f, rfl⟩ : ∃ f, fuel = f + 1 := ⟨fuel - 1, by omega⟩
      refine whileB_rt (cond l (Nat.le_refl _)) (Ok.one (Ok.eq (count_ok hM n1 h ht) (Ok.iteT (decide_eq_true (by show (left : Int) < ((cnt M sg l 0 : Nat) : Int); omega)) (Ok.eq (row_of_length_ok hM n1 h ht hr) (Ok.pure rfl)))))
    | succ d ih =>
      intro l left fuel hl hf hs
      obtain ⟨f, rfl⟩ : ∃ f, fuel = f + 1 := ⟨fuel - 1, by omega⟩
      have hm := upto_mono M sg (show l + 1 ≤ t by omega)
      rw [upto_succ] at hm
      rw [whileB_nx (s' := (((l + 1 : Nat) : Int), ((left - cnt M sg l 0 : Nat) : Int))) (cond l (by omega)) (Ok.one (Ok.eq (count_ok hM n1 h (by omega)) (Ok.iteF (decide_eq_false (by show ¬ ((left : Int) < ((cnt M sg l 0 : Nat) : Int)); omega)) (Ok.eq rfl (Ok.eq rfl (Ok.pure (by
        show Stp.nx (((l : Int) + 1), ((left : Int) - ((cnt M sg l 0 : Nat) : Int))) = _
        rw [show ((l : Int) + 1) = ((l + 1 : Nat) : Int) by omega, show ((left : Int) - ((cnt M sg l 0 : Nat) : Int)) = ((left - cnt M sg l 0 : Nat) : Int) by omega])))))))]
      exact ih (l + 1) _ f (by omega) (by omega) (by rw [upto_succ]; omega)
  have z := go t 0 (upto M sg t + r) 4096 (by omega) (by omega) (by show 0 + _ = _; omega)
  exact Ok.eq z (Ok.pure rfl)
end
/-! the rows of the law -/
theorem flat_ok {rows : List (List (List Nat))} (h : rows.flatten.length ≤ 16777216) : m__law_flat rows = some rows.flatten := by
  unfold m__law_flat
  refine Ok.one (Ok.eq (v := ([] : List (List Nat))) rfl (Ok.bind (Ok.foldP (fun (pre : List (List (List Nat))) (s : List (List Nat)) => s = pre.flatten) rfl fun i pre x s hx hp hpl hs => ?_) fun s hs => Ok.pure hs))
  subst hs
  have e : rows = pre ++ x :: rows.drop (i + 1) := by rw [hp]; exact split_at hx
  refine Ok.eq (app_ok ?_) (Ok.pure (by simp))
  rw [e, List.flatten_append, List.flatten_cons, List.length_append, List.length_append] at h
  omega
def allTo (sg : List Nat) (m : Nat) : List (List Nat) := (List.range (m + 1)).flatMap fun l => words sg l
theorem allTo_succ (sg : List Nat) (m : Nat) : allTo sg (m + 1) = allTo sg m ++ words sg (m + 1) := by
  unfold allTo
  rw [List.range_succ, List.flatMap_append, List.flatMap_singleton]
theorem rows_ok {sg : List Nat} {k m : Nat} (h : SgOk sg k) (hm : m ≤ 4) : m__law_rows sg (m : Int) = some (allTo sg m) := by
  have many : ∀ l, l ≤ 4 → (words sg l).length ≤ 256 := fun l hl => by
    rw [words_many, h.len]
    exact Nat.le_trans (Nat.pow_le_pow_left h.k4 l) (Nat.pow_le_pow_right (n := 4) (by decide) hl)
  unfold m__law_rows
  refine Ok.one (Ok.eq (v := [([] : List Nat)]) rfl (Ok.eq (v := [([] : List Nat)]) rfl (Ok.eq (rng1_nat (by omega)) ?_)))
  refine Ok.bind (Ok.fold (fun i (s : (List (List Nat)) × (List (List Nat))) => s.1 = allTo sg i ∧ s.2 = words sg i ∧ s.1.length ≤ 256 * (i + 1)) ⟨rfl, rfl, by decide⟩ fun i x s hx ⟨h1, h2, h3⟩ => ?_) fun s ⟨h1, _, _⟩ => Ok.pure (by rw [h1, rg_len])
  have hi : i < m := by have := (List.getElem?_eq_some_iff.mp hx).1; rw [rg_len] at this; exact this
  have hm1 := many (i + 1) (by omega)
  refine Ok.eq (mapO_eq (g := fun w : List Nat => sg.map fun c => w ++ [c]) fun w hw => ?_) ?_
  · rw [h2] at hw
    have hwl := (words_len sg i w hw).1
    refine Ok.one (Ok.eq (mapO_eq (g := fun c : List Nat => w ++ c) fun c hc => ?_) (Ok.pure ?_))
    · obtain ⟨d, _, rfl⟩ := List.mem_map.mp hc
      unfold catO
      rw [if_pos (by rw [sz16]; simp; omega)]; rfl
    · rw [List.map_map]; rfl
  · refine Ok.eq (v := words sg (i + 1)) ?_ (Ok.eq (app_ok (by omega)) (Ok.pure ⟨?_, rfl, ?_⟩))
    · rw [h2, ← words_app]
      exact flat_ok (by rw [words_app]; omega)
    · rw [h1, allTo_succ]
    · show (s.1 ++ words sg (i + 1)).length ≤ _
      rw [List.length_append]; omega
theorem allTo_filter (sg : List Nat) : ∀ m : Nat, (allTo sg m).filter (fun w => decide ((w.length : Int) = (m : Int))) = words sg m := by
  have hall : ∀ m, (words sg m).filter (fun w => decide ((w.length : Int) = (m : Int))) = words sg m := fun m => List.filter_eq_self.mpr fun w hw => decide_eq_true (by rw [(words_len sg m w hw).1])
  have hlt : ∀ m w, w ∈ allTo sg m → w.length ≤ m := fun m w hw => by
    obtain ⟨l, hl, hw⟩ := List.mem_flatMap.mp hw
    have := (words_len sg l w hw).1
    have := List.mem_range.mp hl
    omega
  intro m
  cases m with
  | zero => exact hall 0
  | succ m =>
    rw [allTo_succ, List.filter_append, hall]
    have : (allTo sg m).filter (fun w => decide ((w.length : Int) = ((m + 1 : Nat) : Int))) = [] := List.filter_eq_nil_iff.mpr fun w hw => by
      have := hlt m w hw
      rw [decide_eq_true_eq]; omega
    rw [this]; rfl
theorem join_one : ∀ cs : List Nat, TL.joinL [] (cs.map fun c => [c]) = cs
  | [] => rfl
  | [c] => rfl
  | c :: d :: cs => by
    have ih := join_one (d :: cs)
    show [c] ++ ([] ++ TL.joinL [] ((d :: cs).map fun c => [c])) = _
    rw [ih]; rfl
theorem row_ok {sg : List Nat} {k most : Nat} {s : LSt} (h : SgOk sg k) (hs : StOk s) (hm : most ≤ 1000) : Ok (m__law_row s sg (most : Int)) fun p => (∀ c ∈ p.1, c ∈ sg) ∧ p.1.length ≤ most ∧ StOk p.2 := by
  unfold m__law_row
  refine Ok.bind (next_ok hs (limit := (most : Int) + 1) (by omega) (by omega)) fun v1 ⟨⟨a, b⟩, c⟩ => ?_
  obtain ⟨N, hN⟩ : ∃ N : Nat, v1.1 = (N : Int) := ⟨v1.1.toNat, by omega⟩
  refine Ok.eq (v := rg N) (by rw [hN]; exact rng1_nat (by omega)) ?_
  refine Ok.bind (Ok.mapS StOk (fun x : List Nat => ∃ c, c ∈ sg ∧ x = [c]) c fun x t _ ht => ?_) fun v5 ⟨l5, q5, k5⟩ => ?_
  · refine Ok.bind (next_ok ht (limit := (sg.length : Int)) (by have := h.len; have := h.k2; omega) (by have := h.len; have := h.k4; omega)) fun v3 ⟨⟨d, e⟩, f⟩ => ?_
    obtain ⟨y, hy, _, hym⟩ := at_ex (xs := sg) d e
    exact Ok.eq hy (Ok.pure ⟨⟨y, hym, rfl⟩, f⟩)
  · obtain ⟨cs, hcs, hmem⟩ : ∃ cs : List Nat, v5.1 = cs.map (fun c => [c]) ∧ ∀ c ∈ cs, c ∈ sg := by
      generalize v5.1 = ys at q5
      clear l5
      induction ys with
      | nil => exact ⟨[], rfl, fun c hc => by cases hc⟩
      | cons y ys ih =>
        obtain ⟨cs, e, m⟩ := ih fun z hz => q5 z (List.mem_cons_of_mem _ hz)
        obtain ⟨c, hc, rfl⟩ := q5 y List.mem_cons_self
        exact ⟨c :: cs, by rw [e]; rfl, fun d hd => (List.mem_cons.mp hd).elim (fun e => by rw [e]; exact hc) (m d)⟩
    rw [rg_len, hcs, List.length_map] at l5
    refine Ok.eq (v := cs) ?_ (Ok.pure ⟨hmem, by show cs.length ≤ most; omega, k5⟩)
    unfold joinO
    rw [hcs, join_one, if_pos]
    refine ⟨?_, ?_, ?_⟩
    · rw [List.map_map]
      have : (cs.map ((fun x : List Nat => x.length) ∘ fun c => [c])).sum = cs.length * 1 := sum_const cs 1
      have e : (cs.map ((List.length) ∘ fun c => [c])).sum = cs.length * 1 := sum_const cs 1
      simp only [List.length_map, List.length_nil]
      show (cs.map ((List.length) ∘ fun c : Nat => [c])).sum + _ ≤ _
      rw [e]; omega
    · rw [sz16]; omega
    · rw [List.all_eq_true]
      intro c hc
      exact decide_eq_true (h.asc c (hmem c hc))
end LW
namespace LW
open PySem L2 TW
def allPas (M : Mach) (sg : List Nat) (L : Nat) : List (List Nat) := (List.range L).flatMap fun l => pas M sg l 0
theorem allPas_succ (M : Mach) (sg : List Nat) (L : Nat) : allPas M sg (L + 1) = allPas M sg L ++ pas M sg L 0 := by
  unfold allPas
  rw [List.range_succ, List.flatMap_append, List.flatMap_singleton]
theorem pas_le {M : Mach} {sg : List Nat} {k l : Nat} (h : SgOk sg k) (hl : l ≤ 4) : (pas M sg l 0).length ≤ 256 := by
  refine Nat.le_trans (List.length_filter_le _ _) ?_
  rw [words_many, h.len]
  exact Nat.le_trans (Nat.pow_le_pow_left h.k4 l) (Nat.pow_le_pow_right (n := 4) (by decide) hl)
theorem stay {M : Mach} {n q : Nat} (hM : MOk n 3 M) : dl M q 3 = q := by
  unfold dl
  cases e : M[q]? with
  | none => rfl
  | some p =>
    have := (hM.row p (List.mem_of_getElem? e)).1
    show (match p.2[3]? with | some o => o.toNat | none => q) = q
    rw [List.getElem?_eq_none (by omega)]
theorem ixs_lt {sg w : List Nat} {k : Nat} (h : SgOk sg k) (hw : ∀ c ∈ w, c ∈ sg) : ∀ x ∈ ixs sg w, x < 2 ^ wd k := fun x hx => by
  obtain ⟨c, hc, rfl⟩ := List.mem_map.mp hx
  have := idx_lt (hw c hc)
  rw [h.len] at this
  have := wd_two (n := k) (by have := h.k4; omega)
  show sg.idxOf c < _
  omega
theorem law_true (ns : List Int) (hns : ns.length ≤ 63) : m_law ns = some true := by
  unfold m_law
  refine Ok.one (Ok.eq (rng1_nat (n := 3) (by decide)) (Ok.forB (fun _ (s : LSt) => StOk s) ⟨Int.le_refl 0, Int.le_refl 0, (by decide : (0 : Int) ≤ 1), (by decide : (1 : Int) < 2147483647)⟩ (fun i pre x s hx hp hpl hs => ?_) fun s _ => Ok.pure rfl))
  refine Ok.bind (signs_ok hs) fun v2 ⟨hsg, k2⟩ => ?_
  have h := sigs_ok v2.1 hsg
  generalize hk : v2.1.length = k at h
  have hkI : (v2.1.length : Int) = (k : Int) := by rw [hk]
  have k4 := h.k4
  have k2' := h.k2
  refine Ok.bind (machine_ok k2 (most := 6) (by decide) (by decide)) fun v3 ⟨⟨n, hM, n1, n6⟩, k3⟩ => ?_
  rw [hk] at hM
  refine Ok.bind (net_ok hM hk n1 (by omega) (by omega) (by omega)) fun net N => ?_
  refine Ok.eq (v := ([] : List (List Nat))) rfl ?_
  obtain ⟨L, hL, hL5⟩ : ∃ L : Nat, (if (decide ((k : Int) < (4 : Int))) = true then (5 : Int) else (4 : Int)) = (L : Int) ∧ L ≤ 5 := by
    split
    · exact ⟨5, rfl, by decide⟩
    · exact ⟨4, rfl, by decide⟩
  refine Ok.eq (v := rg L) (by rw [hL]; exact rng1_nat (by omega)) ?_
  refine Ok.forB (fun pre (s : List (List Nat)) => s = allPas v3.1 v2.1 pre.length ∧ s.length ≤ 256 * pre.length) ⟨rfl, by decide⟩ (fun i pre x s2 hx hp hpl ⟨e2, l2⟩ => ?_) fun s2 ⟨e2, l2⟩ => ?_
  · -- one length
    have hi : i < L := by have := (List.getElem?_eq_some_iff.mp hx).1; rw [rg_len] at this; exact this
    rw [rg_get hi] at hx; cases hx
    have hw : ∀ w ∈ words v2.1 i, (∀ c ∈ w, c ∈ v2.1) ∧ w.length = i := fun w hw => ⟨(words_len v2.1 i w hw).2, (words_len v2.1 i w hw).1⟩
    refine Ok.eq (rows_ok h (by omega)) ?_
    refine Ok.eq (v := words v2.1 i) ?_ ?_
    · rw [filtO_eq (q := fun w : List Nat => decide ((w.length : Int) = (i : Int))) (g := fun w => w) (fun w _ => rfl) fun w _ _ => rfl, allTo_filter, List.map_id']
    refine Ok.eq (v := pas v3.1 v2.1 i 0) ?_ (Ok.eq (v := pas v3.1 v2.1 i 0) ?_ (Ok.iteF ?_ ?_))
    · rw [filtO_eq (q := accW v3.1 v2.1 0) (g := fun w => w) (fun w hw' => by
        rw [told_ok hM N n1 h (hw w hw').1 (by have := (hw w hw').2; omega)]; rfl) fun w _ _ => rfl, List.map_id']
      rfl
    · rw [filtO_eq (q := accW v3.1 v2.1 0) (g := fun w => w) (fun w hw' => by
        rw [passes_ok hM n1 h (hw w hw').1]; rfl) fun w _ _ => rfl, List.map_id']
      rfl
    · rw [decide_eq_true rfl]; rfl
    · have hp := pas_le (M := v3.1) (l := i) h (by omega)
      refine Ok.eq (count_ok hM n1 h (by omega)) (Ok.eq (v := true) ?_ (Ok.iteF rfl (Ok.eq (app_ok (by omega)) (Ok.pure ⟨_, rfl, ?_, ?_⟩))))
      · unfold m__law_same_I
        rw [decide_eq_true (show ((cnt v3.1 v2.1 i 0 : Nat) : Int) = ((pas v3.1 v2.1 i 0).length : Int) from rfl)]; rfl
      · rw [List.length_append, List.length_singleton, allPas_succ, e2, hpl]
      · rw [List.length_append, List.length_append, List.length_singleton]; omega
  · -- the numbers
    rw [rg_len] at e2 l2
    obtain ⟨m, hm, hmle⟩ : ∃ m : Nat, min (9 : Int) (s2.length : Int) = (m : Int) ∧ m ≤ s2.length := ⟨(min (9 : Int) (s2.length : Int)).toNat, by omega, by omega⟩
    refine Ok.eq (v := rg m) (by rw [hm]; exact rng1_nat (by omega)) ?_
    refine Ok.forB (fun _ (_ : Unit) => True) trivial (fun i pre x u hx hp hpl _ => ?_) fun u _ => ?_
    · have hi : i < m := by have := (List.getElem?_eq_some_iff.mp hx).1; rw [rg_len] at this; exact this
      rw [rg_get hi] at hx; cases hx
      obtain ⟨w, hw⟩ : ∃ w, s2[i]? = some w := ⟨_, List.getElem?_eq_getElem (by omega)⟩
      have hw' := hw
      rw [e2] at hw'
      obtain ⟨j, t, r, g1, g2, g3⟩ := flat_get hw'
      have hj : j < L := by have := (List.getElem?_eq_some_iff.mp g1).1; rw [List.length_range] at this; exact this
      rw [List.getElem?_range hj] at g1; cases g1
      have hiu : i = upto v3.1 v2.1 j + r := by
        rw [g3, List.take_range, Nat.min_eq_left (by omega)]; rfl
      have a1 : m_row_numbered v3.1 v2.1 (i : Int) = some w := by
        rw [hiu]; exact row_numbered_ok hM n1 (by omega) h (by omega) g2
      have a2 : m_number_of v3.1 v2.1 w = some (i : Int) := by
        rw [number_of_ok hM n1 h (by omega) g2, hiu]; rfl
      have a3 : m__law_same_S w w = some true := by unfold m__law_same_S; rw [decide_eq_true rfl]; rfl
      have a4 : m__law_same_I (i : Int) (i : Int) = some true := by unfold m__law_same_I; rw [decide_eq_true rfl]; rfl
      refine Ok.eq a1 (Ok.eq (at_nat hw) (Ok.eq a3 (Ok.eq (v := false) ?_ (Ok.iteF rfl (Ok.pure ⟨_, rfl, trivial⟩)))))
      rw [at_nat hw]
      simp only [Option.bind_some]
      rw [a2]
      simp only [Option.bind_some]
      rw [a4]
      rfl
    · -- the numbers of no sign
      refine Ok.bind (row_ok h k3 (most := 5) (by decide)) fun v23 ⟨hmem, hl5, k5⟩ => ?_
      refine Ok.eq (inputs_ok h hmem) ?_
      have hixl : (ixs v2.1 v23.1).length = v23.1.length := by unfold ixs; rw [List.length_map]
      refine Ok.bind (Q := fun s6 : LSt × (List (List Bool)) => StOk s6.1 ∧ ∃ ys : List Nat, s6.2 = ys.map (fun x => bitsN x (wd k)) ∧ (∀ y ∈ ys, y < 2 ^ wd k) ∧ ys.length ≤ 6 ∧ dlw v3.1 0 ys = dlw v3.1 0 (ixs v2.1 v23.1)) (Ok.ite (fun hc => ?_) fun hc => Ok.pure ⟨k5, _, rfl, ixs_lt h hmem, by omega, rfl⟩) fun s6 ⟨k6, ys, e6, b6, l6, d6⟩ => ?_
      · have hc := of_decide_eq_true hc
        have hk3 : k = 3 := by omega
        subst hk3
        refine Ok.bind (next_ok k5 (limit := (((ixs v2.1 v23.1).map fun x => bitsN x (wd 3)).length : Int) + 1) (by omega) (by rw [List.length_map]; omega)) fun v25 ⟨⟨c0, c1⟩, k7⟩ => ?_
        rw [List.length_map] at c1
        refine Ok.eq (v := ((ixs v2.1 v23.1).take v25.1.toNat ++ [3] ++ (ixs v2.1 v23.1).drop v25.1.toNat).map fun x => bitsN x (wd 3)) ?_ (Ok.pure ⟨k7, _, rfl, fun y hy => ?_, ?_, ?_⟩)
        · unfold insO
          rw [if_pos ⟨by rw [List.length_map, sz16]; omega, c0, by omega⟩]
          congr 1
          rw [List.map_append, List.map_append, List.map_take, List.map_drop]
          rfl
        · rcases List.mem_append.mp hy with z | z
          · rcases List.mem_append.mp z with z | z
            · exact ixs_lt h hmem y (List.mem_of_mem_take z)
            · rw [List.mem_singleton.mp z]; decide
          · exact ixs_lt h hmem y (List.mem_of_mem_drop z)
        · rw [List.length_append, List.length_append, List.length_take, List.length_drop, List.length_singleton]; omega
        · rw [dlw_app, dlw_app]
          show dlw v3.1 (dl v3.1 (dlw v3.1 0 ((ixs v2.1 v23.1).take v25.1.toNat)) 3) _ = _
          rw [stay hM, ← dlw_app, List.take_append_drop]
      · refine Ok.eq (wide_ok h.k2 h.k4) (Ok.eq (law_bits_ok (N := 0) (wd_le k)) ?_)
        rw [e6]
        refine told_run hM N n1 b6 (by omega) ?_
        rw [d6]
        refine Ok.eq (told_ok hM N n1 h hmem (by omega)) (Ok.iteF (by rw [decide_eq_true rfl]; rfl) (Ok.pure ⟨_, rfl, k6⟩))
end LW
namespace LW
open PySem L2 TW
section
def spLaw (K : PySem.W.Frag) : Sp := fun vs H Q _ => ∃ (a : Addr) (ns : List Int), vs = [.ref a] ∧ SqL K H a (ns.map V.int) ∧ ns.length ≤ 63 ∧ ∀ H', Q (.bl true) H'
theorem law_of {P : Program} {w : World} {K : PySem.W.Frag} {mg : Str → Option Value} {base : Heap} {a : Ad} (T : Tx K mg a) : FnOk P w K mg base CX0 7 a.f_law a.d_law ["script"] (spLaw K) :=
  (ok_law T).imp fun vs H Q E ⟨p, ns, e1, h1, h2, k⟩ => by
    subst e1
    refine ⟨H, [], _, ⟨fun _ _ h => h, List.nodup_nil, fun p hp => by cases hp⟩, ⟨ns, true, ⟨⟨p, _, rfl, h1, All2.of_map (f := V.int) (fun _ _ => rfl) ns, Nat.le_trans h2 (by decide)⟩, trivial⟩, rfl, law_true ns h2, rfl⟩, ?_⟩
    rintro c' P v G' H' ⟨_, rfl⟩ _ hv
    have hv : v = .bl true := hv
    subst hv
    exact k H'
set_option maxHeartbeats 0 in
theorem all_mk {l : PySem.W.OpenLaw} {w : World} {K : PySem.W.Frag} {h : Heap} {mg : Str → Option Value} {fa f1 f2 f3 f4 f5 f6 f7 f8 f9 f10 f11 f12 f13 f14 f15 f16 f17 f18 f19 f20 f21 f22 f23 f24 f25 f26 f27 f28 f29 f30 f31 f32 f33 f34 f35 f36 f37 f38 f39 f40 f41 f42 f43 f44 f45 f46 f47 f48 c_Builder c_Making : Addr} (X : K.In h) (G : h.Ns mainGlobals mg) (hfa : mg "law" = some (.ref fa))
    {od1 an1 od2 an2 od3 an3 od4 an4 od5 an5 od6 an6 od7 an7 od8 an8 od9 an9 od10 an10 od11 an11 od12 an12 od13 an13 od14 an14 od15 an15 od16 an16 od17 an17 od18 an18 od19 an19 od20 an20 od21 an21 od22 an22 od23 an23 od24 an24 od25 an25 od26 an26 od27 an27 od28 an28 od29 an29 od30 an30 od31 an31 od32 an32 od33 an33 od34 an34 od35 an35 od36 an36 od37 an37 od38 an38 od39 an39 od40 an40 od41 an41 od42 an42 od43 an43 od44 an44 od45 an45 od46 an46 od47 an47 od48 an48 : Option Addr} {sl1 sl2 sl3 sl4 sl5 sl6 sl7 sl8 sl9 sl10 sl11 sl12 sl13 sl14 sl15 sl16 sl17 sl18 sl19 sl20 sl21 sl22 sl23 sl24 sl25 sl26 sl27 sl28 sl29 sl30 sl31 sl32 sl33 sl34 sl35 sl36 sl37 sl38 sl39 sl40 sl41 sl42 sl43 sl44 sl45 sl46 sl47 sl48 : Array (Option Value)} {oc1 kV1 dc1 pm1 cd1 ct1 oc2 kV2 dc2 pm2 cd2 ct2 oc3 kV3 dc3 pm3 cd3 ct3 oc4 kV4 dc4 pm4 cd4 ct4 oc5 kV5 dc5 pm5 cd5 ct5 oc6 kV6 dc6 pm6 cd6 ct6 oc7 kV7 dc7 pm7 cd7 ct7 oc8 kV8 dc8 pm8 cd8 ct8 oc9 kV9 dc9 pm9 cd9 ct9 oc10 kV10 dc10 pm10 cd10 ct10 oc11 kV11 dc11 pm11 cd11 ct11 oc12 kV12 dc12 pm12 cd12 ct12 oc13 kV13 dc13 pm13 cd13 ct13 oc14 kV14 dc14 pm14 cd14 ct14 oc15 kV15 dc15 pm15 cd15 ct15 oc16 kV16 dc16 pm16 cd16 ct16 oc17 kV17 dc17 pm17 cd17 ct17 oc18 kV18 dc18 pm18 cd18 ct18 oc19 kV19 dc19 pm19 cd19 ct19 oc20 kV20 dc20 pm20 cd20 ct20 oc21 kV21 dc21 pm21 cd21 ct21 oc22 kV22 dc22 pm22 cd22 ct22 oc23 kV23 dc23 pm23 cd23 ct23 oc24 kV24 dc24 pm24 cd24 ct24 oc25 kV25 dc25 pm25 cd25 ct25 oc26 kV26 dc26 pm26 cd26 ct26 oc27 kV27 dc27 pm27 cd27 ct27 oc28 kV28 dc28 pm28 cd28 ct28 oc29 kV29 dc29 pm29 cd29 ct29 oc30 kV30 dc30 pm30 cd30 ct30 oc31 kV31 dc31 pm31 cd31 ct31 oc32 kV32 dc32 pm32 cd32 ct32 oc33 kV33 dc33 pm33 cd33 ct33 oc34 kV34 dc34 pm34 cd34 ct34 oc35 kV35 dc35 pm35 cd35 ct35 oc36 kV36 dc36 pm36 cd36 ct36 oc37 kV37 dc37 pm37 cd37 ct37 oc38 kV38 dc38 pm38 cd38 ct38 oc39 kV39 dc39 pm39 cd39 ct39 oc40 kV40 dc40 pm40 cd40 ct40 oc41 kV41 dc41 pm41 cd41 ct41 oc42 kV42 dc42 pm42 cd42 ct42 oc43 kV43 dc43 pm43 cd43 ct43 oc44 kV44 dc44 pm44 cd44 ct44 oc45 kV45 dc45 pm45 cd45 ct45 oc46 kV46 dc46 pm46 cd46 ct46 oc47 kV47 dc47 pm47 cd47 ct47 oc48 kV48 dc48 pm48 cd48 ct48 : Value}
    (aC_Builder : PySem.W.nsIn K mainGlobals "Builder" = some (some (.ref c_Builder)))
    (pg_Builder : PySem.W.plainGet K c_Builder Str.empty = true)
    (hd_Builder : PySem.W.hasDictIn K c_Builder = true)
    (po_Builder : PySem.W.plainOver K c_Builder = true)
    (sa_Builder : PySem.W.findIn K (.ref c_Builder) "__setattr__" = some (some (.builtin "object.__setattr__")))
    (mk_Builder : PySem.W.makesIn K c_Builder = true)
    (kc_Builder : PySem.W.keepIn K (.ref c_Builder) = true)
    (aC_Making : PySem.W.nsIn K mainGlobals "Making" = some (some (.ref c_Making)))
    (pg_Making : PySem.W.plainGet K c_Making Str.empty = true)
    (hd_Making : PySem.W.hasDictIn K c_Making = true)
    (po_Making : PySem.W.plainOver K c_Making = true)
    (sa_Making : PySem.W.findIn K (.ref c_Making) "__setattr__" = some (some (.builtin "object.__setattr__")))
    (mk_Making : PySem.W.makesIn K c_Making = true)
    (kc_Making : PySem.W.keepIn K (.ref c_Making) = true)
    (a1 : PySem.W.nsIn K mainGlobals "stepped" = some (some (.ref f1)))
    (l1 : K.lookup f1 = some ⟨oc1, od1, .func (PySem.W.fnOf "stepped" "stepped" (defArgs s_stepped) (defBody s_stepped) (defScope s_stepped) .none kV1 dc1 pm1 an1 cd1 ct1), sl1⟩)
    (c1 : PySem.W.codeIn K cd1 "stepped" = true)
    (k1 : PySem.W.keepIn K (.ref f1) = true)
    (a2 : PySem.W.nsIn K mainGlobals "counted" = some (some (.ref f2)))
    (l2 : K.lookup f2 = some ⟨oc2, od2, .func (PySem.W.fnOf "counted" "counted" (defArgs s_counted) (defBody s_counted) (defScope s_counted) .none kV2 dc2 pm2 an2 cd2 ct2), sl2⟩)
    (c2 : PySem.W.codeIn K cd2 "counted" = true)
    (k2 : PySem.W.keepIn K (.ref f2) = true)
    (a3 : PySem.W.nsIn K mainGlobals "count" = some (some (.ref f3)))
    (l3 : K.lookup f3 = some ⟨oc3, od3, .func (PySem.W.fnOf "count" "count" (defArgs s_count) (defBody s_count) (defScope s_count) .none kV3 dc3 pm3 an3 cd3 ct3), sl3⟩)
    (c3 : PySem.W.codeIn K cd3 "count" = true)
    (k3 : PySem.W.keepIn K (.ref f3) = true)
    (a4 : PySem.W.nsIn K mainGlobals "longest" = some (some (.ref f4)))
    (l4 : K.lookup f4 = some ⟨oc4, od4, .func (PySem.W.fnOf "longest" "longest" (defArgs s_longest) (defBody s_longest) (defScope s_longest) .none kV4 dc4 pm4 an4 cd4 ct4), sl4⟩)
    (c4 : PySem.W.codeIn K cd4 "longest" = true)
    (k4 : PySem.W.keepIn K (.ref f4) = true)
    (a5 : PySem.W.nsIn K mainGlobals "row_of_length" = some (some (.ref f5)))
    (l5 : K.lookup f5 = some ⟨oc5, od5, .func (PySem.W.fnOf "row_of_length" "row_of_length" (defArgs s_row_of_length) (defBody s_row_of_length) (defScope s_row_of_length) .none kV5 dc5 pm5 an5 cd5 ct5), sl5⟩)
    (c5 : PySem.W.codeIn K cd5 "row_of_length" = true)
    (k5 : PySem.W.keepIn K (.ref f5) = true)
    (a6 : PySem.W.nsIn K mainGlobals "row_numbered" = some (some (.ref f6)))
    (l6 : K.lookup f6 = some ⟨oc6, od6, .func (PySem.W.fnOf "row_numbered" "row_numbered" (defArgs s_row_numbered) (defBody s_row_numbered) (defScope s_row_numbered) .none kV6 dc6 pm6 an6 cd6 ct6), sl6⟩)
    (c6 : PySem.W.codeIn K cd6 "row_numbered" = true)
    (k6 : PySem.W.keepIn K (.ref f6) = true)
    (a7 : PySem.W.nsIn K mainGlobals "number_of" = some (some (.ref f7)))
    (l7 : K.lookup f7 = some ⟨oc7, od7, .func (PySem.W.fnOf "number_of" "number_of" (defArgs s_number_of) (defBody s_number_of) (defScope s_number_of) .none kV7 dc7 pm7 an7 cd7 ct7), sl7⟩)
    (c7 : PySem.W.codeIn K cd7 "number_of" = true)
    (k7 : PySem.W.keepIn K (.ref f7) = true)
    (a8 : PySem.W.nsIn K mainGlobals "power" = some (some (.ref f8)))
    (l8 : K.lookup f8 = some ⟨oc8, od8, .func (PySem.W.fnOf "power" "power" (defArgs s_power) (defBody s_power) (defScope s_power) .none kV8 dc8 pm8 an8 cd8 ct8), sl8⟩)
    (c8 : PySem.W.codeIn K cd8 "power" = true)
    (k8 : PySem.W.keepIn K (.ref f8) = true)
    (a9 : PySem.W.nsIn K mainGlobals "bit_of" = some (some (.ref f9)))
    (l9 : K.lookup f9 = some ⟨oc9, od9, .func (PySem.W.fnOf "bit_of" "bit_of" (defArgs s_bit_of) (defBody s_bit_of) (defScope s_bit_of) .none kV9 dc9 pm9 an9 cd9 ct9), sl9⟩)
    (c9 : PySem.W.codeIn K cd9 "bit_of" = true)
    (k9 : PySem.W.keepIn K (.ref f9) = true)
    (a10 : PySem.W.nsIn K mainGlobals "width_of" = some (some (.ref f10)))
    (l10 : K.lookup f10 = some ⟨oc10, od10, .func (PySem.W.fnOf "width_of" "width_of" (defArgs s_width_of) (defBody s_width_of) (defScope s_width_of) .none kV10 dc10 pm10 an10 cd10 ct10), sl10⟩)
    (c10 : PySem.W.codeIn K cd10 "width_of" = true)
    (k10 : PySem.W.keepIn K (.ref f10) = true)
    (a11 : PySem.W.nsIn K mainGlobals "turned" = some (some (.ref f11)))
    (l11 : K.lookup f11 = some ⟨oc11, od11, .func (PySem.W.fnOf "turned" "turned" (defArgs s_turned) (defBody s_turned) (defScope s_turned) .none kV11 dc11 pm11 an11 cd11 ct11), sl11⟩)
    (c11 : PySem.W.codeIn K cd11 "turned" = true)
    (k11 : PySem.W.keepIn K (.ref f11) = true)
    (a12 : PySem.W.nsIn K mainGlobals "first_gate" = some (some (.ref f12)))
    (l12 : K.lookup f12 = some ⟨oc12, od12, .func (PySem.W.fnOf "first_gate" "first_gate" (defArgs s_first_gate) (defBody s_first_gate) (defScope s_first_gate) .none kV12 dc12 pm12 an12 cd12 ct12), sl12⟩)
    (c12 : PySem.W.codeIn K cd12 "first_gate" = true)
    (k12 : PySem.W.keepIn K (.ref f12) = true)
    (a13 : PySem.W.nsIn K mainGlobals "roots" = some (some (.ref f13)))
    (l13 : K.lookup f13 = some ⟨oc13, od13, .func (PySem.W.fnOf "roots" "roots" (defArgs s_roots) (defBody s_roots) (defScope s_roots) .none kV13 dc13 pm13 an13 cd13 ct13), sl13⟩)
    (c13 : PySem.W.codeIn K cd13 "roots" = true)
    (k13 : PySem.W.keepIn K (.ref f13) = true)
    (a14 : PySem.W.nsIn K mainGlobals "used" = some (some (.ref f14)))
    (l14 : K.lookup f14 = some ⟨oc14, od14, .func (PySem.W.fnOf "used" "used" (defArgs s_used) (defBody s_used) (defScope s_used) .none kV14 dc14 pm14 an14 cd14 ct14), sl14⟩)
    (c14 : PySem.W.codeIn K cd14 "used" = true)
    (k14 : PySem.W.keepIn K (.ref f14) = true)
    (a15 : PySem.W.nsIn K mainGlobals "moved" = some (some (.ref f15)))
    (l15 : K.lookup f15 = some ⟨oc15, od15, .func (PySem.W.fnOf "moved" "moved" (defArgs s_moved) (defBody s_moved) (defScope s_moved) .none kV15 dc15 pm15 an15 cd15 ct15), sl15⟩)
    (c15 : PySem.W.codeIn K cd15 "moved" = true)
    (k15 : PySem.W.keepIn K (.ref f15) = true)
    (a16 : PySem.W.nsIn K mainGlobals "trimmed" = some (some (.ref f16)))
    (l16 : K.lookup f16 = some ⟨oc16, od16, .func (PySem.W.fnOf "trimmed" "trimmed" (defArgs s_trimmed) (defBody s_trimmed) (defScope s_trimmed) .none kV16 dc16 pm16 an16 cd16 ct16), sl16⟩)
    (c16 : PySem.W.codeIn K cd16 "trimmed" = true)
    (k16 : PySem.W.keepIn K (.ref f16) = true)
    (a17 : PySem.W.nsIn K mainGlobals "literal_value" = some (some (.ref f17)))
    (l17 : K.lookup f17 = some ⟨oc17, od17, .func (PySem.W.fnOf "literal_value" "literal_value" (defArgs s_literal_value) (defBody s_literal_value) (defScope s_literal_value) .none kV17 dc17 pm17 an17 cd17 ct17), sl17⟩)
    (c17 : PySem.W.codeIn K cd17 "literal_value" = true)
    (k17 : PySem.W.keepIn K (.ref f17) = true)
    (a18 : PySem.W.nsIn K mainGlobals "node_values" = some (some (.ref f18)))
    (l18 : K.lookup f18 = some ⟨oc18, od18, .func (PySem.W.fnOf "node_values" "node_values" (defArgs s_node_values) (defBody s_node_values) (defScope s_node_values) .none kV18 dc18 pm18 an18 cd18 ct18), sl18⟩)
    (c18 : PySem.W.codeIn K cd18 "node_values" = true)
    (k18 : PySem.W.keepIn K (.ref f18) = true)
    (a19 : PySem.W.nsIn K mainGlobals "begun" = some (some (.ref f19)))
    (l19 : K.lookup f19 = some ⟨oc19, od19, .func (PySem.W.fnOf "begun" "begun" (defArgs s_begun) (defBody s_begun) (defScope s_begun) .none kV19 dc19 pm19 an19 cd19 ct19), sl19⟩)
    (c19 : PySem.W.codeIn K cd19 "begun" = true)
    (k19 : PySem.W.keepIn K (.ref f19) = true)
    (a20 : PySem.W.nsIn K mainGlobals "clocked" = some (some (.ref f20)))
    (l20 : K.lookup f20 = some ⟨oc20, od20, .func (PySem.W.fnOf "clocked" "clocked" (defArgs s_clocked) (defBody s_clocked) (defScope s_clocked) .none kV20 dc20 pm20 an20 cd20 ct20), sl20⟩)
    (c20 : PySem.W.codeIn K cd20 "clocked" = true)
    (k20 : PySem.W.keepIn K (.ref f20) = true)
    (a21 : PySem.W.nsIn K mainGlobals "run" = some (some (.ref f21)))
    (l21 : K.lookup f21 = some ⟨oc21, od21, .func (PySem.W.fnOf "run" "run" (defArgs s_run) (defBody s_run) (defScope s_run) .none kV21 dc21 pm21 an21 cd21 ct21), sl21⟩)
    (c21 : PySem.W.codeIn K cd21 "run" = true)
    (k21 : PySem.W.keepIn K (.ref f21) = true)
    (a22 : PySem.W.findIn K (.ref c_Builder) "__init__" = some (some (.ref f22)))
    (i22 : PySem.W.isFn K (.ref f22) = true)
    (l22 : K.lookup f22 = some ⟨oc22, od22, .func (PySem.W.fnOf "__init__" "Builder.__init__" (defArgs s_Builder___init__) (defBody s_Builder___init__) (defScope s_Builder___init__) .none kV22 dc22 pm22 an22 cd22 ct22), sl22⟩)
    (c22 : PySem.W.codeIn K cd22 "Builder.__init__" = true)
    (k22 : PySem.W.keepIn K (.ref f22) = true)
    (a23 : PySem.W.findIn K (.ref c_Builder) "first" = some (some (.ref f23)))
    (i23 : PySem.W.isFn K (.ref f23) = true)
    (l23 : K.lookup f23 = some ⟨oc23, od23, .func (PySem.W.fnOf "first" "Builder.first" (defArgs s_Builder_first) (defBody s_Builder_first) (defScope s_Builder_first) .none kV23 dc23 pm23 an23 cd23 ct23), sl23⟩)
    (c23 : PySem.W.codeIn K cd23 "Builder.first" = true)
    (k23 : PySem.W.keepIn K (.ref f23) = true)
    (a24 : PySem.W.findIn K (.ref c_Builder) "conj" = some (some (.ref f24)))
    (i24 : PySem.W.isFn K (.ref f24) = true)
    (l24 : K.lookup f24 = some ⟨oc24, od24, .func (PySem.W.fnOf "conj" "Builder.conj" (defArgs s_Builder_conj) (defBody s_Builder_conj) (defScope s_Builder_conj) .none kV24 dc24 pm24 an24 cd24 ct24), sl24⟩)
    (c24 : PySem.W.codeIn K cd24 "Builder.conj" = true)
    (k24 : PySem.W.keepIn K (.ref f24) = true)
    (a25 : PySem.W.findIn K (.ref c_Builder) "disj" = some (some (.ref f25)))
    (i25 : PySem.W.isFn K (.ref f25) = true)
    (l25 : K.lookup f25 = some ⟨oc25, od25, .func (PySem.W.fnOf "disj" "Builder.disj" (defArgs s_Builder_disj) (defBody s_Builder_disj) (defScope s_Builder_disj) .none kV25 dc25 pm25 an25 cd25 ct25), sl25⟩)
    (c25 : PySem.W.codeIn K cd25 "Builder.disj" = true)
    (k25 : PySem.W.keepIn K (.ref f25) = true)
    (a26 : PySem.W.findIn K (.ref c_Builder) "net" = some (some (.ref f26)))
    (i26 : PySem.W.isFn K (.ref f26) = true)
    (l26 : K.lookup f26 = some ⟨oc26, od26, .func (PySem.W.fnOf "net" "Builder.net" (defArgs s_Builder_net) (defBody s_Builder_net) (defScope s_Builder_net) .none kV26 dc26 pm26 an26 cd26 ct26), sl26⟩)
    (c26 : PySem.W.codeIn K cd26 "Builder.net" = true)
    (k26 : PySem.W.keepIn K (.ref f26) = true)
    (a27 : PySem.W.nsIn K mainGlobals "sign_names" = some (some (.ref f27)))
    (l27 : K.lookup f27 = some ⟨oc27, od27, .func (PySem.W.fnOf "sign_names" "sign_names" (defArgs s_sign_names) (defBody s_sign_names) (defScope s_sign_names) .none kV27 dc27 pm27 an27 cd27 ct27), sl27⟩)
    (c27 : PySem.W.codeIn K cd27 "sign_names" = true)
    (k27 : PySem.W.keepIn K (.ref f27) = true)
    (a28 : PySem.W.nsIn K mainGlobals "line_names" = some (some (.ref f28)))
    (l28 : K.lookup f28 = some ⟨oc28, od28, .func (PySem.W.fnOf "line_names" "line_names" (defArgs s_line_names) (defBody s_line_names) (defScope s_line_names) .none kV28 dc28 pm28 an28 cd28 ct28), sl28⟩)
    (c28 : PySem.W.codeIn K cd28 "line_names" = true)
    (k28 : PySem.W.keepIn K (.ref f28) = true)
    (a29 : PySem.W.findIn K (.ref c_Making) "__init__" = some (some (.ref f29)))
    (i29 : PySem.W.isFn K (.ref f29) = true)
    (l29 : K.lookup f29 = some ⟨oc29, od29, .func (PySem.W.fnOf "__init__" "Making.__init__" (defArgs s_Making___init__) (defBody s_Making___init__) (defScope s_Making___init__) .none kV29 dc29 pm29 an29 cd29 ct29), sl29⟩)
    (c29 : PySem.W.codeIn K cd29 "Making.__init__" = true)
    (k29 : PySem.W.keepIn K (.ref f29) = true)
    (a30 : PySem.W.findIn K (.ref c_Making) "coded" = some (some (.ref f30)))
    (i30 : PySem.W.isFn K (.ref f30) = true)
    (l30 : K.lookup f30 = some ⟨oc30, od30, .func (PySem.W.fnOf "coded" "Making.coded" (defArgs s_Making_coded) (defBody s_Making_coded) (defScope s_Making_coded) .none kV30 dc30 pm30 an30 cd30 ct30), sl30⟩)
    (c30 : PySem.W.codeIn K cd30 "Making.coded" = true)
    (k30 : PySem.W.keepIn K (.ref f30) = true)
    (a31 : PySem.W.findIn K (.ref c_Making) "one_of" = some (some (.ref f31)))
    (i31 : PySem.W.isFn K (.ref f31) = true)
    (l31 : K.lookup f31 = some ⟨oc31, od31, .func (PySem.W.fnOf "one_of" "Making.one_of" (defArgs s_Making_one_of) (defBody s_Making_one_of) (defScope s_Making_one_of) .none kV31 dc31 pm31 an31 cd31 ct31), sl31⟩)
    (c31 : PySem.W.codeIn K cd31 "Making.one_of" = true)
    (k31 : PySem.W.keepIn K (.ref f31) = true)
    (a32 : PySem.W.findIn K (.ref c_Making) "machine" = some (some (.ref f32)))
    (i32 : PySem.W.isFn K (.ref f32) = true)
    (l32 : K.lookup f32 = some ⟨oc32, od32, .func (PySem.W.fnOf "machine" "Making.machine" (defArgs s_Making_machine) (defBody s_Making_machine) (defScope s_Making_machine) .none kV32 dc32 pm32 an32 cd32 ct32), sl32⟩)
    (c32 : PySem.W.codeIn K cd32 "Making.machine" = true)
    (k32 : PySem.W.keepIn K (.ref f32) = true)
    (a33 : PySem.W.nsIn K mainGlobals "net_of" = some (some (.ref f33)))
    (l33 : K.lookup f33 = some ⟨oc33, od33, .func (PySem.W.fnOf "net_of" "net_of" (defArgs s_net_of) (defBody s_net_of) (defScope s_net_of) .none kV33 dc33 pm33 an33 cd33 ct33), sl33⟩)
    (c33 : PySem.W.codeIn K cd33 "net_of" = true)
    (k33 : PySem.W.keepIn K (.ref f33) = true)
    (a34 : PySem.W.nsIn K mainGlobals "_law_flat" = some (some (.ref f34)))
    (l34 : K.lookup f34 = some ⟨oc34, od34, .func (PySem.W.fnOf "_law_flat" "_law_flat" (defArgs s__law_flat) (defBody s__law_flat) (defScope s__law_flat) .none kV34 dc34 pm34 an34 cd34 ct34), sl34⟩)
    (c34 : PySem.W.codeIn K cd34 "_law_flat" = true)
    (k34 : PySem.W.keepIn K (.ref f34) = true)
    (a35 : PySem.W.nsIn K mainGlobals "_law_next" = some (some (.ref f35)))
    (l35 : K.lookup f35 = some ⟨oc35, od35, .func (PySem.W.fnOf "_law_next" "_law_next" (defArgs s__law_next) (defBody s__law_next) (defScope s__law_next) .none kV35 dc35 pm35 an35 cd35 ct35), sl35⟩)
    (c35 : PySem.W.codeIn K cd35 "_law_next" = true)
    (k35 : PySem.W.keepIn K (.ref f35) = true)
    (a36 : PySem.W.nsIn K mainGlobals "_law_same" = some (some (.ref f36)))
    (l36 : K.lookup f36 = some ⟨oc36, od36, .func (PySem.W.fnOf "_law_same" "_law_same" (defArgs s__law_same) (defBody s__law_same) (defScope s__law_same) .none kV36 dc36 pm36 an36 cd36 ct36), sl36⟩)
    (c36 : PySem.W.codeIn K cd36 "_law_same" = true)
    (k36 : PySem.W.keepIn K (.ref f36) = true)
    (a37 : PySem.W.nsIn K mainGlobals "_law_least" = some (some (.ref f37)))
    (l37 : K.lookup f37 = some ⟨oc37, od37, .func (PySem.W.fnOf "_law_least" "_law_least" (defArgs s__law_least) (defBody s__law_least) (defScope s__law_least) .none kV37 dc37 pm37 an37 cd37 ct37), sl37⟩)
    (c37 : PySem.W.codeIn K cd37 "_law_least" = true)
    (k37 : PySem.W.keepIn K (.ref f37) = true)
    (a38 : PySem.W.nsIn K mainGlobals "_law_machine" = some (some (.ref f38)))
    (l38 : K.lookup f38 = some ⟨oc38, od38, .func (PySem.W.fnOf "_law_machine" "_law_machine" (defArgs s__law_machine) (defBody s__law_machine) (defScope s__law_machine) .none kV38 dc38 pm38 an38 cd38 ct38), sl38⟩)
    (c38 : PySem.W.codeIn K cd38 "_law_machine" = true)
    (k38 : PySem.W.keepIn K (.ref f38) = true)
    (a39 : PySem.W.nsIn K mainGlobals "_law_behind" = some (some (.ref f39)))
    (l39 : K.lookup f39 = some ⟨oc39, od39, .func (PySem.W.fnOf "_law_behind" "_law_behind" (defArgs s__law_behind) (defBody s__law_behind) (defScope s__law_behind) .none kV39 dc39 pm39 an39 cd39 ct39), sl39⟩)
    (c39 : PySem.W.codeIn K cd39 "_law_behind" = true)
    (k39 : PySem.W.keepIn K (.ref f39) = true)
    (a40 : PySem.W.nsIn K mainGlobals "_law_passes" = some (some (.ref f40)))
    (l40 : K.lookup f40 = some ⟨oc40, od40, .func (PySem.W.fnOf "_law_passes" "_law_passes" (defArgs s__law_passes) (defBody s__law_passes) (defScope s__law_passes) .none kV40 dc40 pm40 an40 cd40 ct40), sl40⟩)
    (c40 : PySem.W.codeIn K cd40 "_law_passes" = true)
    (k40 : PySem.W.keepIn K (.ref f40) = true)
    (a41 : PySem.W.nsIn K mainGlobals "_law_bits" = some (some (.ref f41)))
    (l41 : K.lookup f41 = some ⟨oc41, od41, .func (PySem.W.fnOf "_law_bits" "_law_bits" (defArgs s__law_bits) (defBody s__law_bits) (defScope s__law_bits) .none kV41 dc41 pm41 an41 cd41 ct41), sl41⟩)
    (c41 : PySem.W.codeIn K cd41 "_law_bits" = true)
    (k41 : PySem.W.keepIn K (.ref f41) = true)
    (a42 : PySem.W.nsIn K mainGlobals "_law_wide" = some (some (.ref f42)))
    (l42 : K.lookup f42 = some ⟨oc42, od42, .func (PySem.W.fnOf "_law_wide" "_law_wide" (defArgs s__law_wide) (defBody s__law_wide) (defScope s__law_wide) .none kV42 dc42 pm42 an42 cd42 ct42), sl42⟩)
    (c42 : PySem.W.codeIn K cd42 "_law_wide" = true)
    (k42 : PySem.W.keepIn K (.ref f42) = true)
    (a43 : PySem.W.nsIn K mainGlobals "_law_inputs" = some (some (.ref f43)))
    (l43 : K.lookup f43 = some ⟨oc43, od43, .func (PySem.W.fnOf "_law_inputs" "_law_inputs" (defArgs s__law_inputs) (defBody s__law_inputs) (defScope s__law_inputs) .none kV43 dc43 pm43 an43 cd43 ct43), sl43⟩)
    (c43 : PySem.W.codeIn K cd43 "_law_inputs" = true)
    (k43 : PySem.W.keepIn K (.ref f43) = true)
    (a44 : PySem.W.nsIn K mainGlobals "_law_rows" = some (some (.ref f44)))
    (l44 : K.lookup f44 = some ⟨oc44, od44, .func (PySem.W.fnOf "_law_rows" "_law_rows" (defArgs s__law_rows) (defBody s__law_rows) (defScope s__law_rows) .none kV44 dc44 pm44 an44 cd44 ct44), sl44⟩)
    (c44 : PySem.W.codeIn K cd44 "_law_rows" = true)
    (k44 : PySem.W.keepIn K (.ref f44) = true)
    (a45 : PySem.W.nsIn K mainGlobals "_law_row" = some (some (.ref f45)))
    (l45 : K.lookup f45 = some ⟨oc45, od45, .func (PySem.W.fnOf "_law_row" "_law_row" (defArgs s__law_row) (defBody s__law_row) (defScope s__law_row) .none kV45 dc45 pm45 an45 cd45 ct45), sl45⟩)
    (c45 : PySem.W.codeIn K cd45 "_law_row" = true)
    (k45 : PySem.W.keepIn K (.ref f45) = true)
    (a46 : PySem.W.nsIn K mainGlobals "_law_signs" = some (some (.ref f46)))
    (l46 : K.lookup f46 = some ⟨oc46, od46, .func (PySem.W.fnOf "_law_signs" "_law_signs" (defArgs s__law_signs) (defBody s__law_signs) (defScope s__law_signs) .none kV46 dc46 pm46 an46 cd46 ct46), sl46⟩)
    (c46 : PySem.W.codeIn K cd46 "_law_signs" = true)
    (k46 : PySem.W.keepIn K (.ref f46) = true)
    (a47 : PySem.W.nsIn K mainGlobals "_law_told" = some (some (.ref f47)))
    (l47 : K.lookup f47 = some ⟨oc47, od47, .func (PySem.W.fnOf "_law_told" "_law_told" (defArgs s__law_told) (defBody s__law_told) (defScope s__law_told) .none kV47 dc47 pm47 an47 cd47 ct47), sl47⟩)
    (c47 : PySem.W.codeIn K cd47 "_law_told" = true)
    (k47 : PySem.W.keepIn K (.ref f47) = true)
    (a48 : PySem.W.nsIn K mainGlobals "law" = some (some (.ref f48)))
    (l48 : K.lookup f48 = some ⟨oc48, od48, .func (PySem.W.fnOf "law" "law" (defArgs s_law) (defBody s_law) (defScope s_law) .none kV48 dc48 pm48 an48 cd48 ct48), sl48⟩)
    (c48 : PySem.W.codeIn K cd48 "law" = true)
    (k48 : PySem.W.keepIn K (.ref f48) = true)
    (n_Builder_gates : PySem.W.findIn K (.ref c_Builder) "gates" = some none)
    (n_Builder_inputs : PySem.W.findIn K (.ref c_Builder) "inputs" = some none)
    (n_Builder_known : PySem.W.findIn K (.ref c_Builder) "known" = some none)
    (n_Builder_literals : PySem.W.findIn K (.ref c_Builder) "literals" = some none)
    (n_Builder_registers : PySem.W.findIn K (.ref c_Builder) "registers" = some none)
    (n_Making_builder : PySem.W.findIn K (.ref c_Making) "builder" = some none)
    (n_Making_signs : PySem.W.findIn K (.ref c_Making) "signs" = some none)
    (b_bool : PySem.W.nsIn K mainGlobals "bool" = some none)
    (b_enumerate : PySem.W.nsIn K mainGlobals "enumerate" = some none)
    (b_int : PySem.W.nsIn K mainGlobals "int" = some none)
    (b_isinstance : PySem.W.nsIn K mainGlobals "isinstance" = some none)
    (b_len : PySem.W.nsIn K mainGlobals "len" = some none)
    (b_list : PySem.W.nsIn K mainGlobals "list" = some none)
    (b_max : PySem.W.nsIn K mainGlobals "max" = some none)
    (b_min : PySem.W.nsIn K mainGlobals "min" = some none)
    (b_range : PySem.W.nsIn K mainGlobals "range" = some none)
    (b_set : PySem.W.nsIn K mainGlobals "set" = some none)
    (b_sorted : PySem.W.nsIn K mainGlobals "sorted" = some none)
    (b_str : PySem.W.nsIn K mainGlobals "str" = some none)
    (b_sum : PySem.W.nsIn K mainGlobals "sum" = some none)
    (b_tuple : PySem.W.nsIn K mainGlobals "tuple" = some none)
    (b_zip : PySem.W.nsIn K mainGlobals "zip" = some none) :
    ∃ fd : FuncData, (∀ (s : Shared) (v : Value), BindsTo s fd ⟨[v], []⟩ [("script", v)]) ∧ ∀ base : Heap, K.In base → base.Ns mainGlobals mg → FnOk l.prog w K mg base CX0 7 fa fd ["script"] (spLaw K) := by
  have e := hfa.symm.trans (PySem.W.mg_of X G a48)
  cases e
  have F1 := fun_mk (st := s_stepped) l1 c1 k1
  have b1 := F1.binds (ps := ["machine", "counts"]) fun _ _ _ _ _ _ us hl => match us, hl with | [_, _], _ => rfl
  have F2 := fun_mk (st := s_counted) l2 c2 k2
  have b2 := F2.binds (ps := ["machine", "length"]) fun _ _ _ _ _ _ us hl => match us, hl with | [_, _], _ => rfl
  have F3 := fun_mk (st := s_count) l3 c3 k3
  have b3 := F3.binds (ps := ["machine", "length"]) fun _ _ _ _ _ _ us hl => match us, hl with | [_, _], _ => rfl
  have F4 := fun_mk (st := s_longest) l4 c4 k4
  have b4 := F4.binds (ps := ["machine"]) fun _ _ _ _ _ _ us hl => match us, hl with | [_], _ => rfl
  have F5 := fun_mk (st := s_row_of_length) l5 c5 k5
  have b5 := F5.binds (ps := ["machine", "signs", "length", "number"]) fun _ _ _ _ _ _ us hl => match us, hl with | [_, _, _, _], _ => rfl
  have F6 := fun_mk (st := s_row_numbered) l6 c6 k6
  have b6 := F6.binds (ps := ["machine", "signs", "number"]) fun _ _ _ _ _ _ us hl => match us, hl with | [_, _, _], _ => rfl
  have F7 := fun_mk (st := s_number_of) l7 c7 k7
  have b7 := F7.binds (ps := ["machine", "signs", "row"]) fun _ _ _ _ _ _ us hl => match us, hl with | [_, _, _], _ => rfl
  have F8 := fun_mk (st := s_power) l8 c8 k8
  have b8 := F8.binds (ps := ["number"]) fun _ _ _ _ _ _ us hl => match us, hl with | [_], _ => rfl
  have F9 := fun_mk (st := s_bit_of) l9 c9 k9
  have b9 := F9.binds (ps := ["value", "place"]) fun _ _ _ _ _ _ us hl => match us, hl with | [_, _], _ => rfl
  have F10 := fun_mk (st := s_width_of) l10 c10 k10
  have b10 := F10.binds (ps := ["value"]) fun _ _ _ _ _ _ us hl => match us, hl with | [_], _ => rfl
  have F11 := fun_mk (st := s_turned) l11 c11 k11
  have b11 := F11.binds (ps := ["literal"]) fun _ _ _ _ _ _ us hl => match us, hl with | [_], _ => rfl
  have F12 := fun_mk (st := s_first_gate) l12 c12 k12
  have b12 := F12.binds (ps := ["net"]) fun _ _ _ _ _ _ us hl => match us, hl with | [_], _ => rfl
  have F13 := fun_mk (st := s_roots) l13 c13 k13
  have b13 := F13.binds (ps := ["net"]) fun _ _ _ _ _ _ us hl => match us, hl with | [_], _ => rfl
  have F14 := fun_mk (st := s_used) l14 c14 k14
  have b14 := F14.binds (ps := ["net"]) fun _ _ _ _ _ _ us hl => match us, hl with | [_], _ => rfl
  have F15 := fun_mk (st := s_moved) l15 c15 k15
  have b15 := F15.binds (ps := ["literal", "numbers"]) fun _ _ _ _ _ _ us hl => match us, hl with | [_, _], _ => rfl
  have F16 := fun_mk (st := s_trimmed) l16 c16 k16
  have b16 := F16.binds (ps := ["net"]) fun _ _ _ _ _ _ us hl => match us, hl with | [_], _ => rfl
  have F17 := fun_mk (st := s_literal_value) l17 c17 k17
  have b17 := F17.binds (ps := ["values", "literal"]) fun _ _ _ _ _ _ us hl => match us, hl with | [_, _], _ => rfl
  have F18 := fun_mk (st := s_node_values) l18 c18 k18
  have b18 := F18.binds (ps := ["net", "inputs", "state"]) fun _ _ _ _ _ _ us hl => match us, hl with | [_, _, _], _ => rfl
  have F19 := fun_mk (st := s_begun) l19 c19 k19
  have b19 := F19.binds (ps := ["net"]) fun _ _ _ _ _ _ us hl => match us, hl with | [_], _ => rfl
  have F20 := fun_mk (st := s_clocked) l20 c20 k20
  have b20 := F20.binds (ps := ["net", "inputs", "state"]) fun _ _ _ _ _ _ us hl => match us, hl with | [_, _, _], _ => rfl
  have F21 := fun_mk (st := s_run) l21 c21 k21
  have b21 := F21.binds (ps := ["net", "rows"]) fun _ _ _ _ _ _ us hl => match us, hl with | [_, _], _ => rfl
  have F22 := fun_mk (st := s_Builder___init__) l22 c22 k22
  have b22 := F22.binds (ps := ["self", "inputs", "registers"]) fun _ _ _ _ _ _ us hl => match us, hl with | [_, _, _], _ => rfl
  have F23 := fun_mk (st := s_Builder_first) l23 c23 k23
  have b23 := F23.binds (ps := ["self"]) fun _ _ _ _ _ _ us hl => match us, hl with | [_], _ => rfl
  have F24 := fun_mk (st := s_Builder_conj) l24 c24 k24
  have b24 := F24.binds (ps := ["self", "one", "two"]) fun _ _ _ _ _ _ us hl => match us, hl with | [_, _, _], _ => rfl
  have F25 := fun_mk (st := s_Builder_disj) l25 c25 k25
  have b25 := F25.binds (ps := ["self", "one", "two"]) fun _ _ _ _ _ _ us hl => match us, hl with | [_, _, _], _ => rfl
  have F26 := fun_mk (st := s_Builder_net) l26 c26 k26
  have b26 := F26.binds (ps := ["self", "outputs", "nexts"]) fun _ _ _ _ _ _ us hl => match us, hl with | [_, _, _], _ => rfl
  have F27 := fun_mk (st := s_sign_names) l27 c27 k27
  have b27 := F27.binds (ps := ["signs"]) fun _ _ _ _ _ _ us hl => match us, hl with | [_], _ => rfl
  have F28 := fun_mk (st := s_line_names) l28 c28 k28
  have b28 := F28.binds (ps := ["machine", "name"]) fun _ _ _ _ _ _ us hl => match us, hl with | [_, _], _ => rfl
  have F29 := fun_mk (st := s_Making___init__) l29 c29 k29
  have b29 := F29.binds (ps := ["self", "machines", "names", "signs"]) fun _ _ _ _ _ _ us hl => match us, hl with | [_, _, _, _], _ => rfl
  have F30 := fun_mk (st := s_Making_coded) l30 c30 k30
  have b30 := F30.binds (ps := ["self", "names", "number"]) fun _ _ _ _ _ _ us hl => match us, hl with | [_, _, _], _ => rfl
  have F31 := fun_mk (st := s_Making_one_of) l31 c31 k31
  have b31 := F31.binds (ps := ["self", "literals"]) fun _ _ _ _ _ _ us hl => match us, hl with | [_, _], _ => rfl
  have F32 := fun_mk (st := s_Making_machine) l32 c32 k32
  have b32 := F32.binds (ps := ["self", "machine", "name"]) fun _ _ _ _ _ _ us hl => match us, hl with | [_, _, _], _ => rfl
  have F33 := fun_mk (st := s_net_of) l33 c33 k33
  have b33 := F33.binds (ps := ["machine", "signs"]) fun _ _ _ _ _ _ us hl => match us, hl with | [_, _], _ => rfl
  have F34 := fun_mk (st := s__law_flat) l34 c34 k34
  have b34 := F34.binds (ps := ["rows"]) fun _ _ _ _ _ _ us hl => match us, hl with | [_], _ => rfl
  have F35 := fun_mk (st := s__law_next) l35 c35 k35
  have b35 := F35.binds (ps := ["state", "limit"]) fun _ _ _ _ _ _ us hl => match us, hl with | [_, _], _ => rfl
  have F36 := fun_mk (st := s__law_same) l36 c36 k36
  have b36 := F36.binds (ps := ["actual", "expected"]) fun _ _ _ _ _ _ us hl => match us, hl with | [_, _], _ => rfl
  have F37 := fun_mk (st := s__law_least) l37 c37 k37
  have b37 := F37.binds (ps := ["machine"]) fun _ _ _ _ _ _ us hl => match us, hl with | [_], _ => rfl
  have F38 := fun_mk (st := s__law_machine) l38 c38 k38
  have b38 := F38.binds (ps := ["state", "signs", "most"]) fun _ _ _ _ _ _ us hl => match us, hl with | [_, _, _], _ => rfl
  have F39 := fun_mk (st := s__law_behind) l39 c39 k39
  have b39 := F39.binds (ps := ["machine", "signs", "line", "row"]) fun _ _ _ _ _ _ us hl => match us, hl with | [_, _, _, _], _ => rfl
  have F40 := fun_mk (st := s__law_passes) l40 c40 k40
  have b40 := F40.binds (ps := ["machine", "signs", "row"]) fun _ _ _ _ _ _ us hl => match us, hl with | [_, _, _], _ => rfl
  have F41 := fun_mk (st := s__law_bits) l41 c41 k41
  have b41 := F41.binds (ps := ["number", "many"]) fun _ _ _ _ _ _ us hl => match us, hl with | [_, _], _ => rfl
  have F42 := fun_mk (st := s__law_wide) l42 c42 k42
  have b42 := F42.binds (ps := ["many"]) fun _ _ _ _ _ _ us hl => match us, hl with | [_], _ => rfl
  have F43 := fun_mk (st := s__law_inputs) l43 c43 k43
  have b43 := F43.binds (ps := ["signs", "row"]) fun _ _ _ _ _ _ us hl => match us, hl with | [_, _], _ => rfl
  have F44 := fun_mk (st := s__law_rows) l44 c44 k44
  have b44 := F44.binds (ps := ["signs", "most"]) fun _ _ _ _ _ _ us hl => match us, hl with | [_, _], _ => rfl
  have F45 := fun_mk (st := s__law_row) l45 c45 k45
  have b45 := F45.binds (ps := ["state", "signs", "most"]) fun _ _ _ _ _ _ us hl => match us, hl with | [_, _, _], _ => rfl
  have F46 := fun_mk (st := s__law_signs) l46 c46 k46
  have b46 := F46.binds (ps := ["state"]) fun _ _ _ _ _ _ us hl => match us, hl with | [_], _ => rfl
  have F47 := fun_mk (st := s__law_told) l47 c47 k47
  have b47 := F47.binds (ps := ["net", "signs", "row"]) fun _ _ _ _ _ _ us hl => match us, hl with | [_, _, _], _ => rfl
  have F48 := fun_mk (st := s_law) l48 c48 k48
  have b48 := F48.binds (ps := ["script"]) fun _ _ _ _ _ _ us hl => match us, hl with | [_], _ => rfl
  have T : Tx K mg ⟨f1, _, f2, _, f3, _, f4, _, f5, _, f6, _, f7, _, f8, _, f9, _, f10, _, f11, _, f12, _, f13, _, f14, _, f15, _, f16, _, f17, _, f18, _, f19, _, f20, _, f21, _, f22, _, f23, _, f24, _, f25, _, f26, _, f27, _, f28, _, f29, _, f30, _, f31, _, f32, _, f33, _, f34, _, f35, _, f36, _, f37, _, f38, _, f39, _, f40, _, f41, _, f42, _, f43, _, f44, _, f45, _, f46, _, f47, _, fa, _, c_Builder, c_Making⟩ := ⟨F1, b1, PySem.W.mg_of X G a1, F2, b2, PySem.W.mg_of X G a2, F3, b3, PySem.W.mg_of X G a3, F4, b4, PySem.W.mg_of X G a4, F5, b5, PySem.W.mg_of X G a5, F6, b6, PySem.W.mg_of X G a6, F7, b7, PySem.W.mg_of X G a7, F8, b8, PySem.W.mg_of X G a8, F9, b9, PySem.W.mg_of X G a9, F10, b10, PySem.W.mg_of X G a10, F11, b11, PySem.W.mg_of X G a11, F12, b12, PySem.W.mg_of X G a12, F13, b13, PySem.W.mg_of X G a13, F14, b14, PySem.W.mg_of X G a14, F15, b15, PySem.W.mg_of X G a15, F16, b16, PySem.W.mg_of X G a16, F17, b17, PySem.W.mg_of X G a17, F18, b18, PySem.W.mg_of X G a18, F19, b19, PySem.W.mg_of X G a19, F20, b20, PySem.W.mg_of X G a20, F21, b21, PySem.W.mg_of X G a21, F22, b22, F23, b23, ⟨a23, i23, k23⟩, F24, b24, ⟨a24, i24, k24⟩, F25, b25, ⟨a25, i25, k25⟩, F26, b26, ⟨a26, i26, k26⟩, F27, b27, PySem.W.mg_of X G a27, F28, b28, PySem.W.mg_of X G a28, F29, b29, F30, b30, ⟨a30, i30, k30⟩, F31, b31, ⟨a31, i31, k31⟩, F32, b32, ⟨a32, i32, k32⟩, F33, b33, PySem.W.mg_of X G a33, F34, b34, PySem.W.mg_of X G a34, F35, b35, PySem.W.mg_of X G a35, F36, b36, PySem.W.mg_of X G a36, F37, b37, PySem.W.mg_of X G a37, F38, b38, PySem.W.mg_of X G a38, F39, b39, PySem.W.mg_of X G a39, F40, b40, PySem.W.mg_of X G a40, F41, b41, PySem.W.mg_of X G a41, F42, b42, PySem.W.mg_of X G a42, F43, b43, PySem.W.mg_of X G a43, F44, b44, PySem.W.mg_of X G a44, F45, b45, PySem.W.mg_of X G a45, F46, b46, PySem.W.mg_of X G a46, F47, b47, PySem.W.mg_of X G a47, F48, b48, PySem.W.mg_of X G a48, ⟨pg_Builder, hd_Builder, po_Builder, sa_Builder⟩, ⟨mk_Builder, a22, i22, kc_Builder⟩, PySem.W.mg_of X G aC_Builder, ⟨pg_Making, hd_Making, po_Making, sa_Making⟩, ⟨mk_Making, a29, i29, kc_Making⟩, PySem.W.mg_of X G aC_Making, n_Builder_gates, n_Builder_inputs, n_Builder_known, n_Builder_literals, n_Builder_registers, n_Making_builder, n_Making_signs, PySem.W.mg_none_of X G b_bool, PySem.W.mg_none_of X G b_enumerate, PySem.W.mg_none_of X G b_int, PySem.W.mg_none_of X G b_isinstance, PySem.W.mg_none_of X G b_len, PySem.W.mg_none_of X G b_list, PySem.W.mg_none_of X G b_max, PySem.W.mg_none_of X G b_min, PySem.W.mg_none_of X G b_range, PySem.W.mg_none_of X G b_set, PySem.W.mg_none_of X G b_sorted, PySem.W.mg_none_of X G b_str, PySem.W.mg_none_of X G b_sum, PySem.W.mg_none_of X G b_tuple, PySem.W.mg_none_of X G b_zip⟩
  exact ⟨_, fun s v => .of_eq rfl, fun base _ _ => law_of T⟩
end
end LW
open PySem PySem.W PyProof.Rows
set_option maxHeartbeats 0 in
theorem PySem.Challenge.cw_chipgate_k52_whole_counts_of_rows_are_co_holds : PySem.Challenge.rw_chipgate_k52_whole_counts_of_rows_are_co.Holds := by
  w_on; o_law; k_head; (case hw => w_witness2)
  k_fill
  refine L2.walk_of (l := PySem.Challenge.rw_chipgate_k52_whole_counts_of_rows_are_co) (n := 63) (k := 7) (x := "script") (CX := fun _ => L2.CX0) (sp := fun w => LW.spLaw _) rfl (by decide) rfl ⟨rfl, by decide, by decide⟩ (fun w h Y => PySem.W.kIn_of Y) ?F (fun _ _ a ns hl _ hS => ⟨a, ns, rfl, hS, hl, fun _ => rfl⟩) (fun _ _ _ _ _ h => h)
  case F =>
    intro w mg fa h KX G hmg
    refine' LW.all_mk KX G hmg ?aC_Builder ?pg_Builder ?hd_Builder ?po_Builder ?sa_Builder ?mk_Builder ?kc_Builder ?aC_Making ?pg_Making ?hd_Making ?po_Making ?sa_Making ?mk_Making ?kc_Making ?a1 ?l1 ?c1 ?k1 ?a2 ?l2 ?c2 ?k2 ?a3 ?l3 ?c3 ?k3 ?a4 ?l4 ?c4 ?k4 ?a5 ?l5 ?c5 ?k5 ?a6 ?l6 ?c6 ?k6 ?a7 ?l7 ?c7 ?k7 ?a8 ?l8 ?c8 ?k8 ?a9 ?l9 ?c9 ?k9 ?a10 ?l10 ?c10 ?k10 ?a11 ?l11 ?c11 ?k11 ?a12 ?l12 ?c12 ?k12 ?a13 ?l13 ?c13 ?k13 ?a14 ?l14 ?c14 ?k14 ?a15 ?l15 ?c15 ?k15 ?a16 ?l16 ?c16 ?k16 ?a17 ?l17 ?c17 ?k17 ?a18 ?l18 ?c18 ?k18 ?a19 ?l19 ?c19 ?k19 ?a20 ?l20 ?c20 ?k20 ?a21 ?l21 ?c21 ?k21 ?a22 ?i22 ?l22 ?c22 ?k22 ?a23 ?i23 ?l23 ?c23 ?k23 ?a24 ?i24 ?l24 ?c24 ?k24 ?a25 ?i25 ?l25 ?c25 ?k25 ?a26 ?i26 ?l26 ?c26 ?k26 ?a27 ?l27 ?c27 ?k27 ?a28 ?l28 ?c28 ?k28 ?a29 ?i29 ?l29 ?c29 ?k29 ?a30 ?i30 ?l30 ?c30 ?k30 ?a31 ?i31 ?l31 ?c31 ?k31 ?a32 ?i32 ?l32 ?c32 ?k32 ?a33 ?l33 ?c33 ?k33 ?a34 ?l34 ?c34 ?k34 ?a35 ?l35 ?c35 ?k35 ?a36 ?l36 ?c36 ?k36 ?a37 ?l37 ?c37 ?k37 ?a38 ?l38 ?c38 ?k38 ?a39 ?l39 ?c39 ?k39 ?a40 ?l40 ?c40 ?k40 ?a41 ?l41 ?c41 ?k41 ?a42 ?l42 ?c42 ?k42 ?a43 ?l43 ?c43 ?k43 ?a44 ?l44 ?c44 ?k44 ?a45 ?l45 ?c45 ?k45 ?a46 ?l46 ?c46 ?k46 ?a47 ?l47 ?c47 ?k47 ?a48 ?l48 ?c48 ?k48 ?n_Builder_gates ?n_Builder_inputs ?n_Builder_known ?n_Builder_literals ?n_Builder_registers ?n_Making_builder ?n_Making_signs ?b_bool ?b_enumerate ?b_int ?b_isinstance ?b_len ?b_list ?b_max ?b_min ?b_range ?b_set ?b_sorted ?b_str ?b_sum ?b_tuple ?b_zip
    (case aC_Builder => k_is)
    (case pg_Builder => k_is)
    (case hd_Builder => k_is)
    (case po_Builder => k_is)
    (case sa_Builder => k_is)
    (case mk_Builder => k_is)
    (case kc_Builder => k_is)
    (case aC_Making => k_is)
    (case pg_Making => k_is)
    (case hd_Making => k_is)
    (case po_Making => k_is)
    (case sa_Making => k_is)
    (case mk_Making => k_is)
    (case kc_Making => k_is)
    (case a1 => k_is)
    (case l1 => k_is)
    (case c1 => k_is)
    (case k1 => k_is)
    (case a2 => k_is)
    (case l2 => k_is)
    (case c2 => k_is)
    (case k2 => k_is)
    (case a3 => k_is)
    (case l3 => k_is)
    (case c3 => k_is)
    (case k3 => k_is)
    (case a4 => k_is)
    (case l4 => k_is)
    (case c4 => k_is)
    (case k4 => k_is)
    (case a5 => k_is)
    (case l5 => k_is)
    (case c5 => k_is)
    (case k5 => k_is)
    (case a6 => k_is)
    (case l6 => k_is)
    (case c6 => k_is)
    (case k6 => k_is)
    (case a7 => k_is)
    (case l7 => k_is)
    (case c7 => k_is)
    (case k7 => k_is)
    (case a8 => k_is)
    (case l8 => k_is)
    (case c8 => k_is)
    (case k8 => k_is)
    (case a9 => k_is)
    (case l9 => k_is)
    (case c9 => k_is)
    (case k9 => k_is)
    (case a10 => k_is)
    (case l10 => k_is)
    (case c10 => k_is)
    (case k10 => k_is)
    (case a11 => k_is)
    (case l11 => k_is)
    (case c11 => k_is)
    (case k11 => k_is)
    (case a12 => k_is)
    (case l12 => k_is)
    (case c12 => k_is)
    (case k12 => k_is)
    (case a13 => k_is)
    (case l13 => k_is)
    (case c13 => k_is)
    (case k13 => k_is)
    (case a14 => k_is)
    (case l14 => k_is)
    (case c14 => k_is)
    (case k14 => k_is)
    (case a15 => k_is)
    (case l15 => k_is)
    (case c15 => k_is)
    (case k15 => k_is)
    (case a16 => k_is)
    (case l16 => k_is)
    (case c16 => k_is)
    (case k16 => k_is)
    (case a17 => k_is)
    (case l17 => k_is)
    (case c17 => k_is)
    (case k17 => k_is)
    (case a18 => k_is)
    (case l18 => k_is)
    (case c18 => k_is)
    (case k18 => k_is)
    (case a19 => k_is)
    (case l19 => k_is)
    (case c19 => k_is)
    (case k19 => k_is)
    (case a20 => k_is)
    (case l20 => k_is)
    (case c20 => k_is)
    (case k20 => k_is)
    (case a21 => k_is)
    (case l21 => k_is)
    (case c21 => k_is)
    (case k21 => k_is)
    (case a22 => k_is)
    (case i22 => k_is)
    (case l22 => k_is)
    (case c22 => k_is)
    (case k22 => k_is)
    (case a23 => k_is)
    (case i23 => k_is)
    (case l23 => k_is)
    (case c23 => k_is)
    (case k23 => k_is)
    (case a24 => k_is)
    (case i24 => k_is)
    (case l24 => k_is)
    (case c24 => k_is)
    (case k24 => k_is)
    (case a25 => k_is)
    (case i25 => k_is)
    (case l25 => k_is)
    (case c25 => k_is)
    (case k25 => k_is)
    (case a26 => k_is)
    (case i26 => k_is)
    (case l26 => k_is)
    (case c26 => k_is)
    (case k26 => k_is)
    (case a27 => k_is)
    (case l27 => k_is)
    (case c27 => k_is)
    (case k27 => k_is)
    (case a28 => k_is)
    (case l28 => k_is)
    (case c28 => k_is)
    (case k28 => k_is)
    (case a29 => k_is)
    (case i29 => k_is)
    (case l29 => k_is)
    (case c29 => k_is)
    (case k29 => k_is)
    (case a30 => k_is)
    (case i30 => k_is)
    (case l30 => k_is)
    (case c30 => k_is)
    (case k30 => k_is)
    (case a31 => k_is)
    (case i31 => k_is)
    (case l31 => k_is)
    (case c31 => k_is)
    (case k31 => k_is)
    (case a32 => k_is)
    (case i32 => k_is)
    (case l32 => k_is)
    (case c32 => k_is)
    (case k32 => k_is)
    (case a33 => k_is)
    (case l33 => k_is)
    (case c33 => k_is)
    (case k33 => k_is)
    (case a34 => k_is)
    (case l34 => k_is)
    (case c34 => k_is)
    (case k34 => k_is)
    (case a35 => k_is)
    (case l35 => k_is)
    (case c35 => k_is)
    (case k35 => k_is)
    (case a36 => k_is)
    (case l36 => k_is)
    (case c36 => k_is)
    (case k36 => k_is)
    (case a37 => k_is)
    (case l37 => k_is)
    (case c37 => k_is)
    (case k37 => k_is)
    (case a38 => k_is)
    (case l38 => k_is)
    (case c38 => k_is)
    (case k38 => k_is)
    (case a39 => k_is)
    (case l39 => k_is)
    (case c39 => k_is)
    (case k39 => k_is)
    (case a40 => k_is)
    (case l40 => k_is)
    (case c40 => k_is)
    (case k40 => k_is)
    (case a41 => k_is)
    (case l41 => k_is)
    (case c41 => k_is)
    (case k41 => k_is)
    (case a42 => k_is)
    (case l42 => k_is)
    (case c42 => k_is)
    (case k42 => k_is)
    (case a43 => k_is)
    (case l43 => k_is)
    (case c43 => k_is)
    (case k43 => k_is)
    (case a44 => k_is)
    (case l44 => k_is)
    (case c44 => k_is)
    (case k44 => k_is)
    (case a45 => k_is)
    (case l45 => k_is)
    (case c45 => k_is)
    (case k45 => k_is)
    (case a46 => k_is)
    (case l46 => k_is)
    (case c46 => k_is)
    (case k46 => k_is)
    (case a47 => k_is)
    (case l47 => k_is)
    (case c47 => k_is)
    (case k47 => k_is)
    (case a48 => k_is)
    (case l48 => k_is)
    (case c48 => k_is)
    (case k48 => k_is)
    (case n_Builder_gates => k_is)
    (case n_Builder_inputs => k_is)
    (case n_Builder_known => k_is)
    (case n_Builder_literals => k_is)
    (case n_Builder_registers => k_is)
    (case n_Making_builder => k_is)
    (case n_Making_signs => k_is)
    (case b_bool => k_is)
    (case b_enumerate => k_is)
    (case b_int => k_is)
    (case b_isinstance => k_is)
    (case b_len => k_is)
    (case b_list => k_is)
    (case b_max => k_is)
    (case b_min => k_is)
    (case b_range => k_is)
    (case b_set => k_is)
    (case b_sorted => k_is)
    (case b_str => k_is)
    (case b_sum => k_is)
    (case b_tuple => k_is)
    (case b_zip => k_is)
